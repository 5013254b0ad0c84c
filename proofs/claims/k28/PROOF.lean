import PyProof.Rows.All
import Wide.All
import OpenK.AllK
import Wide.FinOn
import HandS.ForMost
import HandS.Exc
import HandS.CallSlots
import HandS.TryMany
import HandS.Nested
import HandS.Deep
import HandS.TupAny
import HandS.TupMul
import HandS.Flow
import HandS.IsInst
import HandS.Property
import HandS.WordsExc
import HandS.More
import HandS.ExcOwn
import HandS.MakeKwOnly
import HandS.Style
import KE.KOpsOwn
import HandS.EndBits
import PySem.Challenge.RW_sparetails_k28_rules_called
set_option Elab.async false
set_option linter.all false
set_option maxRecDepth 100000
set_option maxHeartbeats 4000000
namespace SD
open PySem PySem.Spec PyProof.Rows L2
abbrev St := L2.St

/-- data by value; ref: an object that is known by its address alone -/
inductive D where
  | non | bl (b : Bool) | int (i : Int) | str (x : Str) | ty (n : String)
  | tup (ds : List D) | lst (ds : List D)
  | ref (a : Addr)
  | dK (kvs : List (Key × D))
  | ins (C : Addr) (fs : List (Str × D))
  /-- the script -/
  | scr (ds : List D)

mutual
/-- v is the datum d; all its objects stand in G, which nobody writes any more -/
inductive Is (K : PySem.W.Frag) (G : Hp) : V → D → Prop
  | non : Is K G .non .non
  | bl (b : Bool) : Is K G (.bl b) (.bl b)
  | int (i : Int) : Is K G (.int i) (.int i)
  | str (x : Str) : Is K G (.str x) (.str x)
  | ty (n : String) : Is K G (.ty n) (.ty n)
  | ref (a : Addr) : Is K G (.ref a) (.ref a)
  | tup {a : Addr} {xs : List V} {ds : List D} : SqT K G a xs → IsL K G xs ds → Is K G (.ref a) (.tup ds)
  | lst {a : Addr} {xs : List V} {ds : List D} : G a = some (.lst xs) → IsL K G xs ds → Is K G (.ref a) (.lst ds)
  | dK {a : Addr} {vs : List (Key × V)} {kvs : List (Key × D)} : G a = some (.dK vs) → IsKV K G vs kvs → Is K G (.ref a) (.dK kvs)
  | ins {a C dx : Addr} {vs : List (Str × V)} {fs : List (Str × D)} : G a = some (.ins C dx vs) → IsF K G vs fs → Is K G (.ref a) (.ins C fs)
  | scr {a : Addr} {xs : List V} {ds : List D} : SqL K G a xs → IsL K G xs ds → Is K G (.ref a) (.scr ds)
inductive IsL (K : PySem.W.Frag) (G : Hp) : List V → List D → Prop
  | nil : IsL K G [] []
  | cons {v : V} {d : D} {vs : List V} {ds : List D} : Is K G v d → IsL K G vs ds → IsL K G (v :: vs) (d :: ds)
inductive IsF (K : PySem.W.Frag) (G : Hp) : List (Str × V) → List (Str × D) → Prop
  | nil : IsF K G [] []
  | cons {f : Str} {v : V} {d : D} {vs : List (Str × V)} {ds : List (Str × D)} : Is K G v d → IsF K G vs ds → IsF K G ((f, v) :: vs) ((f, d) :: ds)
inductive IsKV (K : PySem.W.Frag) (G : Hp) : List (Key × V) → List (Key × D) → Prop
  | nil : IsKV K G [] []
  | cons {f : Key} {v : V} {d : D} {vs : List (Key × V)} {ds : List (Key × D)} : Is K G v d → IsKV K G vs ds → IsKV K G ((f, v) :: vs) ((f, d) :: ds)
end

theorem Same.seqT {K : PySem.W.Frag} {H H' : Hp} {a : Addr} {xs : List V} (e : Same H H') (h : SqT K H a xs) : SqT K H' a xs := by
  rcases h with (h | ⟨o, h⟩) | h
  · exact .inl (.inl (e _ _ h))
  · exact .inl (.inr ⟨o, e _ _ h⟩)
  · exact .inr h

theorem Same.seqL {K : PySem.W.Frag} {H H' : Hp} {a : Addr} {xs : List V} (e : Same H H') (h : SqL K H a xs) : SqL K H' a xs := by
  rcases h with (h | ⟨o, h⟩) | h
  · exact .inl (.inl (e _ _ h))
  · exact .inl (.inr ⟨o, e _ _ h⟩)
  · exact .inr h
section
variable {K : PySem.W.Frag} {G G' : Hp}
mutual
theorem Is.mono (s : Same G G') : ∀ {v : V} {d : D}, Is K G v d → Is K G' v d
  | _, _, .non => .non
  | _, _, .bl b => .bl b
  | _, _, .int i => .int i
  | _, _, .str x => .str x
  | _, _, .ty n => .ty n
  | _, _, .ref a => .ref a
  | _, _, .tup h l => .tup (Same.seqT s h) (IsL.mono s l)
  | _, _, .lst h l => .lst (s _ _ h) (IsL.mono s l)
  | _, _, .dK h l => .dK (s _ _ h) (IsKV.mono s l)
  | _, _, .ins h l => .ins (s _ _ h) (IsF.mono s l)
  | _, _, .scr h l => .scr (Same.seqL s h) (IsL.mono s l)
theorem IsL.mono (s : Same G G') : ∀ {v : List V} {d : List D}, IsL K G v d → IsL K G' v d
  | _, _, .nil => .nil
  | _, _, .cons h l => .cons (Is.mono s h) (IsL.mono s l)
theorem IsF.mono (s : Same G G') : ∀ {v : List (Str × V)} {d : List (Str × D)}, IsF K G v d → IsF K G' v d
  | _, _, .nil => .nil
  | _, _, .cons h l => .cons (Is.mono s h) (IsF.mono s l)
theorem IsKV.mono (s : Same G G') : ∀ {v : List (Key × V)} {d : List (Key × D)}, IsKV K G v d → IsKV K G' v d
  | _, _, .nil => .nil
  | _, _, .cons h l => .cons (Is.mono s h) (IsKV.mono s l)
end
theorem IsL.length : ∀ {v : List V} {d : List D}, IsL K G v d → v.length = d.length
  | _, _, .nil => rfl
  | _, _, .cons _ l => by rw [List.length_cons, List.length_cons, l.length]
theorem IsL.append : ∀ {v v' : List V} {d d' : List D}, IsL K G v d → IsL K G v' d' → IsL K G (v ++ v') (d ++ d')
  | _, _, _, _, .nil, h => h
  | _, _, _, _, .cons h l, h' => .cons h (l.append h')
theorem IsL.get : ∀ {v : List V} {d : List D} {i : Nat} {x : D}, IsL K G v d → d[i]? = some x → ∃ y, v[i]? = some y ∧ Is K G y x
  | _, _, _, _, .nil, e => by simp at e
  | _, _, 0, _, .cons h l, e => by simp at e; subst e; exact ⟨_, rfl, h⟩
  | _, _, i + 1, x, .cons h l, e => by
    obtain ⟨y, e1, e2⟩ := IsL.get (i := i) (x := x) l (by simpa using e)
    exact ⟨y, by simpa using e1, e2⟩
theorem IsL.getV : ∀ {v : List V} {d : List D} {i : Nat} {y : V}, IsL K G v d → v[i]? = some y → ∃ x, d[i]? = some x ∧ Is K G y x
  | _, _, _, _, .nil, e => by simp at e
  | _, _, 0, _, .cons h l, e => by simp at e; subst e; exact ⟨_, rfl, h⟩
  | _, _, i + 1, x, .cons h l, e => by
    obtain ⟨y, e1, e2⟩ := IsL.getV (i := i) (y := x) l (by simpa using e)
    exact ⟨y, by simpa using e1, e2⟩
theorem IsL.set : ∀ {v : List V} {d : List D} (i : Nat) {y : V} {x : D}, IsL K G v d → Is K G y x → IsL K G (v.set i y) (d.set i x)
  | _, _, _, _, _, .nil, _ => .nil
  | _, _, 0, _, _, .cons h l, q => .cons q l
  | _, _, i + 1, _, _, .cons h l, q => .cons h (IsL.set i l q)
theorem IsL.take : ∀ {v : List V} {d : List D} (n : Nat), IsL K G v d → IsL K G (v.take n) (d.take n)
  | _, _, 0, _ => .nil
  | _, _, _ + 1, .nil => .nil
  | _, _, n + 1, .cons h l => .cons h (IsL.take n l)
theorem IsL.drop : ∀ {v : List V} {d : List D} (n : Nat), IsL K G v d → IsL K G (v.drop n) (d.drop n)
  | _, _, 0, h => h
  | _, _, _ + 1, .nil => .nil
  | _, _, n + 1, .cons h l => IsL.drop n l
theorem IsF.lookup {f : Str} : ∀ {v : List (Str × V)} {d : List (Str × D)} {x : D}, IsF K G v d → d.lookup f = some x → ∃ y, v.lookup f = some y ∧ Is K G y x
  | _, _, _, .nil, e => by simp at e
  | _, _, x, @IsF.cons _ _ g v d vs ds h l, e => by
    by_cases q : f == g
    · simp only [List.lookup, q] at e ⊢
      cases e
      exact ⟨_, rfl, h⟩
    · simp only [List.lookup, q] at e ⊢
      exact IsF.lookup l e
theorem IsF.lookup_none {f : Str} : ∀ {v : List (Str × V)} {d : List (Str × D)}, IsF K G v d → d.lookup f = none → v.lookup f = none
  | _, _, .nil, e => rfl
  | _, _, @IsF.cons _ _ g v d vs ds h l, e => by
    by_cases q : f == g
    · simp only [List.lookup, q] at e
      cases e
    · simp only [List.lookup, q] at e ⊢
      exact IsF.lookup_none l e
theorem IsF.length : ∀ {v : List (Str × V)} {d : List (Str × D)}, IsF K G v d → v.length = d.length
  | _, _, .nil => rfl
  | _, _, .cons _ l => by rw [List.length_cons, List.length_cons, l.length]
/-- an attribute stored -/
def putD (f : Str) (x : D) : List (Str × D) → List (Str × D)
  | [] => [(f, x)]
  | (g, y) :: r => if g = f then (g, x) :: r else (g, y) :: putD f x r
theorem IsF.put {f : Str} {y : V} {x : D} (q : Is K G y x) : ∀ {v : List (Str × V)} {d : List (Str × D)}, IsF K G v d → IsF K G (putF f y v) (putD f x d)
  | _, _, .nil => .cons q .nil
  | _, _, @IsF.cons _ _ g v d vs ds h l => by
    show IsF K G (if g = f then (g, y) :: vs else (g, v) :: putF f y vs) (if g = f then (g, x) :: ds else (g, d) :: putD f x ds)
    by_cases e : g = f
    · rw [if_pos e, if_pos e]; exact .cons q l
    · rw [if_neg e, if_neg e]; exact .cons h (IsF.put q l)
end

/-- the text of a nested def: the statement, its name, its qualified name, what it captures -/
structure CloT where
  st : Stmt
  name : Str
  qual : Str
  fr : List Str
/-- a captured cell that holds v -/
def cellO (a : Addr) (v : V) : HO := .ext fun h => ∃ u, RelV v u ∧ h.IsCell a (some u)
inductive DO where
  | lst (ds : List D)
  | ins (C : Addr) (fs : List (Str × D))
  | dK (kvs : List (Key × D))
  /-- the function made of a nested def, its cells by name; a cell -/
  | fn (F : CloT) (cl : List (Str × Addr)) | cell (d : D)
inductive OIs (K : PySem.W.Frag) (G : Hp) : Addr → DO → HO → Prop
  | lst {a : Addr} {xs : List V} {ds : List D} : IsL K G xs ds → OIs K G a (.lst ds) (.lst xs)
  | ins {a C dx : Addr} {vs : List (Str × V)} {fs : List (Str × D)} : IsF K G vs fs → OIs K G a (.ins C fs) (.ins C dx vs)
  | dK {a : Addr} {vs : List (Key × V)} {kvs : List (Key × D)} : IsKV K G vs kvs → OIs K G a (.dK kvs) (.dK vs)
  | fn {f c : Addr} {F : CloT} {cl : List (Str × Addr)} : G c = some (LamX.CodeO c F.qual) → OIs K G f (.fn F cl) (NdefX.FnO f (NdefX.NF.of F.st F.name F.qual cl c))
  | cell {a : Addr} {v : V} {d : D} : Is K G v d → OIs K G a (.cell d) (cellO a v)
theorem OIs.mono {K : PySem.W.Frag} {G G' : Hp} (s : Same G G') {a : Addr} {o : DO} {u : HO} (h : OIs K G a o u) : OIs K G' a o u := by
  cases h with
  | lst l => exact .lst (l.mono s)
  | ins l => exact .ins (l.mono s)
  | dK l => exact .dK (l.mono s)
  | fn e => exact .fn (s _ _ e)
  | cell i => exact .cell (i.mono s)
theorem OIs.notbl {K : PySem.W.Frag} {G : Hp} {a : Addr} {o : DO} {u : HO} (h : OIs K G a o u) : ∀ ps, u ≠ .tbl ps := fun ps z => by
  cases h with
  | lst _ => cases z
  | ins _ => cases z
  | dK _ => cases z
  | fn _ => exact NdefX.fnO_ne ps z
  | cell _ => unfold cellO at z; cases z
abbrev Mp := Addr → Option DO
def updM (M : Mp) (a : Addr) (o : DO) : Mp := fun b => if b = a then some o else M b
def delM (M : Mp) (a : Addr) : Mp := fun b => if b = a then none else M b
theorem updM_same {M : Mp} {a : Addr} {o : DO} : updM M a o a = some o := if_pos rfl
theorem updM_ne {M : Mp} {a b : Addr} {o : DO} (h : b ≠ a) : updM M a o b = M b := if_neg h
theorem delM_same {M : Mp} {a : Addr} : delM M a a = none := if_pos rfl
theorem delM_ne {M : Mp} {a b : Addr} (h : b ≠ a) : delM M a b = M b := if_neg h
theorem updM_updM {M : Mp} {a : Addr} {o u : DO} : updM (updM M a o) a u = updM M a u := by
  funext b; unfold updM; split <;> rfl
theorem neM {M : Mp} {a b : Addr} {o : DO} (h : M a = some o) (h' : M b = none) : a ≠ b := by
  intro e; subst e; rw [h] at h'; cases h'
/-- fewer objects are known -/
def LeM (M M' : Mp) : Prop := ∀ a o, M a = some o → M' a = some o
theorem LeM.refl (M : Mp) : LeM M M := fun _ _ h => h
theorem LeM.trans {M M' M'' : Mp} (a : LeM M M') (b : LeM M' M'') : LeM M M'' := fun c o h => b c o (a c o h)

/-- the tables of code objects; what stood ahead -/
structure TB where
  tabs : List NdefX.NTab
  /-- the data heap that stood ahead of the call -/
  base : Hp
/-- the abstract heap bears the data heap G and the changing objects M -/
structure Rp (K : PySem.W.Frag) (T : TB) (G : Hp) (M : Mp) (H : Hp) : Prop where
  sub : Same G H
  mt : ∀ a o, M a = some o → G a = none ∧ ∃ u, H a = some u ∧ OIs K G a o u
  tab : NdefX.TabsN T.tabs H
  bs : Same T.base G
  nt : ∀ a ps, G a ≠ some (.tbl ps)
section
variable {K : PySem.W.Frag} {T : TB} {G G' H H' : Hp} {M M' : Mp} {p : Addr} {o : HO} {u : DO}
theorem Rp.freeG (r : Rp K T G M H) (h : H p = none) : G p = none := r.sub.free h
theorem Rp.freeM (r : Rp K T G M H) (h : H p = none) : M p = none := by
  cases e : M p with
  | none => rfl
  | some q =>
    obtain ⟨_, u, hu, _⟩ := r.mt p q e
    rw [h] at hu; cases hu
theorem Rp.le (r : Rp K T G M H) (l : LeM M' M) : Rp K T G M' H := ⟨r.sub, fun a o h => r.mt a o (l a o h), r.tab, r.bs, r.nt⟩
theorem same_upd {H : Hp} {p : Addr} {o : HO} (h : H p = none) : Same H (upd H p o) := fun b u e => by rw [upd_ne (ne_of_none e h)]; exact e
/-- a new object, never written -/
theorem nt_upd {G : Hp} {p : Addr} {o : HO} (h : ∀ a ps, G a ≠ some (.tbl ps)) (n : ∀ ps, o ≠ .tbl ps) : ∀ a ps, upd G p o a ≠ some (.tbl ps) := fun a ps e => by
  by_cases ha : a = p
  · subst ha; rw [upd_same] at e; exact n ps (Option.some.inj e)
  · rw [upd_ne ha] at e; exact h a ps e
theorem Rp.newG (r : Rp K T G M H) (h : H p = none) (n : ∀ ps, o ≠ .tbl ps := by intro _ z; cases z) : Rp K T (upd G p o) M (upd H p o) := by
  have hg := r.freeG h
  refine ⟨fun b u e => ?_, fun a q e => ?_, r.tab.ext (same_upd h), r.bs.trans (same_upd hg), nt_upd r.nt n⟩
  · by_cases hb : b = p
    · subst hb; rw [upd_same] at e ⊢; exact e
    · rw [upd_ne hb] at e ⊢; exact r.sub b u e
  · obtain ⟨g, u, hu, i⟩ := r.mt a q e
    have ne : a ≠ p := ne_of_none hu h
    exact ⟨by rw [upd_ne ne]; exact g, u, by rw [upd_ne ne]; exact hu, i.mono (same_upd hg)⟩
/-- a new object, to be written -/
theorem Rp.newM (r : Rp K T G M H) (h : H p = none) (i : OIs K G p u o) : Rp K T G (updM M p u) (upd H p o) := by
  have hg := r.freeG h
  refine ⟨fun b u e => ?_, fun a q e => ?_, r.tab.ext (same_upd h), r.bs, r.nt⟩
  · rw [upd_ne (ne_of_none e hg)]; exact r.sub b u e
  · by_cases ha : a = p
    · subst ha; rw [updM_same] at e; cases e
      exact ⟨hg, o, upd_same, i⟩
    · rw [updM_ne ha] at e
      obtain ⟨g, v, hv, j⟩ := r.mt a q e
      exact ⟨g, v, by rw [upd_ne ha]; exact hv, j⟩
/-- an object is written: neither a table nor a code object stood there -/
theorem Rp.put (r : Rp K T G M H) {q : DO} (e : M p = some q) (nt : ∀ u, H p = some u → (∀ ps, u ≠ .tbl ps) ∧ ∀ c n, u ≠ LamX.CodeO c n) (i : OIs K G p u o) : Rp K T G (updM M p u) (upd H p o) := by
  obtain ⟨hg, v, hv, _⟩ := r.mt p q e
  obtain ⟨n1, n2⟩ := nt v hv
  refine ⟨fun b u e => ?_, fun a q e => ?_, fun x hx => ?_, r.bs, r.nt⟩
  · rw [upd_ne (ne_of_none e hg)]; exact r.sub b u e
  · by_cases ha : a = p
    · subst ha; rw [updM_same] at e; cases e
      exact ⟨hg, o, upd_same, i⟩
    · rw [updM_ne ha] at e
      obtain ⟨g, v, hv, j⟩ := r.mt a q e
      exact ⟨g, v, by rw [upd_ne ha]; exact hv, j⟩
  · obtain ⟨ps, h1, h2, h3⟩ := r.tab x hx
    refine ⟨ps, ?_, h2, fun pos cv hc => ?_⟩
    · rw [upd_ne (ne_of h1 hv fun z => n1 ps z.symm)]; exact h1
    · obtain ⟨c, e1, e2⟩ := h3 pos cv hc
      exact ⟨c, e1, by rw [upd_ne (ne_of e2 hv fun z => n2 _ _ z.symm)]; exact e2⟩
/-- a changing object is never written any more -/
theorem Rp.frz (r : Rp K T G M H) {q : DO} (e : M p = some q) : ∃ v, H p = some v ∧ OIs K G p q v ∧ G p = none ∧ Rp K T (upd G p v) (delM M p) H := by
  obtain ⟨hg, v, hv, i⟩ := r.mt p q e
  refine ⟨v, hv, i, hg, fun b u e => ?_, fun a q' e' => ?_, r.tab, r.bs.trans (same_upd hg), nt_upd r.nt (i.notbl)⟩
  · by_cases hb : b = p
    · subst hb; rw [upd_same] at e; cases e; exact hv
    · rw [upd_ne hb] at e; exact r.sub b u e
  · by_cases ha : a = p
    · subst ha; rw [delM_same] at e'; cases e'
    · rw [delM_ne ha] at e'
      obtain ⟨g, w, hw, j⟩ := r.mt a q' e'
      exact ⟨by rw [upd_ne ha]; exact g, w, hw, j.mono (same_upd hg)⟩
end

abbrev DEnv := List (Option D)
structure Sl (K : PySem.W.Frag) (G : Hp) (ρ : DEnv) (σ : St) : Prop where
  len : σ.length = ρ.length
  get : ∀ (i : Nat) d, ρ[i]? = some (some d) → ∃ v, σ[i]? = some (some v) ∧ Is K G v d
section
variable {K : PySem.W.Frag} {G G' : Hp} {ρ : DEnv} {σ : St}
theorem Sl.mono (s : Same G G') (h : Sl K G ρ σ) : Sl K G' ρ σ := ⟨h.len, fun i d e => let ⟨v, a, b⟩ := h.get i d e; ⟨v, a, b.mono s⟩⟩
theorem Sl.set (h : Sl K G ρ σ) (i : Nat) {v : V} {d : D} (q : Is K G v d) : Sl K G (ρ.set i (some d)) (σ.set i (some v)) := by
  refine ⟨by rw [List.length_set, List.length_set]; exact h.len, fun j x e => ?_⟩
  by_cases hj : j = i
  · subst hj
    by_cases hl : j < ρ.length
    · rw [List.getElem?_set_self hl] at e; cases e
      exact ⟨v, by rw [List.getElem?_set_self (by rw [h.len]; exact hl)], q⟩
    · rw [List.getElem?_eq_none (by rw [List.length_set]; omega)] at e; cases e
  · rw [List.getElem?_set_ne (Ne.symm hj)] at e
    obtain ⟨w, a, b⟩ := h.get j x e
    exact ⟨w, by rw [List.getElem?_set_ne (Ne.symm hj)]; exact a, b⟩
theorem Sl.unset (h : Sl K G ρ σ) (i : Nat) : Sl K G (ρ.set i none) (σ.set i none) := by
  refine ⟨by rw [List.length_set, List.length_set]; exact h.len, fun j x e => ?_⟩
  by_cases hj : j = i
  · subst hj
    by_cases hl : j < ρ.length
    · rw [List.getElem?_set_self hl] at e; cases e
    · rw [List.getElem?_eq_none (by rw [List.length_set]; omega)] at e; cases e
  · rw [List.getElem?_set_ne (Ne.symm hj)] at e
    obtain ⟨w, a, b⟩ := h.get j x e
    exact ⟨w, by rw [List.getElem?_set_ne (Ne.symm hj)]; exact a, b⟩
theorem Sl.start {N : List Str} {vs : List V} {ds : List D} (h : IsL K G vs ds) : Sl K G (ds.map some ++ List.replicate (N.length - ds.length) none) (L2.start N vs) := by
  unfold L2.start
  refine ⟨by simp [h.length], fun i d e => ?_⟩
  by_cases hl : i < ds.length
  · rw [List.getElem?_append_left (by simpa using hl), List.getElem?_map] at e
    obtain ⟨x, ex, e'⟩ := Option.map_eq_some_iff.mp e
    cases e'
    obtain ⟨v, ev, q⟩ := h.get ex
    exact ⟨v, by rw [List.getElem?_append_left (by rw [List.length_map, h.length]; exact hl), List.getElem?_map, ev]; rfl, q⟩
  · rw [List.getElem?_append_right (by simpa using hl), List.getElem?_replicate] at e
    split at e <;> cases e
end

abbrev DK := D → Mp → Prop
abbrev DE := DEnv → Mp → DK → Prop
abbrev DT := DEnv → Mp → (Bool → Mp → Prop) → Prop
abbrev DA := DEnv → Mp → (List D → Mp → Prop) → Prop
structure DEnds where
  nx : DEnv → Mp → Prop
  rt : DK
  bk : DEnv → Mp → Prop := fun _ _ => False
  ct : DEnv → Mp → Prop := fun _ _ => False
abbrev DS := DEnds → DEnv → Mp → Prop
section
variable (K : PySem.W.Frag) (T : TB)
def lK (G : Hp) (R : DK) (Q : VK) : Prop := ∀ d M' v G' H', R d M' → Same G G' → Rp K T G' M' H' → Is K G' v d → Q v H'
def lE (t : DE) : TE := fun σ H Q => ∃ ρ G M R, Sl K G ρ σ ∧ Rp K T G M H ∧ t ρ M R ∧ lK K T G R Q
def lT (t : DT) : TT := fun σ H Q => ∃ ρ G M, ∃ R : Bool → Mp → Prop, Sl K G ρ σ ∧ Rp K T G M H ∧ t ρ M R ∧ ∀ b M' G' H', R b M' → Same G G' → Rp K T G' M' H' → Q b H'
def lA (t : DA) : TA := fun σ H Q => ∃ ρ G M, ∃ R : List D → Mp → Prop, Sl K G ρ σ ∧ Rp K T G M H ∧ t ρ M R ∧ ∀ ds M' vs G' H', R ds M' → Same G G' → Rp K T G' M' H' → IsL K G' vs ds → Q vs H'
def lN (G : Hp) (R : DEnv → Mp → Prop) (Q : St → Hp → Prop) : Prop := ∀ ρ' M' σ' G' H', R ρ' M' → Same G G' → Sl K G' ρ' σ' → Rp K T G' M' H' → Q σ' H'
structure lD (G : Hp) (E : DEnds) (D : Ends) : Prop where
  nx : lN K T G E.nx D.nx
  rt : lK K T G E.rt D.rt
  bk : lN K T G E.bk D.bk
  ct : lN K T G E.ct D.ct
def lS (t : DS) : TS := fun D σ H => ∃ ρ G M E, Sl K G ρ σ ∧ Rp K T G M H ∧ t E ρ M ∧ lD K T G E D
end
section
variable {K : PySem.W.Frag} {T : TB} {G G' : Hp}
theorem lK.mono {R : DK} {Q : VK} (s : Same G G') (h : lK K T G R Q) : lK K T G' R Q := fun d M' v G2 H' r s2 => h d M' v G2 H' r (s.trans s2)
theorem lN.mono {R : DEnv → Mp → Prop} {Q : St → Hp → Prop} (s : Same G G') (h : lN K T G R Q) : lN K T G' R Q := fun ρ M' σ' G2 H' r s2 => h ρ M' σ' G2 H' r (s.trans s2)
theorem lD.mono {E : DEnds} {D : Ends} (s : Same G G') (h : lD K T G E D) : lD K T G' E D := ⟨h.nx.mono s, h.rt.mono s, h.bk.mono s, h.ct.mono s⟩
end
abbrev XE (X : Cx) (T : TB) (e : Expr) (t : DE) : Prop := PE X e (lE X.K T t)
abbrev XT (X : Cx) (T : TB) (e : Expr) (t : DT) : Prop := PT X e (lT X.K T t)
abbrev XW (X : Cx) (T : TB) (e : Expr) (t : DT) : Prop := PW X e (lT X.K T t)
abbrev XA (X : Cx) (T : TB) (es : List Expr) (t : DA) : Prop := PA X es (lA X.K T t)
abbrev XS (X : Cx) (T : TB) (s : Stmt) (t : DS) : Prop := PS X s (lS X.K T t)
abbrev XSs (X : Cx) (T : TB) (s : List Stmt) (t : DS) : Prop := PSs X s (lS X.K T t)
theorem _root_.L2.PE.imp {X : Cx} {e : Expr} {t t' : TE} (h : PE X e t) (w : ∀ σ H Q, t' σ H Q → t σ H Q) : PE X e t' := ⟨fun pins s σ H Q I q => h.run pins s σ H Q I (w σ H Q q)⟩
theorem _root_.L2.PT.imp {X : Cx} {e : Expr} {t t' : TT} (h : PT X e t) (w : ∀ σ H Q, t' σ H Q → t σ H Q) : PT X e t' := ⟨fun pins s σ H Q I q => h.run pins s σ H Q I (w σ H Q q)⟩
theorem _root_.L2.PW.imp {X : Cx} {e : Expr} {t t' : TT} (h : PW X e t) (w : ∀ σ H Q, t' σ H Q → t σ H Q) : PW X e t' := ⟨fun wh pins s σ H Q I q => h.run wh pins s σ H Q I (w σ H Q q)⟩
theorem _root_.L2.PA.imp {X : Cx} {e : List Expr} {t t' : TA} (h : PA X e t) (w : ∀ σ H Q, t' σ H Q → t σ H Q) : PA X e t' := ⟨fun p pins s σ H Q I q => h.run p pins s σ H Q I (w σ H Q q)⟩
theorem _root_.L2.PS.imp {X : Cx} {e : Stmt} {t t' : TS} (h : PS X e t) (w : ∀ D σ H, t' D σ H → t D σ H) : PS X e t' := ⟨fun pins s σ H D I q => h.run pins s σ H D I (w D σ H q)⟩
theorem _root_.L2.PSs.imp {X : Cx} {e : List Stmt} {t t' : TS} (h : PSs X e t) (w : ∀ D σ H, t' D σ H → t D σ H) : PSs X e t' := ⟨fun pins s σ H D I q => h.run pins s σ H D I (w D σ H q)⟩
end SD
namespace SD
open PySem PySem.Spec PyProof.Rows L2

mutual
inductive See (M : Mp) : D → PyData → Prop
  | non : See M .non .none
  | bl (b : Bool) : See M (.bl b) (.bool b)
  | int (i : Int) : See M (.int i) (.int i)
  | str (x : Str) : See M (.str x) (.str x)
  | lst {ds : List D} {ps : List PyData} : SeeL M ds ps → See M (.lst ds) (.list ps)
  | tup {ds : List D} {ps : List PyData} : SeeL M ds ps → See M (.tup ds) (.tuple ps)
  | ref {a : Addr} {ds : List D} {ps : List PyData} : M a = some (.lst ds) → SeeL M ds ps → See M (.ref a) (.list ps)
inductive SeeL (M : Mp) : List D → List PyData → Prop
  | nil : SeeL M [] []
  | cons {d : D} {p : PyData} {ds : List D} {ps : List PyData} : See M d p → SeeL M ds ps → SeeL M (d :: ds) (p :: ps)
end
section
variable {K : PySem.W.Frag} {T : TB} {G H : Hp} {M : Mp}
theorem SqT.sub (s : Same G H) {a : Addr} {xs : List V} (h : SqT K G a xs) : SqT K H a xs := Same.seqT s h
mutual
theorem See.dp (r : Rp K T G M H) : ∀ {d : D} {p : PyData} {v : V}, See M d p → Is K G v d → Dp K H v p
  | _, _, _, .non, .non => .non
  | _, _, _, .bl b, .bl _ => .bl b
  | _, _, _, .int b, .int _ => .int b
  | _, _, _, .str b, .str _ => .str b
  | _, _, _, .lst h, .lst g l => .lst (.inl (.inl (r.sub _ _ g))) (SeeL.dp r h l)
  | _, _, _, .tup h, .tup g l => .tup (SqT.sub r.sub g) (SeeL.dp r h l)
  | _, _, _, .ref e h, .ref _ => by
    obtain ⟨_, u, hu, i⟩ := r.mt _ _ e
    cases i with
    | lst l => exact .lst (.inl (.inl hu)) (SeeL.dp r h l)
theorem SeeL.dp (r : Rp K T G M H) : ∀ {d : List D} {p : List PyData} {v : List V}, SeeL M d p → IsL K G v d → DpAll K H v p
  | _, _, _, .nil, .nil => .nil
  | _, _, _, .cons h hs, .cons i is => .cons (See.dp r h i) (SeeL.dp r hs is)
end
end

def dV (i : Nat) : DE := fun ρ M Q => ∃ d, ρ[i]? = some (some d) ∧ Q d M
def dC (d : D) : DE := fun _ M Q => Q d M
section
variable {X : Cx} {T : TB} {a b c e : Expr} {ta tb tc te : DE} {pos : Pos}
theorem lK.now {K : PySem.W.Frag} {G H : Hp} {M : Mp} {R : DK} {Q : VK} {d : D} {v : V} (k : lK K T G R Q) (rp : Rp K T G M H) (i : Is K G v d) (h : R d M) : Q v H := k d M v G H h (Same.refl G) rp i
theorem xv (i : Nat) {x : Str} {pos : Pos} (hN : X.N[i]? = some x := by rfl) (hv : Vis X.env.scope x := by first | exact Or.inl rfl | exact Or.inr (Or.inl rfl) | exact Or.inr (Or.inr rfl)) (hd : (x == ("__debug__" : Str)) = false := by decide)
    (hcd : (x == ("__classdict__" : Str)) = false := by decide) : XE X T (.Name x pos) (dV i) :=
  (pe_var hN hv hd hcd).imp fun σ H Q ⟨ρ, G, M, R, sl, rp, ⟨d, e, h⟩, k⟩ => by
    obtain ⟨v, ev, i⟩ := sl.get _ d e
    exact ⟨v, ev, k.now rp i h⟩
theorem xc {v : V} {d : D} (h : PE X e (tC v)) (i : ∀ G, Is X.K G v d) : XE X T e (dC d) := h.imp fun σ H Q ⟨ρ, G, M, R, sl, rp, h, k⟩ => k.now rp (i G) h
theorem xint {i j pos} : XE X T (.Constant (.int i) j pos) (dC (.int i)) := xc pe_int fun _ => .int _
theorem xbl {b j pos} : XE X T (.Constant (.bool b) j pos) (dC (.bl b)) := xc pe_bl fun _ => .bl _
theorem xnon {j pos} : XE X T (.Constant .none j pos) (dC .non) := xc pe_non fun _ => .non
theorem xstr {x j pos} : XE X T (.Constant (.str x) j pos) (dC (.str x)) := xc pe_str fun _ => .str _

abbrev D2 := D → D → Mp → DK → Prop
def OpC (K : PySem.W.Frag) (T : TB) (r : R2) (rd : D2) : Prop := ∀ G M H v u x y R Q, Rp K T G M H → Is K G v x → Is K G u y → rd x y M R → lK K T G R Q → r v u H Q
def dOp (rd : D2) (ta tb : DE) : DE := fun ρ M Q => ta ρ M fun x M1 => tb ρ M1 fun y M2 => rd x y M2 Q
theorem lOp {r : R2} {rd : D2} (c : OpC X.K T r rd) {σ : St} {H : Hp} {Q : VK} (h : lE X.K T (dOp rd ta tb) σ H Q) : tOp r (lE X.K T ta) (lE X.K T tb) σ H Q := by
  obtain ⟨ρ, G, M, R, sl, rp, h, k⟩ := h
  exact ⟨ρ, G, M, _, sl, rp, h, fun x M1 v G1 H1 q1 s1 rp1 i1 => ⟨ρ, G1, M1, _, sl.mono s1, rp1, q1, fun y M2 u G2 H2 q2 s2 rp2 i2 => c G2 M2 H2 v u x y R Q rp2 (i1.mono s2) i2 q2 (k.mono (s1.trans s2))⟩⟩
theorem xop {op : Operator} {r : R2} {rd : D2} (ho : OpR X (binaryOp op) r) (c : OpC X.K T r rd) (ha : XE X T a ta) (hb : XE X T b tb) : XE X T (.BinOp a op b pos) (dOp rd ta tb) :=
  (pe_op ho ha hb).imp fun σ H Q h => lOp c h

/-- a new list: told by its place (true), by its items (false) -/
def newL (m : Bool) (ds : List D) (M : Mp) (Q : DK) : Prop := match m with
  | false => Q (.lst ds) M
  | true => ∀ p, M p = none → Q (.ref p) (updM M p (.lst ds))
theorem newL_ok {K : PySem.W.Frag} {G H : Hp} {M : Mp} {m : Bool} {ds : List D} {xs : List V} {R : DK} {Q : VK} {p : Addr} (rp : Rp K T G M H) (i : IsL K G xs ds) (h : newL m ds M R) (k : lK K T G R Q) (hp : H p = none) : Q (.ref p) (upd H p (.lst xs)) := by
  have hg := rp.freeG hp
  cases m with
  | false => exact k _ M _ (upd G p (.lst xs)) _ h (same_upd hg) (rp.newG hp) (.lst upd_same (i.mono (same_upd hg)))
  | true => exact k _ _ _ G _ (h p (rp.freeM hp)) (Same.refl G) (rp.newM hp (.lst i)) (.ref p)
/-- a new tuple -/
theorem newT_ok {K : PySem.W.Frag} {G H : Hp} {M : Mp} {ds : List D} {xs : List V} {R : DK} {Q : VK} {p : Addr} (rp : Rp K T G M H) (i : IsL K G xs ds) (h : R (.tup ds) M) (k : lK K T G R Q) (hp : H p = none) : Q (.ref p) (upd H p (.tup xs)) := by
  have hg := rp.freeG hp
  exact k _ M _ (upd G p (.tup xs)) _ h (same_upd hg) (rp.newG hp) (.tup (.inl (.inl upd_same)) (i.mono (same_upd hg)))
/-- the items of a list, by value or by place -/
def lstOf (M : Mp) : D → Option (List D)
  | .lst ds => some ds
  | .ref a => match M a with
    | some (.lst ds) => some ds
    | _ => none
  | _ => none
theorem lstOf_ok {K : PySem.W.Frag} {G H : Hp} {M : Mp} {x : D} {v : V} {ds : List D} (rp : Rp K T G M H) (i : Is K G v x) (h : lstOf M x = some ds) : ∃ a xs, v = .ref a ∧ H a = some (.lst xs) ∧ IsL K G xs ds := by
  cases i with
  | lst g l =>
    cases h
    exact ⟨_, _, rfl, rp.sub _ _ g, l⟩
  | ref a =>
    cases e : M a with
    | none => simp [lstOf, e] at h
    | some o =>
      cases o with
      | lst ds' =>
        simp [lstOf, e] at h
        subst h
        obtain ⟨_, u, hu, j⟩ := rp.mt _ _ e
        cases j with
        | lst l => exact ⟨_, _, rfl, hu, l⟩
      | _ => simp [lstOf, e] at h
  | _ => cases h
theorem isT_inv {K : PySem.W.Frag} {G H : Hp} {M : Mp} {v : V} {ds : List D} (rp : Rp K T G M H) (i : Is K G v (.tup ds)) : ∃ a xs, v = .ref a ∧ SqT K H a xs ∧ SqT K G a xs ∧ IsL K G xs ds := by
  cases i with
  | tup g l => exact ⟨_, _, rfl, SqT.sub rp.sub g, g, l⟩

/-- x + y -/
def rAddA (K : PySem.W.Frag) : R2 := fun x y H Q => rI0 (fun i j => .int (i + j)) x y H Q ∨ (∃ i j, x = .str i ∧ y = .str j ∧ i.length + j.length ≤ sizeLine ∧ Q (.str (i ++ j)) H) ∨ rCat x y H Q ∨ rCatA K x y H Q
theorem op_addA : OpR X (binaryOp .Add) (rAddA X.K) := op_add.or (op_add_str.or (op_cat.or op_catA))
def dAdd (m : Bool) : D2 := fun x y M Q => match x, y with
  | .int i, .int j => Q (.int (i + j)) M
  | .str i, .str j => i.length + j.length ≤ sizeLine ∧ Q (.str (i ++ j)) M
  | .tup a, .tup b => a.length + b.length ≤ sizeLine ∧ Q (.tup (a ++ b)) M
  | x, y => ∃ a b, lstOf M x = some a ∧ lstOf M y = some b ∧ a.length + b.length ≤ sizeLine ∧ newL m (a ++ b) M Q
theorem IsL.nil_iff {K : PySem.W.Frag} {G : Hp} {xs : List V} {ds : List D} (l : IsL K G xs ds) : xs = [] ↔ ds = [] := by
  cases l <;> simp
theorem oc_add (m : Bool) : OpC X.K T (rAddA X.K) (dAdd m) := by
  intro G M H v u x y R Q rp i j h k
  unfold dAdd at h
  split at h
  · rename_i a b
    cases i; cases j
    exact .inl ⟨_, _, rfl, rfl, k.now rp (.int _) h⟩
  · rename_i a b
    cases i; cases j
    exact .inr (.inl ⟨_, _, rfl, rfl, h.1, k.now rp (.str _) h.2⟩)
  · rename_i a b
    obtain ⟨p, xs, rfl, h1, g1, l1⟩ := isT_inv rp i
    obtain ⟨q, ys, rfl, h2, g2, l2⟩ := isT_inv rp j
    refine .inr (.inr (.inr ⟨p, q, xs, ys, rfl, rfl, h1, h2, by rw [l1.length, l2.length]; exact h.1, fun e => ?_, fun _ e => ?_, fun _ _ z hz => newT_ok rp (l1.append l2) h.2 k hz⟩))
    · have := l1.nil_iff.mp e
      subst this
      exact k.now rp (.tup g2 l2) h.2
    · have := l2.nil_iff.mp e
      subst this
      have hh := h.2
      rw [List.append_nil] at hh
      exact k.now rp (.tup g1 l1) hh
  · obtain ⟨a, b, ha, hb, hz, h⟩ := h
    obtain ⟨p, xs, rfl, e1, l1⟩ := lstOf_ok rp i ha
    obtain ⟨q, ys, rfl, e2, l2⟩ := lstOf_ok rp j hb
    exact .inr (.inr (.inl ⟨p, q, xs, ys, rfl, rfl, e1, e2, by rw [l1.length, l2.length]; exact hz, fun z hz => newL_ok rp (l1.append l2) h k hz⟩))
theorem xadd (m : Bool) (ha : XE X T a ta) (hb : XE X T b tb) : XE X T (.BinOp a .Add b pos) (dOp (dAdd m) ta tb) := xop op_addA (oc_add m) ha hb

/-- ints alone -/
def dI (C : Int → Int → Prop) (g : Int → Int → D) : D2 := fun x y M Q => match x, y with
  | .int i, .int j => C i j ∧ Q (g i j) M
  | _, _ => False
theorem oc_I {C : Int → Int → Prop} {g : Int → Int → Int} : OpC X.K T (rI C fun i j => .int (g i j)) (dI C fun i j => .int (g i j)) := by
  intro G M H v u x y R Q rp i j h k
  unfold dI at h
  split at h
  · cases i; cases j
    exact ⟨_, _, rfl, rfl, h.1, k.now rp (.int _) h.2⟩
  · exact h.elim
def dI0 (g : Int → Int → D) : D2 := fun x y M Q => match x, y with
  | .int i, .int j => Q (g i j) M
  | _, _ => False
theorem oc_I0 {g : Int → Int → Int} : OpC X.K T (rI0 fun i j => .int (g i j)) (dI0 fun i j => .int (g i j)) := by
  intro G M H v u x y R Q rp i j h k
  unfold dI0 at h
  split at h
  · cases i; cases j
    exact ⟨_, _, rfl, rfl, k.now rp (.int _) h⟩
  · exact h.elim
theorem oc_B0 {g : Int → Int → Bool} : OpC X.K T (rI0 fun i j => .bl (g i j)) (dI0 fun i j => .bl (g i j)) := by
  intro G M H v u x y R Q rp i j h k
  unfold dI0 at h
  split at h
  · cases i; cases j
    exact ⟨_, _, rfl, rfl, k.now rp (.bl _) h⟩
  · exact h.elim
theorem xsub (ha : XE X T a ta) (hb : XE X T b tb) : XE X T (.BinOp a .Sub b pos) (dOp (dI0 fun i j => .int (i - j)) ta tb) := xop op_sub oc_I0 ha hb
theorem xfdiv (ha : XE X T a ta) (hb : XE X T b tb) : XE X T (.BinOp a .FloorDiv b pos) (dOp (dI CDiv fun i j => .int (i / j)) ta tb) := xop op_fdiv oc_I ha hb
theorem xmod (ha : XE X T a ta) (hb : XE X T b tb) : XE X T (.BinOp a .Mod b pos) (dOp (dI (fun _ j => 0 < j) fun i j => .int (i % j)) ta tb) := xop op_mod oc_I ha hb
theorem xpow (ha : XE X T a ta) (hb : XE X T b tb) : XE X T (.BinOp a .Pow b pos) (dOp (dI CPow fun i j => .int (i ^ j.toNat)) ta tb) := xop op_pow oc_I ha hb
/-- x * y: ints, a list so often -/
def rMulA : R2 := fun x y H Q => rI CMul (fun i j => .int (i * j)) x y H Q ∨ rRep x y H Q
theorem op_mulA : OpR X (binaryOp .Mult) rMulA := op_mul.or op_rep
def dMul (m : Bool) : D2 := fun x y M Q => match x, y with
  | .int i, .int j => CMul i j ∧ Q (.int (i * j)) M
  | x, .int k => ∃ a, lstOf M x = some a ∧ -(2 ^ 63) ≤ k ∧ k < 2 ^ 63 ∧ a.length * k.toNat ≤ sizeLine ∧ newL m (List.replicate k.toNat a).flatten M Q
  | _, _ => False
theorem IsL.flat {K : PySem.W.Frag} {G : Hp} {xs : List V} {ds : List D} (l : IsL K G xs ds) : ∀ n, IsL K G (List.replicate n xs).flatten (List.replicate n ds).flatten
  | 0 => .nil
  | n + 1 => by
    rw [List.replicate_succ, List.replicate_succ, List.flatten_cons, List.flatten_cons]
    exact l.append (IsL.flat l n)
theorem oc_mul (m : Bool) : OpC X.K T rMulA (dMul m) := by
  intro G M H v u x y R Q rp i j h k
  unfold dMul at h
  split at h
  · cases i; cases j
    exact .inl ⟨_, _, rfl, rfl, h.1, k.now rp (.int _) h.2⟩
  · obtain ⟨a, ha, h1, h2, hz, h⟩ := h
    obtain ⟨p, xs, rfl, e1, l1⟩ := lstOf_ok rp i ha
    cases j
    exact .inr ⟨p, _, xs, rfl, rfl, e1, h1, h2, by rw [l1.length]; exact hz, fun z hz => newL_ok rp (l1.flat _) h k hz⟩
  · exact h.elim
theorem xmul (m : Bool) (ha : XE X T a ta) (hb : XE X T b tb) : XE X T (.BinOp a .Mult b pos) (dOp (dMul m) ta tb) := xop op_mulA (oc_mul m) ha hb
def dNeg (ta : DE) : DE := fun ρ M Q => ta ρ M fun x M1 => match x with
  | .int i => Q (.int (-i)) M1
  | _ => False
theorem xneg (ha : XE X T a ta) : XE X T (.UnaryOp .USub a pos) (dNeg ta) :=
  (pe_un un_neg ha).imp fun σ H Q ⟨ρ, G, M, R, sl, rp, h, k⟩ => ⟨ρ, G, M, _, sl, rp, h, fun x M1 v G1 H1 q1 s1 rp1 i1 => by
    split at q1
    · cases i1
      exact ⟨_, rfl, (k.mono s1).now rp1 (.int _) q1⟩
    · exact q1.elim⟩

def rOr (r r' : R2) : R2 := fun x y H Q => r x y H Q ∨ r' x y H Q
/-- x == y: what is seen of them -/
def dEq : D2 := fun x y M Q => ∃ p q, See M x p ∧ See M y q ∧ SeqAt.shaped p = true ∧ SeqAt.shaped q = true ∧ Q (.bl (PyData.eqv p q)) M
def dNe : D2 := fun x y M Q => ∃ p q, See M x p ∧ See M y q ∧ SeqAt.shaped p = true ∧ SeqAt.shaped q = true ∧ Q (.bl (!PyData.eqv p q)) M
theorem oc_eq : OpC X.K T (rEqD X.K) dEq := fun G M H v u x y R Q rp i j ⟨p, q, s1, s2, h1, h2, h⟩ k => ⟨p, q, s1.dp rp i, s2.dp rp j, h1, h2, k.now rp (.bl _) h⟩
theorem oc_ne : OpC X.K T (rNeD X.K) dNe := fun G M H v u x y R Q rp i j ⟨p, q, s1, s2, h1, h2, h⟩ k => ⟨p, q, s1.dp rp i, s2.dp rp j, h1, h2, k.now rp (.bl _) h⟩
theorem xcmp {op : CmpOp} {r : R2} {rd : D2} (ho : OpR X (compareOp op) r) (c : OpC X.K T r rd) (ha : XE X T a ta) (hb : XE X T b tb) (hm : behindInMarks op b = false) : XE X T (.Compare a [op] [b] pos) (dOp rd ta tb) :=
  (pe_cmpR ho ha hb hm).imp fun σ H Q h => lOp c h
/-- a value that is a truth, as a test -/
def dB (t : DE) : DT := fun ρ M Q => t ρ M fun x M1 => match x with
  | .bl b => Q b M1
  | _ => False
theorem tcmp {op : CmpOp} {r : R2} {rd : D2} (ho : OpR X (compareOp op) r) (c : OpC X.K T r rd) (ha : XE X T a ta) (hb : XE X T b tb) (hm : behindInMarks op b = false) : XT X T (.Compare a [op] [b] pos) (dB (dOp rd ta tb)) :=
  (pt_cmpR ho ha hb hm).imp fun σ H Q ⟨ρ, G, M, R, sl, rp, h, k⟩ => lOp (ta := ta) (tb := tb) c ⟨ρ, G, M, _, sl, rp, h, fun x M1 v G1 H1 q1 s1 rp1 i1 => by
    split at q1
    · cases i1
      exact ⟨_, rfl, k _ _ _ _ q1 s1 rp1⟩
    · exact q1.elim⟩
def isNon : D → Bool
  | .non => true
  | _ => false
theorem op_is_isN : OpC X.K T (fun x y H Q => y = .non ∧ Q (.bl (decide (x = .non))) H) (fun x y M Q => match y with
  | .non => Q (.bl (isNon x)) M
  | _ => False) := by
  intro G M H v u x y R Q rp i j h k
  split at h
  · cases j
    refine ⟨rfl, ?_⟩
    have e : decide (v = V.non) = isNon x := by cases i <;> simp [isNon]
    rw [e]
    exact k.now rp (.bl _) h
  · exact h.elim
theorem op_is_notN : OpC X.K T (fun x y H Q => y = .non ∧ Q (.bl (!decide (x = .non))) H) (fun x y M Q => match y with
  | .non => Q (.bl (!isNon x)) M
  | _ => False) := by
  intro G M H v u x y R Q rp i j h k
  split at h
  · cases j
    refine ⟨rfl, ?_⟩
    have e : (!decide (v = V.non)) = !isNon x := by cases i <;> simp [isNon]
    rw [e]
    exact k.now rp (.bl _) h
  · exact h.elim
/-- x in y: a text, a list, a tuple -/
def dIn (neg : Bool) : D2 := fun x y M Q => match x, y with
  | .str i, .str j => Q (.bl (if neg then !(!(Builtin.Str.occurrences j i 0 j.length 1).isEmpty) else !(Builtin.Str.occurrences j i 0 j.length 1).isEmpty)) M
  | x, y => ∃ p ps, See M x p ∧ See M y (.list ps) ∧ SeqAt.shaped p = true ∧ SeqAt.shaped (.list ps) = true ∧ Q (.bl (if neg then !ps.any fun z => PyData.eqv z p else ps.any fun z => PyData.eqv z p)) M
theorem oc_in : OpC X.K T (rOr (fun x y H Q => ∃ i j, x = .str i ∧ y = .str j ∧ Q (.bl (!(Builtin.Str.occurrences j i 0 j.length 1).isEmpty)) H) (rInD X.K)) (dIn false) := by
  intro G M H v u x y R Q rp i j h k
  unfold dIn at h
  split at h
  · cases i; cases j
    exact .inl ⟨_, _, rfl, rfl, k.now rp (.bl _) h⟩
  · obtain ⟨p, ps, s1, s2, h1, h2, h⟩ := h
    exact .inr ⟨p, ps, s1.dp rp i, s2.dp rp j, h1, h2, k.now rp (.bl _) h⟩
theorem oc_notin : OpC X.K T (rOr (fun x y H Q => ∃ i j, x = .str i ∧ y = .str j ∧ Q (.bl (!(!(Builtin.Str.occurrences j i 0 j.length 1).isEmpty))) H) (rNotInD X.K)) (dIn true) := by
  intro G M H v u x y R Q rp i j h k
  unfold dIn at h
  split at h
  · cases i; cases j
    exact .inl ⟨_, _, rfl, rfl, k.now rp (.bl _) h⟩
  · obtain ⟨p, ps, s1, s2, h1, h2, h⟩ := h
    exact .inr ⟨p, ps, s1.dp rp i, s2.dp rp j, h1, h2, k.now rp (.bl _) h⟩

def dAndT (t u : DT) : DT := fun ρ M Q => t ρ M fun c M1 => match c with
  | true => u ρ M1 Q
  | false => Q false M1
def dOrT (t u : DT) : DT := fun ρ M Q => t ρ M fun c M1 => match c with
  | true => Q true M1
  | false => u ρ M1 Q
def dNotT (t : DT) : DT := fun ρ M Q => t ρ M fun c M1 => Q (!c) M1
variable {tA tB : DT} {rest : List Expr}
theorem wand1 (ha : XT X T a tA) : XW X T (.BoolOp .And [a] pos) tA := pw_and1 ha
theorem wor1 (ha : XT X T a tA) : XW X T (.BoolOp .Or [a] pos) tA := pw_or1 ha
theorem wand (ha : XT X T a tA) (hb : XW X T (.BoolOp .And (b :: rest) pos) tB) : XW X T (.BoolOp .And (a :: b :: rest) pos) (dAndT tA tB) :=
  (pw_and ha hb).imp fun σ H Q ⟨ρ, G, M, R, sl, rp, h, k⟩ => ⟨ρ, G, M, _, sl, rp, h, fun c M1 G1 H1 q1 s1 rp1 => by
    cases c with
    | true => rw [if_pos rfl]; exact ⟨ρ, G1, M1, R, sl.mono s1, rp1, q1, fun b M' G' H' r s => k b M' G' H' r (s1.trans s)⟩
    | false => rw [if_neg Bool.false_ne_true]; exact k _ _ _ _ q1 s1 rp1⟩
theorem wor (ha : XT X T a tA) (hb : XW X T (.BoolOp .Or (b :: rest) pos) tB) : XW X T (.BoolOp .Or (a :: b :: rest) pos) (dOrT tA tB) :=
  (pw_or ha hb).imp fun σ H Q ⟨ρ, G, M, R, sl, rp, h, k⟩ => ⟨ρ, G, M, _, sl, rp, h, fun c M1 G1 H1 q1 s1 rp1 => by
    cases c with
    | true => rw [if_pos rfl]; exact k _ _ _ _ q1 s1 rp1
    | false => rw [if_neg Bool.false_ne_true]; exact ⟨ρ, G1, M1, R, sl.mono s1, rp1, q1, fun b M' G' H' r s => k b M' G' H' r (s1.trans s)⟩⟩
theorem tnot (ha : XT X T a tA) : XT X T (.UnaryOp .Not a pos) (dNotT tA) :=
  (pt_not ha).imp fun σ H Q ⟨ρ, G, M, R, sl, rp, h, k⟩ => ⟨ρ, G, M, _, sl, rp, h, fun c M1 G1 H1 q1 s1 rp1 => k _ _ _ _ q1 s1 rp1⟩
def dIf (t : DT) (ta tb : DE) : DE := fun ρ M Q => t ρ M fun c M1 => match c with
  | true => ta ρ M1 Q
  | false => tb ρ M1 Q
theorem xif (hc : XT X T c tA) (ha : XE X T a ta) (hb : XE X T b tb) : XE X T (.IfExp c a b pos) (dIf tA ta tb) :=
  (pe_ifExp hc ha hb).imp fun σ H Q ⟨ρ, G, M, R, sl, rp, h, k⟩ => ⟨ρ, G, M, _, sl, rp, h, fun c M1 G1 H1 q1 s1 rp1 => by
    cases c with
    | true => rw [if_pos rfl]; exact ⟨ρ, G1, M1, R, sl.mono s1, rp1, q1, k.mono s1⟩
    | false => rw [if_neg Bool.false_ne_true]; exact ⟨ρ, G1, M1, R, sl.mono s1, rp1, q1, k.mono s1⟩⟩
end
end SD
namespace SD
open PySem PySem.Spec PyProof.Rows L2

def dNil : DA := fun _ M Q => Q [] M
def dCons (te : DE) (tr : DA) : DA := fun ρ M Q => te ρ M fun x M1 => tr ρ M1 fun xs M2 => Q (x :: xs) M2
def dTup (ta : DA) : DE := fun ρ M Q => ta ρ M fun ds M1 => ds.length ≤ sizeLine ∧ Q (.tup ds) M1
def dLst (m : Bool) (ta : DA) : DE := fun ρ M Q => ta ρ M fun ds M1 => ds.length ≤ sizeLine ∧ newL m ds M1 Q
section
variable {X : Cx} {T : TB} {e o : Expr} {es : List Expr} {te to : DE} {ta : DA} {pos apos p : Pos}
theorem an : XA X T [] dNil := pa_nil.imp fun σ H Q ⟨ρ, G, M, R, sl, rp, h, k⟩ => k _ _ _ _ _ h (Same.refl G) rp .nil
theorem ac (he : XE X T e te) (ha : XA X T es ta) (hs : starEach (e :: es) X.env = (false, eval e X.env) :: starEach es X.env := by rfl) : XA X T (e :: es) (dCons te ta) :=
  (pa_cons he ha hs).imp fun σ H Q ⟨ρ, G, M, R, sl, rp, h, k⟩ => ⟨ρ, G, M, _, sl, rp, h, fun x M1 v G1 H1 q1 s1 rp1 i1 =>
    ⟨ρ, G1, M1, _, sl.mono s1, rp1, q1, fun xs M2 vs G2 H2 q2 s2 rp2 i2 => k _ _ _ _ _ q2 (s1.trans s2) rp2 (.cons (i1.mono s2) i2)⟩⟩
theorem xtup {x1} (ha : XA X T es ta) : XE X T (.Tuple es x1 pos) (dTup ta) :=
  (pe_tup ha).imp fun σ H Q ⟨ρ, G, M, R, sl, rp, h, k⟩ => ⟨ρ, G, M, _, sl, rp, h, fun ds M1 vs G1 H1 q1 s1 rp1 i1 =>
    ⟨by rw [i1.length]; exact q1.1, fun z hz => newT_ok rp1 i1 q1.2 (k.mono s1) hz⟩⟩
theorem xlst (m : Bool) (ha : XA X T es ta) : XE X T (.List es pos) (dLst m ta) :=
  (pe_lst ha).imp fun σ H Q ⟨ρ, G, M, R, sl, rp, h, k⟩ => ⟨ρ, G, M, _, sl, rp, h, fun ds M1 vs G1 H1 q1 s1 rp1 i1 =>
    ⟨by rw [i1.length]; exact q1.1, fun z hz => newL_ok rp1 i1 q1.2 (k.mono s1) hz⟩⟩
/-- a list told by its place is told by its items from here on -/
def dFrz (te : DE) : DE := fun ρ M Q => te ρ M fun x M1 => ∃ a ds, x = .ref a ∧ M1 a = some (.lst ds) ∧ Q (.lst ds) (delM M1 a)
theorem xfrz (he : XE X T e te) : XE X T e (dFrz te) := he.imp fun σ H Q ⟨ρ, G, M, R, sl, rp, h, k⟩ => ⟨ρ, G, M, _, sl, rp, h, fun x M1 v G1 H1 q1 s1 rp1 i1 => by
  obtain ⟨a, ds, rfl, ea, q1⟩ := q1
  cases i1
  obtain ⟨u, hu, j, hg, rp2⟩ := rp1.frz ea
  cases j with
  | lst l => exact k _ _ _ _ _ q1 (s1.trans (same_upd hg)) rp2 (.lst upd_same (l.mono (same_upd hg)))⟩

def truD (M : Mp) : D → Option Bool
  | .non => some false
  | .bl b => some b
  | .int i => some (i != 0)
  | .str y => if y.length ≤ sizeLine then some ((y.length : Int) != 0) else none
  | .tup ds => some (!ds.isEmpty)
  | .lst ds => some (!ds.isEmpty)
  | .ref a => match M a with
    | some (.lst ds) => some (!ds.isEmpty)
    | _ => none
  | .dK kvs => some (!kvs.isEmpty)
  | _ => none
def dTru (te : DE) : DT := fun ρ M Q => te ρ M fun x M1 => ∃ b, truD M1 x = some b ∧ Q b M1
theorem IsL.empty {K : PySem.W.Frag} {G : Hp} {xs : List V} {ds : List D} (l : IsL K G xs ds) : (!xs.isEmpty) = !ds.isEmpty := by cases l <;> rfl
theorem IsKV.empty {K : PySem.W.Frag} {G : Hp} {xs : List (Key × V)} {ds : List (Key × D)} (l : IsKV K G xs ds) : (!xs.isEmpty) = !ds.isEmpty := by cases l <;> rfl
theorem tru_at {G H : Hp} {M : Mp} {v : V} {x : D} {b : Bool} (rp : Rp X.K T G M H) (i : Is X.K G v x) (h : truD M x = some b) : TruV X.K v H b := by
  cases i with
  | non => cases h; rfl
  | bl b => cases h; rfl
  | int i => cases h; rfl
  | str y =>
    simp only [truD] at h
    split at h
    · cases h; exact ⟨by assumption, rfl⟩
    · cases h
  | ty n => cases h
  | tup g l => cases h; exact .inr (.inl ⟨_, SqT.sub rp.sub g, l.empty.symm⟩)
  | lst g l => cases h; exact .inl ⟨_, .inl (.inl (rp.sub _ _ g)), l.empty.symm⟩
  | dK g l => cases h; exact .inr (.inr ⟨_, rp.sub _ _ g, l.empty.symm⟩)
  | ins g l => cases h
  | scr g l => cases h
  | ref a =>
    cases e : M a with
    | none => simp [truD, e] at h
    | some o =>
      cases o with
      | lst ds =>
        simp only [truD, e] at h
        cases h
        obtain ⟨_, u, hu, j⟩ := rp.mt _ _ e
        cases j with
        | lst l => exact .inl ⟨_, .inl (.inl hu), l.empty.symm⟩
      | _ => simp [truD, e] at h
theorem ttru (he : XE X T e te) (hp : ∀ whole, isTrue e X.env whole = (do let v ← whole; standAt e.pos; holding [v] (truthy v)) := by intro _; rfl) : XT X T e (dTru te) :=
  (pt_truth he hp).imp fun σ H Q ⟨ρ, G, M, R, sl, rp, h, k⟩ => ⟨ρ, G, M, _, sl, rp, h, fun x M1 v G1 H1 ⟨b, eb, q1⟩ s1 rp1 i1 => ⟨b, tru_at rp1 i1 eb, k _ _ _ _ q1 s1 rp1⟩⟩

abbrev DC := List D → Mp → DK → Prop
def CallC (K : PySem.W.Frag) (T : TB) (r : List V → Hp → VK → Prop) (rd : DC) : Prop := ∀ G M H vs ds R Q, Rp K T G M H → IsL K G vs ds → rd ds M R → lK K T G R Q → r vs H Q
def dCB (rd : DC) (ta : DA) : DE := fun ρ M Q => ta ρ M fun ds M1 => rd ds M1 Q
section
variable {r : List V → Hp → VK → Prop} {rd : DC} {x : Str} {id Ty : String}
theorem lCB (c : CallC X.K T r rd) {σ : St} {H : Hp} {Q : VK} (h : lE X.K T (dCB rd ta) σ H Q) : tCB r (lA X.K T ta) σ H Q := by
  obtain ⟨ρ, G, M, R, sl, rp, h, k⟩ := h
  exact ⟨ρ, G, M, _, sl, rp, h, fun ds M1 vs G1 H1 q1 s1 rp1 i1 => c _ _ _ _ _ _ _ rp1 i1 q1 (k.mono s1)⟩
theorem xcallB (hc : CallR X (.builtin id) r) (c : CallC X.K T r rd) (hg : Gl X x) (hm : X.mg x = none) (hv : bootBuiltins x = some (.builtin id)) (ha : XA X T (e :: es) ta) (hn : x ≠ "__name__" := by decide) (hdb : (x == ("__debug__" : Str)) = false := by decide)
    (he : starEach (e :: es) X.env = (false, eval e X.env) :: starEach es X.env := by rfl) (hpl : (backTo pos (starEach es X.env)).any (·.1) = false := by rfl) : XE X T (.Call (.Name x p) (e :: es) [] pos) (dCB rd ta) :=
  (pe_callB hc hg hm hv ha hn hdb he hpl).imp fun σ H Q h => lCB c h
theorem xcallTy (hc : CallR X (.type Ty) r) (c : CallC X.K T r rd) (hg : Gl X x) (hm : X.mg x = none) (hv : bootBuiltins x = some (.type Ty)) (ha : XA X T (e :: es) ta) (hn : x ≠ "__name__" := by decide) (hdb : (x == ("__debug__" : Str)) = false := by decide)
    (he : starEach (e :: es) X.env = (false, eval e X.env) :: starEach es X.env := by rfl) (hpl : (backTo pos (starEach es X.env)).any (·.1) = false := by rfl) : XE X T (.Call (.Name x p) (e :: es) [] pos) (dCB rd ta) :=
  (pe_callTy hc hg hm hv ha hn hdb he hpl).imp fun σ H Q h => lCB c h
end
theorem isL1 {K : PySem.W.Frag} {G : Hp} {vs : List V} {d : D} (i : IsL K G vs [d]) : ∃ v, vs = [v] ∧ Is K G v d := by
  cases i with
  | cons a b => cases b; exact ⟨_, rfl, a⟩
theorem isL2 {K : PySem.W.Frag} {G : Hp} {vs : List V} {d d' : D} (i : IsL K G vs [d, d']) : ∃ v v', vs = [v, v'] ∧ Is K G v d ∧ Is K G v' d' := by
  cases i with
  | cons a b =>
    cases b with
    | cons a' b' => cases b'; exact ⟨_, _, rfl, a, a'⟩
/-- len of a text, a list, a tuple -/
def lenD (M : Mp) : D → Option Nat
  | .str y => if y.length ≤ sizeLine then some y.length else none
  | .tup ds => some ds.length
  | .lst ds => some ds.length
  | .ref a => match M a with
    | some (.lst ds) => some ds.length
    | _ => none
  | _ => none
def dLen : DC := fun ds M Q => match ds with
  | [x] => ∃ n, lenD M x = some n ∧ Q (.int n) M
  | _ => False
theorem cc_len : CallC X.K T (fun xs H Q => ∃ x n, xs = [x] ∧ LenV X.K x H n ∧ Q (.int n) H) dLen := by
  intro G M H vs ds R Q rp i h k
  unfold dLen at h
  split at h
  · rename_i x
    obtain ⟨v, rfl, i1⟩ := isL1 i
    obtain ⟨n, en, h⟩ := h
    refine ⟨v, n, rfl, ?_, k.now rp (.int _) h⟩
    cases i1 with
    | str y =>
      simp only [lenD] at en
      split at en
      · cases en; exact ⟨by assumption, rfl⟩
      · cases en
    | tup g l => cases en; exact .inr ⟨_, SqT.sub rp.sub g, l.length.symm⟩
    | lst g l => cases en; exact .inl ⟨_, .inl (.inl (rp.sub _ _ g)), l.length.symm⟩
    | ref a =>
      cases e : M a with
      | none => simp [lenD, e] at en
      | some o =>
        cases o with
        | lst ds =>
          simp [lenD, e] at en
          subst en
          obtain ⟨_, u, hu, j⟩ := rp.mt _ _ e
          cases j with
          | lst l => exact .inl ⟨_, .inl (.inl hu), l.length.symm⟩
        | _ => simp [lenD, e] at en
    | _ => cases en
  · exact h.elim
theorem xlen (hm : X.mg "len" = none) (ha : XA X T [e] ta) (hg : Gl X "len" := by rfl) (he : starEach (e :: []) X.env = (false, eval e X.env) :: starEach [] X.env := by rfl) (hpl : (backTo pos (starEach [] X.env)).any (·.1) = false := by rfl) :
    XE X T (.Call (.Name "len" p) [e] [] pos) (dCB dLen ta) := xcallB call_len cc_len hg hm PySem.boot_len ha (by decide) (by decide) he hpl
/-- int of an int, of a truth -/
def dInt : DC := fun ds M Q => match ds with
  | [.int i] => Q (.int i) M
  | [.bl b] => Q (.int (if b then 1 else 0)) M
  | _ => False
theorem cc_int : CallC X.K T (fun xs H Q => (∃ i, xs = [.int i] ∧ Q (.int i) H) ∨ ∃ k, xs = [.bl k] ∧ Q (.int (if k then 1 else 0)) H) dInt := by
  intro G M H vs ds R Q rp i h k
  unfold dInt at h
  split at h
  · obtain ⟨v, rfl, i1⟩ := isL1 i
    cases i1
    exact .inl ⟨_, rfl, k.now rp (.int _) h⟩
  · obtain ⟨v, rfl, i1⟩ := isL1 i
    cases i1
    exact .inr ⟨_, rfl, k.now rp (.int _) h⟩
  · exact h.elim
theorem xintc (hm : X.mg "int" = none) (ha : XA X T [e] ta) (hg : Gl X "int" := by rfl) (he : starEach (e :: []) X.env = (false, eval e X.env) :: starEach [] X.env := by rfl) (hpl : (backTo pos (starEach [] X.env)).any (·.1) = false := by rfl) :
    XE X T (.Call (.Name "int" p) [e] [] pos) (dCB dInt ta) := xcallTy call_int1 cc_int hg hm (by decide +kernel) ha (by decide) (by decide) he hpl
def dAbs : DC := fun ds M Q => match ds with
  | [.int i] => Q (.int (if i < 0 then -i else i)) M
  | _ => False
theorem cc_abs : CallC X.K T (fun xs H Q => ∃ i, xs = [.int i] ∧ Q (.int (if i < 0 then -i else i)) H) dAbs := by
  intro G M H vs ds R Q rp i h k
  unfold dAbs at h
  split at h
  · obtain ⟨v, rfl, i1⟩ := isL1 i
    cases i1
    exact ⟨_, rfl, k.now rp (.int _) h⟩
  · exact h.elim
theorem xabs (hm : X.mg "abs" = none) (ha : XA X T [e] ta) (hg : Gl X "abs" := by rfl) (he : starEach (e :: []) X.env = (false, eval e X.env) :: starEach [] X.env := by rfl) (hpl : (backTo pos (starEach [] X.env)).any (·.1) = false := by rfl) :
    XE X T (.Call (.Name "abs" p) [e] [] pos) (dCB dAbs ta) := xcallB call_abs cc_abs hg hm (by decide +kernel) ha (by decide) (by decide) he hpl
/-- list of a list, a tuple -/
def seqOf (M : Mp) : D → Option (List D)
  | .tup ds => some ds
  | x => lstOf M x
theorem seqOf_ok {G H : Hp} {M : Mp} {x : D} {v : V} {ds : List D} (rp : Rp X.K T G M H) (i : Is X.K G v x) (h : seqOf M x = some ds) : ∃ a xs, v = .ref a ∧ (SqL X.K H a xs ∨ SqT X.K H a xs) ∧ IsL X.K G xs ds := by
  cases i with
  | tup g l => cases h; exact ⟨_, _, rfl, .inr (SqT.sub rp.sub g), l⟩
  | lst g l => cases h; exact ⟨_, _, rfl, .inl (.inl (.inl (rp.sub _ _ g))), l⟩
  | ref a =>
    obtain ⟨a, xs, e1, e2, l⟩ := lstOf_ok rp (.ref a) (show lstOf M (.ref a) = some ds from h)
    exact ⟨a, xs, e1, .inl (.inl (.inl e2)), l⟩
  | _ => cases h
def dList (m : Bool) : DC := fun ds M Q => match ds with
  | [x] => ∃ es, seqOf M x = some es ∧ newL m es M Q
  | _ => False
theorem cc_list (m : Bool) : CallC X.K T (fun xs H Q => ∃ p ys, xs = [.ref p] ∧ (SqL X.K H p ys ∨ SqT X.K H p ys) ∧ ∀ l, H l = none → Q (.ref l) (upd H l (.lst ys))) (dList m) := by
  intro G M H vs ds R Q rp i h k
  unfold dList at h
  split at h
  · obtain ⟨v, rfl, i1⟩ := isL1 i
    obtain ⟨es, ee, h⟩ := h
    obtain ⟨a, xs, rfl, q, l⟩ := seqOf_ok rp i1 ee
    exact ⟨a, xs, rfl, q, fun z hz => newL_ok rp l h k hz⟩
  · exact h.elim
theorem xlist (m : Bool) (hm : X.mg "list" = none) (ha : XA X T [e] ta) (hg : Gl X "list" := by rfl) (he : starEach (e :: []) X.env = (false, eval e X.env) :: starEach [] X.env := by rfl) (hpl : (backTo pos (starEach [] X.env)).any (·.1) = false := by rfl) :
    XE X T (.Call (.Name "list" p) [e] [] pos) (dCB (dList m) ta) := xcallTy call_list_of (cc_list m) hg hm (by decide +kernel) ha (by decide) (by decide) he hpl

/-- the fields of an instance, by value or by place -/
def insOf (M : Mp) : D → Option (Addr × List (Str × D))
  | .ins C fs => some (C, fs)
  | .ref a => match M a with
    | some (.ins C fs) => some (C, fs)
    | _ => none
  | _ => none
theorem insOf_ok {K : PySem.W.Frag} {G H : Hp} {M : Mp} {x : D} {v : V} {C : Addr} {fs : List (Str × D)} (rp : Rp K T G M H) (i : Is K G v x) (h : insOf M x = some (C, fs)) : ∃ a dx vs, v = .ref a ∧ H a = some (.ins C dx vs) ∧ IsF K G vs fs := by
  cases i with
  | ins g l => cases h; exact ⟨_, _, _, rfl, rp.sub _ _ g, l⟩
  | ref a =>
    cases e : M a with
    | none => simp [insOf, e] at h
    | some o =>
      cases o with
      | ins C fs =>
        simp [insOf, e] at h
        obtain ⟨rfl, rfl⟩ := h
        obtain ⟨_, u, hu, j⟩ := rp.mt _ _ e
        cases j with
        | ins l => exact ⟨_, _, _, rfl, hu, l⟩
      | _ => simp [insOf, e] at h
  | _ => cases h
/-- instances of C have the attribute f for themselves -/
structure FldOk (K : PySem.W.Frag) (C : Addr) (f : Str) : Prop where
  cl : Cls K C
  no : NoAttr K C f
def dFld (K : PySem.W.Frag) (te : DE) (f : Str) : DE := fun ρ M Q => te ρ M fun x M1 => ∃ C fs d, insOf M1 x = some (C, fs) ∧ FldOk K C f ∧ fs.lookup f = some d ∧ Q d M1
theorem xfld {f : Str} (he : XE X T e te) (hb : attributeBase e f X.env (eval e X.env) = eval e X.env := by rfl) : XE X T (.Attribute e f pos) (dFld X.K te f) :=
  (pe_fld he hb).imp fun σ H Q ⟨ρ, G, M, R, sl, rp, h, k⟩ => ⟨ρ, G, M, _, sl, rp, h, fun x M1 v G1 H1 ⟨C, fs, d, ei, ok, el, q⟩ s1 rp1 i1 => by
    obtain ⟨a, dx, vs, rfl, ha, l⟩ := insOf_ok rp1 i1 ei
    obtain ⟨y, ey, iy⟩ := l.lookup el
    exact ⟨a, C, dx, vs, y, rfl, ha, ok.cl, ok.no, ey, (k.mono s1).now rp1 iy q⟩⟩

def rIxA (K : PySem.W.Frag) : R2 := rIx K
def dIx : D2 := fun x y M Q => match x, y with
  | .str z, .int i => z.length ≤ sizeLine ∧ ∃ c, atI z.cps.toList i = some c ∧ Q (.str ⟨#[c]⟩) M
  | x, .int i => ∃ ds d, seqOf M x = some ds ∧ atI ds i = some d ∧ Q d M
  | _, _ => False
theorem IsL.atI {K : PySem.W.Frag} {G : Hp} {xs : List V} {ds : List D} {i : Int} {d : D} (l : IsL K G xs ds) (h : L2.atI ds i = some d) : ∃ v, L2.atI xs i = some v ∧ Is K G v d := by
  unfold L2.atI at h ⊢
  rw [l.length]
  cases e : ixN ds.length i with
  | none => rw [e] at h; cases h
  | some j =>
    rw [e] at h
    exact l.get h
end
end SD
namespace SD
open PySem PySem.Spec PyProof.Rows L2

section
variable {X : Cx} {T : TB} {a b e o : Expr} {es : List Expr} {ta tb te to : DE} {tA : DA} {pos apos p p2 : Pos}
theorem oc_ix : OpC X.K T (rIx X.K) dIx := by
  intro G M H v u x y R Q rp i j h k
  unfold dIx at h
  split at h
  · cases i; cases j
    obtain ⟨hz, c, ec, h⟩ := h
    exact .inr (.inr ⟨_, _, c, rfl, rfl, hz, ec, k.now rp (.str _) h⟩)
  · obtain ⟨ds, d, es, ed, h⟩ := h
    obtain ⟨a, xs, rfl, q, l⟩ := seqOf_ok rp i es
    cases j
    obtain ⟨y, ey, iy⟩ := l.atI ed
    rcases q with q | q
    · exact .inl ⟨a, xs, _, y, rfl, rfl, q, ey, k.now rp iy h⟩
    · exact .inr (.inl ⟨a, xs, _, y, rfl, rfl, q, ey, k.now rp iy h⟩)
  · exact h.elim
theorem xix (ha : XE X T a ta) (hb : XE X T b tb) (hs : PlainIx b := by intro _ _; rfl) : XE X T (.Subscript a b pos) (dOp dIx ta tb) := (pe_ix ix_seq ha hb hs).imp fun σ H Q h => lOp oc_ix h

def cutL {α : Type} (xs : List α) (lo hi : Option Int) : List α := (xs.drop (HT.sIx xs.length 0 lo)).take (HT.sIx xs.length xs.length hi - HT.sIx xs.length 0 lo)
theorem IsL.cut {K : PySem.W.Frag} {G : Hp} {xs : List V} {ds : List D} (l : IsL K G xs ds) (lo hi : Option Int) : IsL K G (cutV xs lo hi) (cutL ds lo hi) := by
  unfold cutV cutL
  rw [l.length]
  exact (l.drop _).take _
abbrev DO' := DEnv → Mp → (Option Int → Mp → Prop) → Prop
def lO (K : PySem.W.Frag) (T : TB) (t : DO') : TO := fun σ H Q => ∃ ρ G M, ∃ R : Option Int → Mp → Prop, Sl K G ρ σ ∧ Rp K T G M H ∧ t ρ M R ∧ ∀ o M' G' H', R o M' → Same G G' → Rp K T G' M' H' → Q o H'
theorem _root_.L2.PO.imp {X : Cx} {e : Option Expr} {t t' : TO} (h : PO X e t) (w : ∀ σ H Q, t' σ H Q → t σ H Q) : PO X e t' := ⟨fun pins s σ H Q I q => h.run pins s σ H Q I (w σ H Q q)⟩
def dNo : DO' := fun _ M Q => Q none M
def dSo (te : DE) : DO' := fun ρ M Q => te ρ M fun x M1 => match x with
  | .int i => Q (some i) M1
  | _ => False
theorem sno : PO X none (lO X.K T dNo) := po_none.imp fun σ H Q ⟨ρ, G, M, R, sl, rp, h, k⟩ => k _ _ _ _ h (Same.refl G) rp
theorem sso (he : XE X T e te) : PO X (some e) (lO X.K T (dSo te)) := (po_some he).imp fun σ H Q ⟨ρ, G, M, R, sl, rp, h, k⟩ => ⟨ρ, G, M, _, sl, rp, h, fun x M1 v G1 H1 q1 s1 rp1 i1 => by
  split at q1
  · cases i1
    exact ⟨_, rfl, k _ _ _ _ q1 s1 rp1⟩
  · exact q1.elim⟩
abbrev rSlA3 (K : PySem.W.Frag) : V → Option Int → Option Int → Hp → VK → Prop := fun x lo hi H Q => rSlL K x lo hi H Q ∨ (rSlA K x lo hi H Q ∨ rSlS x lo hi H Q)
theorem sl_any : SlR X (rSlA3 X.K) := sl_list.or (sl_tupA.or sl_str)
def sliceD (m : Bool) (lo hi : Option Int) : D → Mp → DK → Prop := fun x M Q => match x with
  | .str z => z.length ≤ sizeLine ∧ Q (.str (cutS z lo hi)) M
  | .tup ds => Q (.tup (cutL ds lo hi)) M
  | .scr ds => newL m (cutL ds lo hi) M Q
  | x => ∃ ds, lstOf M x = some ds ∧ newL m (cutL ds lo hi) M Q
def dSl (m : Bool) (te : DE) (tl th : DO') : DE := fun ρ M Q => te ρ M fun x M1 => tl ρ M1 fun lo M2 => th ρ M2 fun hi M3 => sliceD m lo hi x M3 Q
theorem slice_ok {m : Bool} {lo hi : Option Int} {G H : Hp} {M : Mp} {v : V} {x : D} {R : DK} {Q : VK} (rp : Rp X.K T G M H) (i : Is X.K G v x) (h : sliceD m lo hi x M R) (k : lK X.K T G R Q) : rSlA3 X.K v lo hi H Q := by
  unfold sliceD at h
  split at h
  · cases i
    exact .inr (.inr ⟨_, rfl, h.1, k.now rp (.str _) h.2⟩)
  · obtain ⟨a, xs, rfl, h1, g1, l1⟩ := isT_inv rp i
    refine .inr (.inl ⟨a, xs, rfl, h1, fun e => ?_, fun _ z hz => newT_ok rp (l1.cut lo hi) h k hz⟩)
    rename_i ds
    have e2 : cutL ds lo hi = ds := by
      unfold cutL
      rw [← l1.length, e.1, e.2, List.drop_zero, Nat.sub_zero, l1.length, List.take_length]
    rw [e2] at h
    exact k.now rp (.tup g1 l1) h
  · cases i with
    | scr g l => exact .inl ⟨_, _, rfl, Same.seqL rp.sub g, fun z hz => newL_ok rp (l.cut lo hi) h k hz⟩
  · obtain ⟨ds, ed, h⟩ := h
    obtain ⟨a, xs, rfl, e1, l1⟩ := lstOf_ok rp i ed
    exact .inl ⟨a, xs, rfl, .inl (.inl e1), fun z hz => newL_ok rp (l1.cut lo hi) h k hz⟩
theorem xsl (m : Bool) {lo hi : Option Expr} {tl th : DO'} (he : XE X T e te) (hl : PO X lo (lO X.K T tl)) (hh : PO X hi (lO X.K T th)) : XE X T (.Subscript e (.Slice lo hi none p2) pos) (dSl m te tl th) :=
  (pe_slice sl_any he hl hh).imp fun σ H Q ⟨ρ, G, M, R, sl, rp, h, k⟩ => ⟨ρ, G, M, _, sl, rp, h, fun x M1 v G1 H1 q1 s1 rp1 i1 =>
    ⟨ρ, G1, M1, _, sl.mono s1, rp1, q1, fun lo M2 G2 H2 q2 s2 rp2 => ⟨ρ, G2, M2, _, (sl.mono s1).mono s2, rp2, q2, fun hi M3 G3 H3 q3 s3 rp3 => slice_ok rp3 ((i1.mono s2).mono s3) q3 (k.mono (s1.trans (s2.trans s3)))⟩⟩⟩

abbrev DM := D → DC
def MtC (K : PySem.W.Frag) (T : TB) (r : V → List V → Hp → VK → Prop) (rd : DM) : Prop := ∀ G M H v x vs ds R Q, Rp K T G M H → Is K G v x → IsL K G vs ds → rd x ds M R → lK K T G R Q → r v vs H Q
/-- x.m(..) of a list that is told by its place or its items -/
def dML (rd : DM) (to : DE) (ta : DA) : DE := fun ρ M Q => to ρ M fun x M1 => (∃ ds, lstOf M1 x = some ds) ∧ ta ρ M1 fun ds M2 => rd x ds M2 Q
section
variable {name : Str} {id : String} {r : V → List V → Hp → VK → Prop} {rd : DM}
theorem xml (pa : PlainAttrs "list") (slot : Slot "list" name id) (hty : typeOf (.builtin id) = pure (.type "method_descriptor")) (hm : MtR X id r) (c : MtC X.K T r rd) (ho : XE X T o to) (ha : XA X T (e :: es) tA)
    (hbase : attributeBase o name X.env (eval o X.env) = eval o X.env := by rfl)
    (hfew : ((backTo pos (starEach (e :: es) X.env)).all (fun x => !x.1) && (backToKw pos (keywordEach [] X.env)).all (fun x => x.1.isSome)
      && decide ((e :: es).length + ([] : List Keyword).length + (if ([] : List Keyword).isEmpty then 0 else 1) < 30)) = true := by rfl)
    (hline : (apos.endLine == pos.line) = true := by rfl) (hs : starEach (e :: es) X.env = (false, eval e X.env) :: starEach es X.env := by rfl) (hplain : (backTo pos (starEach es X.env)).any (·.1) = false := by rfl) :
    XE X T (.Call (.Attribute o name apos) (e :: es) [] pos) (dML rd to tA) :=
  (pe_bm pa slot hty hm ho ha hbase hfew hline hs hplain).imp fun σ H Q ⟨ρ, G, M, R, sl, rp, h, k⟩ => ⟨ρ, G, M, _, sl, rp, h, fun x M1 v G1 H1 ⟨⟨ds, ed⟩, q1⟩ s1 rp1 i1 => by
    obtain ⟨a, xs, e1, e2, l⟩ := lstOf_ok rp1 i1 ed
    refine ⟨by rw [e1]; exact .inl ⟨rfl, _, .inl (.inl e2)⟩, ρ, G1, M1, _, sl.mono s1, rp1, q1, fun ds M2 vs G2 H2 q2 s2 rp2 i2 => c _ _ _ _ _ _ _ _ _ rp2 (i1.mono s2) i2 q2 (k.mono (s1.trans s2))⟩⟩
theorem xml0 (pa : PlainAttrs "list") (slot : Slot "list" name id) (hty : typeOf (.builtin id) = pure (.type "method_descriptor")) (hm : MtR X id r) (c : MtC X.K T r rd) (ho : XE X T o to)
    (hbase : attributeBase o name X.env (eval o X.env) = eval o X.env := by rfl) (hline : (apos.endLine == pos.line) = true := by rfl) : XE X T (.Call (.Attribute o name apos) [] [] pos) (dML rd to dNil) :=
  (pe_bm0 pa slot hty hm ho hbase hline).imp fun σ H Q ⟨ρ, G, M, R, sl, rp, h, k⟩ => ⟨ρ, G, M, _, sl, rp, h, fun x M1 v G1 H1 ⟨⟨ds, ed⟩, q1⟩ s1 rp1 i1 => by
    obtain ⟨a, xs, e1, e2, l⟩ := lstOf_ok rp1 i1 ed
    exact ⟨by rw [e1]; exact .inl ⟨rfl, _, .inl (.inl e2)⟩, c _ _ _ _ _ _ _ _ _ rp1 i1 .nil q1 (k.mono s1)⟩⟩
end
/-- a list told by its place is written -/
theorem putL_ok {K : PySem.W.Frag} {G H : Hp} {M : Mp} {a : Addr} {ds ds' : List D} {xs' : List V} (rp : Rp K T G M H) (e : M a = some (.lst ds)) (l : IsL K G xs' ds') : Rp K T G (updM M a (.lst ds')) (upd H a (.lst xs')) := by
  obtain ⟨_, u, hu, j⟩ := rp.mt _ _ e
  cases j with
  | lst l0 =>
    refine rp.put e (fun w hw => ?_) (.lst l)
    rw [hu] at hw
    cases hw
    refine ⟨fun ps z => ?_, fun c n z => ?_⟩
    · cases z
    · unfold LamX.CodeO at z
      cases z
def dAppend : DM := fun x ds M Q => match x, ds with
  | .ref a, [y] => ∃ es, M a = some (.lst es) ∧ es.length < sizeLine ∧ Q .non (updM M a (.lst (es ++ [y])))
  | _, _ => False
theorem mc_append : MtC X.K T rAppend dAppend := by
  intro G M H v x vs ds R Q rp i j h k
  unfold dAppend at h
  split at h
  · obtain ⟨es, ee, hz, h⟩ := h
    obtain ⟨y, rfl, jy⟩ := isL1 j
    obtain ⟨a', xs, e1, e2, l⟩ := lstOf_ok rp i (show lstOf M (.ref _) = some es by simp [lstOf, ee])
    cases i
    cases e1
    exact ⟨_, xs, y, rfl, rfl, e2, by rw [l.length]; exact hz, k _ _ _ G _ h (Same.refl G) (putL_ok rp ee (l.append (.cons jy .nil))) .non⟩
  · exact h.elim
theorem xappend (ho : XE X T o to) (ha : XE X T e te) (hs : starEach (e :: []) X.env = (false, eval e X.env) :: starEach [] X.env := by rfl) (hbase : attributeBase o "append" X.env (eval o X.env) = eval o X.env := by rfl) (hline : (apos.endLine == pos.line) = true := by rfl)
    (hfew : ((backTo pos (starEach (e :: []) X.env)).all (fun x => !x.1) && (backToKw pos (keywordEach [] X.env)).all (fun x => x.1.isSome)
      && decide ((e :: []).length + ([] : List Keyword).length + (if ([] : List Keyword).isEmpty then 0 else 1) < 30)) = true := by rfl) : XE X T (.Call (.Attribute o "append" apos) [e] [] pos) (dML dAppend to (dCons te dNil)) :=
  xml PySem.F.plainAttrs_list PySem.F.slot_list_append PySem.F.type_list_append mt_append mc_append ho (ac ha an hs) hbase hfew hline hs
def dInsert : DM := fun x ds M Q => match x, ds with
  | .ref a, [.int i, y] => ∃ es, M a = some (.lst es) ∧ es.length < sizeLine ∧ 0 ≤ i ∧ i < 2 ^ 63 ∧ Q .non (updM M a (.lst (es.take i.toNat ++ y :: es.drop i.toNat)))
  | _, _ => False
def dPop : DM := fun x ds M Q => match x, ds with
  | .ref a, [] => ∃ es y, M a = some (.lst es) ∧ es[es.length - 1]? = some y ∧ Q y (updM M a (.lst es.dropLast))
  | _, _ => False
theorem IsL.dropLast {K : PySem.W.Frag} {G : Hp} : ∀ {xs : List V} {ds : List D}, IsL K G xs ds → IsL K G xs.dropLast ds.dropLast
  | _, _, .nil => .nil
  | _, _, .cons h .nil => .nil
  | _, _, .cons h (.cons h' l) => .cons h (IsL.dropLast (.cons h' l))
theorem mc_pop : MtC X.K T rPop dPop := by
  intro G M H v x vs ds R Q rp i j h k
  unfold dPop at h
  split at h
  · obtain ⟨es, y, ee, hy, h⟩ := h
    cases j
    obtain ⟨a', xs, e1, e2, l⟩ := lstOf_ok rp i (show lstOf M (.ref _) = some es by simp [lstOf, ee])
    cases i
    cases e1
    obtain ⟨z, ez, iz⟩ := l.get hy
    exact ⟨_, xs, z, rfl, rfl, e2, by rw [l.length]; exact ez, k _ _ _ G _ h (Same.refl G) (putL_ok rp ee l.dropLast) iz⟩
  · exact h.elim
theorem xpop (ho : XE X T o to) (hbase : attributeBase o "pop" X.env (eval o X.env) = eval o X.env := by rfl) (hline : (apos.endLine == pos.line) = true := by rfl) : XE X T (.Call (.Attribute o "pop" apos) [] [] pos) (dML dPop to dNil) :=
  xml0 PySem.F.plainAttrs_list PySem.F.slot_list_pop PySem.F.type_list_pop mt_pop mc_pop ho hbase hline
/-- xs.extend(ys): ys a list -/
def dExtend : DM := fun x ds M Q => match x, ds with
  | .ref a, [y] => ∃ es zs, M a = some (.lst es) ∧ lstOf M y = some zs ∧ es.length + zs.length ≤ sizeLine ∧ Q .non (updM M a (.lst (es ++ zs)))
  | _, _ => False
theorem mc_extend : MtC X.K T rExtend dExtend := by
  intro G M H v x vs ds R Q rp i j h k
  unfold dExtend at h
  split at h
  · obtain ⟨es, zs, ee, ez, hz, h⟩ := h
    obtain ⟨y, rfl, jy⟩ := isL1 j
    obtain ⟨a', xs, e1, e2, l⟩ := lstOf_ok rp i (show lstOf M (.ref _) = some es by simp [lstOf, ee])
    obtain ⟨b, ys, rfl, e3, l2⟩ := lstOf_ok rp jy ez
    cases i
    cases e1
    exact ⟨_, b, xs, ys, rfl, rfl, e2, e3, by rw [l.length, l2.length]; exact hz, k _ _ _ G _ h (Same.refl G) (putL_ok rp ee (l.append l2)) .non⟩
  · exact h.elim
theorem xextend (ho : XE X T o to) (ha : XE X T e te) (hs : starEach (e :: []) X.env = (false, eval e X.env) :: starEach [] X.env := by rfl) (hbase : attributeBase o "extend" X.env (eval o X.env) = eval o X.env := by rfl) (hline : (apos.endLine == pos.line) = true := by rfl)
    (hfew : ((backTo pos (starEach (e :: []) X.env)).all (fun x => !x.1) && (backToKw pos (keywordEach [] X.env)).all (fun x => x.1.isSome)
      && decide ((e :: []).length + ([] : List Keyword).length + (if ([] : List Keyword).isEmpty then 0 else 1) < 30)) = true := by rfl) : XE X T (.Call (.Attribute o "extend" apos) [e] [] pos) (dML dExtend to (dCons te dNil)) :=
  xml PySem.F.plainAttrs_list PySem.F.slot_list_extend PySem.F.type_list_extend mt_extend mc_extend ho (ac ha an hs) hbase hfew hline hs
end

/-- what is wished of an exception: its class, its fields -/
abbrev DX := Value → Option (List (Str × D)) → Mp → Prop
abbrev DW := Value → Option (List (Str × D)) → DEnv → Mp → Prop
abbrev DSp := List D → Mp → DK → DX → Prop
def XdOk (K : PySem.W.Frag) (G : Hp) (fs : Option (List (Str × D))) (od : Option Addr) (H : Hp) : Prop := match fs, od with
  | none, none => True
  | some fs, some d => ∃ vs, H d = some (.xd vs) ∧ IsF K G vs fs
  | _, _ => False
section
variable (K : PySem.W.Frag) (T : TB)
def lX (G : Hp) (R : DX) (E : XK) : Prop := ∀ cls od fs M' G' H', R cls fs M' → Same G G' → Rp K T G' M' H' → XdOk K G' fs od H' → E cls od H'
def toSp (sp : DSp) : Sp := fun vs H Q E => ∃ G M ds R RX, Rp K T G M H ∧ IsL K G vs ds ∧ sp ds M R RX ∧ lK K T G R Q ∧ lX K T G RX E
def lW (W : DW) : WX := fun cls od σ H => ∃ ρ G M fs, Sl K G ρ σ ∧ Rp K T G M H ∧ XdOk K G fs od H ∧ W cls fs ρ M
end
/-- room for calls; no repr at work -/
structure Rm (k : Nat) (A : Around) : Prop where
  rm : Room k A
  gd : A.guards = some []
theorem Rm.mono {j k : Nat} {A : Around} (r : Rm k A) (h : j ≤ k) : Rm j A := ⟨r.rm.mono h, r.gd⟩
theorem Rm.deeper {k : Nat} {A : Around} (r : Rm (k + 1) A) (env : Env) : Rm k (A.deeper env) := ⟨r.rm.deeper env, r.gd⟩
theorem Rm.in1 {k : Nat} {A : Around} (r : Rm (k + 1) A) : Rm k A.in1 := ⟨r.rm.in1, r.gd⟩
theorem Rm.make {k : Nat} {A : Around} (r : Rm (k + 1) A) (C : Addr) (us : List Value) (kw : List (Str × Value)) : Rm k (A.under (.builtin "type.__call__" ⟨.ref C :: us, kw⟩)) := ⟨r.rm.make C us kw, by
  show pushGuards (Code.guards (.builtin "type.__call__" ⟨.ref C :: us, kw⟩)) A.guards = some []
  rw [r.gd]
  rfl⟩
/-- a def keeps its promise, called where no repr is at work -/
structure FnG (P : Program) (w : World) (K : PySem.W.Frag) (mg : Str → Option Value) (base : Heap) (k : Nat) (f : Addr) (fd : FuncData) (ps : List Str) (sp : Sp) : Prop where
  len : ∀ vs H Q E, sp vs H Q E → vs.length = ps.length
  run : ∀ (A : Around) (outer : List Env) (s : Shared) (H : Hp) (args : Args) (us : List Value) (vs : List V) (Q : VK) (E : XK), Rm k A → Env0 P w K mg base A outer s H → BindsTo s fd args (ps.zip us) → Vals vs us → sp vs H Q E →
    codeAny (model P w) A (.call (.ref f) args) (CR (CX P w) outer P w H s Q E) s
theorem FnG.mono {P : Program} {w : World} {K : PySem.W.Frag} {mg : Str → Option Value} {base : Heap} {j k : Nat} {f : Addr} {fd : FuncData} {ps : List Str} {sp : Sp} (F : FnG P w K mg base j f fd ps sp) (h : j ≤ k) : FnG P w K mg base k f fd ps sp :=
  ⟨F.len, fun A outer s H args us vs Q E hr => F.run A outer s H args us vs Q E (hr.mono h)⟩
theorem FnG.imp {P : Program} {w : World} {K : PySem.W.Frag} {mg : Str → Option Value} {base : Heap} {k : Nat} {f : Addr} {fd : FuncData} {ps : List Str} {sp sp' : Sp} (F : FnG P w K mg base k f fd ps sp) (h : ∀ vs H Q E, sp' vs H Q E → sp vs H Q E) : FnG P w K mg base k f fd ps sp' :=
  ⟨fun vs H Q E q => F.len vs H Q E (h _ _ _ _ q), fun A outer s H args us vs Q E hr he hb hv hs => F.run A outer s H args us vs Q E hr he hb hv (h _ _ _ _ hs)⟩
/-- by its body -/
theorem fnG_of {P : Program} {w : World} {K : PySem.W.Frag} {mg : Str → Option Value} {base : Heap} {k : Nat} {f : Addr} {name qual : Str} {params : Arguments} {body : List Stmt} {scope : Scope} {dV kV doc pm cdv ct oc : Value} {an od : Option Addr}
    {osl : Array (Option Value)} {N ps : List Str} {sp : Sp} (lk : K.lookup f = some ⟨oc, od, .func (PySem.W.fnOf name qual params body scope dV kV doc pm an cdv ct), osl⟩) (hcd : PySem.W.codeIn K cdv qual = true) (S : FnScope N ps scope)
    (len : ∀ vs H Q E, sp vs H Q E → vs.length = ps.length)
    (hbody : ∀ (A : Around) (outer : List Env) (s : Shared) (H : Hp) (vs : List V) (Q : VK) (E : XK), Rm k (A.deeper (envOfC qual scope s.heap.objs.size f cdv)) → sp vs H Q E →
      ∃ t, PSs (cxOf (CX P w) P w K mg base N qual scope f cdv A outer s H E) body t ∧ t { nx := fun _ H' => Q .non H', rt := Q } (L2.start N vs) H) :
    FnG P w K mg base (k + 1) f (PySem.W.fnOf name qual params body scope dV kV doc pm an cdv ct) ps sp := by
  refine ⟨len, fun A outer s H args us vs Q E hr e0 hb r hsp => ?_⟩
  have hl := len _ _ _ _ hsp
  have keep : ∀ b o, base.get? b = some o → s.heap.get? b = some o := fun b o e => (e0.bs b o e).1
  have KX : K.In s.heap := e0.mod.kin.keeps keep
  have lim : s.heap.NoLimit := e0.mod.nolimit.keeps keep
  have slots : ∀ y ∈ ps.zip us, scope.names.lookup y.1 = some .local ∨ (scope.names.lookup y.1 = some .cell ∧ ((cellsFrom (s.heap.objs.size + 1) scope.names []).lookup y.1).isSome = true) := fun y hy =>
    (S.par y.1 (List.of_mem_zip (a := y.1) (b := y.2) hy).1).imp id fun q => ⟨q, PySem.W.cellsFrom_some _ _ _ (.inl q)⟩
  refine codeAny_call_function hr.rm.depth (KX _ _ lk) rfl S.co S.gen rfl (PySem.W.codeRec_of KX hcd) (hb _ _ _ _ ?_)
  refine wpAny_newFunctionEnv_cells S.kind slots fun env he s1 x => ?_
  subst he
  obtain ⟨t, ht, hq⟩ := hbody A outer s H vs Q E (hr.deeper _) hsp
  refine ⟨lim.keeps x.toInCall.keep, codeAny_func (wpAny_mono (ht.run [] s1 (L2.start N vs) H _ (inv_start S hr.rm.hd e0 hl r x) hq) (fun fl s' hs => ?_) fun e s' hs => hs)⟩
  cases fl with
  | ret u =>
    obtain ⟨v, σ', H', J, rv, q⟩ := hs
    exact ⟨v, H', J.os, J.bare, J.base, J.hok, rv, q⟩
  | next =>
    obtain ⟨σ', H', J, q⟩ := hs
    exact ⟨V.non, H', J.os, J.bare, J.base, J.hok, rfl, q⟩
  | brk => exact (show False from let ⟨_, _, _, q⟩ := hs; q).elim
  | cont => exact (show False from let ⟨_, _, _, q⟩ := hs; q).elim
end SD
namespace SD
open PySem PySem.Spec PyProof.Rows L2

theorem run_fnG {X : Cx} {k : Nat} {f : Addr} {fd : FuncData} {ps : List Str} {sp : Sp} {dvs : List V} {ds : List Value} {E : St → XK} {pins : List (Addr × Obj)} {σ : St} {H : Hp} {s : Shared} {Q : VK} {us : List Value} {vs : List V}
    (F : FnG X.prog X.w X.K X.mg X.base k f fd ps sp) (hr : Rm k X.A) (hb : Binds X.K fd ps ds) (hd : Vals dvs ds) (hx : PassesAt (CX X.prog X.w) X σ (E σ))
    (I : Inv X pins σ H s) (r : Vals vs us) (h : sp (vs ++ dvs) H Q (E σ)) : wpAny (model X.prog X.w) X.A (call (.ref f) us) (EP X pins σ Q) X.xe s := by
  have r2 : Vals (vs ++ dvs) (us ++ ds) := r.append hd
  have hl : (us ++ ds).length = ps.length := by rw [← r2.length]; exact F.len _ _ _ _ h
  refine wpAny_call (codeAny_mono (F.run X.A X.stack s H ⟨us, []⟩ (us ++ ds) (vs ++ dvs) Q (E σ) hr I.env0 (hb s us I.kIn hl) r2 h) fun r s' hq => ?_)
  cases r with
  | error e => exact hx pins H s e s' I hq
  | ok fl =>
    cases fl with
    | ret u => exact I.after hq
    | next => exact False.elim hq
    | brk => exact False.elim hq
    | cont => exact False.elim hq

/-- a def keeps a promise over data and can be called: dd the defaults that fill up -/
structure Dfn (P : Program) (w : World) (K : PySem.W.Frag) (mg : Str → Option Value) (base : Heap) (T : List NdefX.NTab) (k : Nat) (f : Addr) (ps : List Str) (dd : List D) (sp : DSp) : Prop where
  ex : ∃ (fd : FuncData) (ds : List Value) (vs : List V), (∀ B, FnG P w K mg base k f fd ps (toSp K ⟨T, B⟩ sp)) ∧ Binds K fd ps ds ∧ Vals vs ds ∧ ∀ G, IsL K G vs dd
  kp : PySem.W.keepIn K (.ref f) = true
theorem Dfn.mono {P : Program} {w : World} {K : PySem.W.Frag} {mg : Str → Option Value} {base : Heap} {T : List NdefX.NTab} {j k : Nat} {f : Addr} {ps : List Str} {dd : List D} {sp : DSp} (F : Dfn P w K mg base T j f ps dd sp) (h : j ≤ k) : Dfn P w K mg base T k f ps dd sp :=
  ⟨let ⟨fd, ds, vs, F, r⟩ := F.ex; ⟨fd, ds, vs, fun B => (F B).mono h, r⟩, F.kp⟩
theorem toSp_imp {K : PySem.W.Frag} {T : TB} {sp sp' : DSp} (h : ∀ ds M R RX, sp' ds M R RX → sp ds M R RX) : ∀ vs H Q E, toSp K T sp' vs H Q E → toSp K T sp vs H Q E :=
  fun vs H Q E ⟨G, M, ds, R, RX, rp, i, q, k, x⟩ => ⟨G, M, ds, R, RX, rp, i, h _ _ _ _ q, k, x⟩
theorem Dfn.imp {P : Program} {w : World} {K : PySem.W.Frag} {mg : Str → Option Value} {base : Heap} {T : List NdefX.NTab} {k : Nat} {f : Addr} {ps : List Str} {dd : List D} {sp sp' : DSp} (F : Dfn P w K mg base T k f ps dd sp) (h : ∀ ds M R RX, sp' ds M R RX → sp ds M R RX) : Dfn P w K mg base T k f ps dd sp' :=
  ⟨let ⟨fd, ds, vs, F, r⟩ := F.ex; ⟨fd, ds, vs, fun B => (F B).imp (toSp_imp h), r⟩, F.kp⟩

def dCall (sp : DSp) (dd : List D) (W : DW) (ta : DA) : DE := fun ρ M Q => ta ρ M fun ds M1 => sp (ds ++ dd) M1 Q fun cls fs M' => W cls fs ρ M'
def dMeth (C : Addr) (m : Str) (sp : DSp) (dd : List D) (W : DW) (to : DE) (ta : DA) : DE := fun ρ M Q => to ρ M fun x M1 => ∃ fs, insOf M1 x = some (C, fs) ∧ fs.lookup m = none ∧ ta ρ M1 fun ds M2 => sp (x :: (ds ++ dd)) M2 Q fun cls fs M' => W cls fs ρ M'
def dMake (C : Addr) (sp : DSp) (dd : List D) (W : DW) (ta : DA) : DE := fun ρ M Q => ta ρ M fun ds M1 => ∀ x, M1 x = none → sp (.ref x :: (ds ++ dd)) (updM M1 x (.ins C [])) (fun v M2 => v = .non ∧ Q (.ref x) M2) fun cls fs M' => W cls fs ρ M'
def dProp (C : Addr) (sp : DSp) (to : DE) : DE := fun ρ M Q => to ρ M fun x M1 => ∃ fs, insOf M1 x = some (C, fs) ∧ sp [x] M1 Q fun _ _ _ => False
/-- nothing is wished of exceptions -/
def W0 : DW := fun _ _ _ _ => False
theorem takes0 {X : Cx} {T : TB} : Takes X (lW X.K T W0) := takes_none5.imp fun _ _ _ _ ⟨_, _, _, _, _, _, _, z⟩ => z.elim
theorem takes_W0 {X : Cx} {T : TB} {W : DW} (tk : Takes X (lW X.K T W)) : Takes X (lW X.K T W0) := takes0

section
variable {X : Cx} {T : TB} {k : Nat} {f C : Addr} {ps : List Str} {sp : DSp} {dd : List D} {W : DW} {x m : Str} {p pos apos : Pos} {e o : Expr} {es : List Expr} {to : DE} {ta : DA}

theorem lX_of {G G' : Hp} {ρ : DEnv} {σ : St} (sl : Sl X.K G ρ σ) (s : Same G G') : lX X.K T G' (fun cls fs M' => W cls fs ρ M') (WE (lW X.K T W) σ) :=
  fun cls od fs M2 G2 H2 rx s2 rp2 xd => ⟨ρ, G2, M2, fs, sl.mono (s.trans s2), rp2, xd, rx⟩

theorem xcall (F : Dfn X.prog X.w X.K X.mg X.base T.tabs k f ps dd sp) (hr : Rm k X.A) (hg : Gl X x) (hm : X.mg x = some (.ref f)) (tk : Takes X (lW X.K T W))
    (ha : XA X T (e :: es) ta) (hdb : (x == ("__debug__" : Str)) = false := by decide) (he : starEach (e :: es) X.env = (false, eval e X.env) :: starEach es X.env := by rfl) (hpl : (backTo pos (starEach es X.env)).any (·.1) = false := by rfl) :
    XE X T (.Call (.Name x p) (e :: es) [] pos) (dCall sp dd W ta) := by
  obtain ⟨⟨fd, ds, dvs, F, hb, hd, hdd⟩, hk⟩ := F
  have F : FnG X.prog X.w X.K X.mg X.base k _ fd ps (toSp X.K T sp) := F T.base
  refine ⟨fun pins s σ H Q I ⟨ρ, G, M, R, sl, rp, h, k⟩ => ?_⟩
  refine wpAny_Call_Name_kw (ld_glob I hg hm ?_ hdb)
  refine PySem.W.callWith_K (h₀ := X.base) I.ok.mod.kin hk (thn (ha.run pos pins s σ H (fun vs H1 => toSp X.K T sp (vs ++ dvs) H1 Q (WE (lW X.K T W) σ)) I
    ⟨ρ, G, M, _, sl, rp, h, fun ds M' vs G' H' q s1 rp1 i1 => ⟨G', M', _, _, _, rp1, i1.append (hdd G'), q, k.mono s1, lX_of sl s1⟩⟩) fun us s1 ⟨vs, H1, I1, r, q⟩ => ⟨I1.kIn, ?_⟩) he hpl
  exact run_fnG F hr hb hd (passAt tk σ) I1 r q
theorem xcall0 (F : Dfn X.prog X.w X.K X.mg X.base T.tabs k f ps dd sp) (hr : Rm k X.A) (hg : Gl X x) (hm : X.mg x = some (.ref f)) (tk : Takes X (lW X.K T W)) (hdb : (x == ("__debug__" : Str)) = false := by decide) :
    XE X T (.Call (.Name x p) [] [] pos) (dCall sp dd W dNil) := by
  obtain ⟨⟨fd, ds, dvs, F, hb, hd, hdd⟩, hk⟩ := F
  have F : FnG X.prog X.w X.K X.mg X.base k _ fd ps (toSp X.K T sp) := F T.base
  refine ⟨fun pins s σ H Q I ⟨ρ, G, M, R, sl, rp, h, k⟩ => ?_⟩
  refine wpAny_Call_Name_kw (ld_glob I hg hm ?_ hdb)
  exact PySem.W.callWith_K0 I.kIn hk (run_fnG (us := []) (vs := []) F hr hb hd (passAt tk σ) I .nil ⟨G, M, _, _, _, rp, hdd G, h, k, lX_of sl (Same.refl G)⟩)
theorem xmeth {pl : Sem Bool} (F : Dfn X.prog X.w X.K X.mg X.base T.tabs k f ps dd sp) (hr : Rm k X.A) (c : Cls X.K C) (hm : Meth X.K C m f) (tk : Takes X (lW X.K T W)) (ho : XE X T o to) (ha : XA X T (e :: es) ta)
    (hst : starEach (e :: es) X.env = (false, eval e X.env) :: starEach es X.env := by rfl) (hpl : (backTo pos (starEach es X.env)).any (·.1) = false := by rfl)
    (ht : eval (.Call (.Attribute o m apos) (e :: es) [] pos) X.env = (do
      let ov ← eval o X.env
      standAt apos.atName
      let (f, first) ← holding [ov] (getMethod ov m pl)
      callWith pos f first (backTo pos (starEach (e :: es) X.env)) (backToKw pos (keywordEach [] X.env))) := by rfl) :
    XE X T (.Call (.Attribute o m apos) (e :: es) [] pos) (dMeth C m sp dd W to ta) := by
  obtain ⟨⟨fd, ds, dvs, F, hb, hd, hdd⟩, hk⟩ := F
  have F : FnG X.prog X.w X.K X.mg X.base k _ fd ps (toSp X.K T sp) := F T.base
  refine ⟨fun pins s σ H Q I ⟨ρ, G, M, R, sl, rp, h, k⟩ => ?_⟩
  refine PySem.W.methodCall_KW (pl := pl) (thn (ho.run pins s σ H (fun x H1 => ∃ a C' dx fs, x = .ref a ∧ H1 a = some (.ins C' dx fs) ∧ C' = C ∧ fs.lookup m = none ∧ lA X.K T ta σ H1 fun vs H2 => toSp X.K T sp (x :: (vs ++ dvs)) H2 Q (WE (lW X.K T W) σ)) I
    ⟨ρ, G, M, _, sl, rp, h, fun x M1 v G1 H1 ⟨fs, ei, el, q1⟩ s1 rp1 i1 => ?_⟩) fun u s1 ⟨x, H1, I1, rx, a, C', dx, fs, ex, ea, ec, l, q⟩ => ?_) ht
  · obtain ⟨a, dx, vs, rfl, ha, l⟩ := insOf_ok rp1 i1 ei
    refine ⟨a, C, dx, vs, rfl, ha, rfl, l.lookup_none el, ρ, G1, M1, _, sl.mono s1, rp1, q1, fun ds M2 vs G2 H2 q2 s2 rp2 i2 => ⟨G2, M2, _, _, _, rp2, .cons (i1.mono s2) (i2.append (hdd G2)), q2, k.mono (s1.trans s2), lX_of sl (s1.trans s2)⟩⟩
  · subst ex ec
    obtain rfl : u = Value.ref a := rx
    refine getmeth_ok I1 ea c hm l ?_
    refine PySem.W.callWith_K (first := [.ref a]) (h₀ := X.base) I.ok.mod.kin hm.kp (thn (ha.run pos pins s1 σ H1 _ I1 q) fun us s2 ⟨vs, H2, I2, r, q2⟩ => ⟨I2.kIn, ?_⟩) hst hpl
    exact run_fnG (us := .ref a :: us) (vs := .ref a :: vs) F hr hb hd (passAt tk σ) I2 (.cons rfl r) q2
theorem xmeth0 {pl : Sem Bool} (F : Dfn X.prog X.w X.K X.mg X.base T.tabs k f ps dd sp) (hr : Rm k X.A) (c : Cls X.K C) (hm : Meth X.K C m f) (tk : Takes X (lW X.K T W)) (ho : XE X T o to)
    (ht : eval (.Call (.Attribute o m apos) [] [] pos) X.env = (do
      let ov ← eval o X.env
      standAt apos.atName
      let (f, first) ← holding [ov] (getMethod ov m pl)
      callWith pos f first (backTo pos (starEach [] X.env)) (backToKw pos (keywordEach [] X.env))) := by rfl) :
    XE X T (.Call (.Attribute o m apos) [] [] pos) (dMeth C m sp dd W to dNil) := by
  obtain ⟨⟨fd, ds, dvs, F, hb, hd, hdd⟩, hk⟩ := F
  have F : FnG X.prog X.w X.K X.mg X.base k _ fd ps (toSp X.K T sp) := F T.base
  refine ⟨fun pins s σ H Q I ⟨ρ, G, M, R, sl, rp, h, k⟩ => ?_⟩
  refine PySem.W.methodCall_KW (pl := pl) (thn (ho.run pins s σ H (fun x H1 => ∃ a C' dx fs, x = .ref a ∧ H1 a = some (.ins C' dx fs) ∧ C' = C ∧ fs.lookup m = none ∧ toSp X.K T sp (x :: dvs) H1 Q (WE (lW X.K T W) σ)) I
    ⟨ρ, G, M, _, sl, rp, h, fun x M1 v G1 H1 ⟨fs, ei, el, q1⟩ s1 rp1 i1 => ?_⟩) fun u s1 ⟨x, H1, I1, rx, a, C', dx, fs, ex, ea, ec, l, q⟩ => ?_) ht
  · obtain ⟨a, dx, vs, rfl, ha, l⟩ := insOf_ok rp1 i1 ei
    exact ⟨a, C, dx, vs, rfl, ha, rfl, l.lookup_none el, G1, M1, _, _, _, rp1, .cons i1 (hdd G1), q1, k.mono s1, lX_of sl s1⟩
  · subst ex ec
    obtain rfl : u = Value.ref a := rx
    refine getmeth_ok I1 ea c hm l ?_
    exact PySem.W.callWith_K0 (first := [.ref a]) I1.kIn hm.kp (run_fnG (us := [.ref a]) (vs := [.ref a]) F hr hb hd (passAt tk σ) I1 (.cons rfl .nil) q)

theorem Rp.ext {K : PySem.W.Frag} {G H : Hp} {M : Mp} {p : Addr} {o : HO} (r : Rp K T G M H) (h : H p = none) : Rp K T G M (upd H p o) :=
  ⟨fun b u e => by rw [upd_ne (ne_of_none (r.sub b u e) h)]; exact r.sub b u e, fun a q e => let ⟨g, u, hu, i⟩ := r.mt a q e; ⟨g, u, by rw [upd_ne (ne_of_none hu h)]; exact hu, i⟩, r.tab.ext (same_upd h), r.bs, r.nt⟩
theorem run_makeG {fd : FuncData} {dvs : List V} {ds : List Value} {pins : List (Addr × Obj)} {σ : St} {H : Hp} {s : Shared} {Q : VK} {us : List Value} {vs : List V} {sp : Sp} {E : St → XK} (Mk0 : Mk X.K C f)
    (F : FnG X.prog X.w X.K X.mg X.base k f fd ps sp) (hr : Rm (k + 1) X.A) (hb : Binds X.K fd ps ds) (hd : Vals dvs ds) (hx : PassesAt (CX X.prog X.w) X σ (E σ)) (I : Inv X pins σ H s) (r : Vals vs us)
    (h : ∀ x dx, H x = none → H dx = none → dx ≠ x → sp (.ref x :: (vs ++ dvs)) (upd (upd H dx (.own x)) x (.ins C dx [])) (fun v H2 => v = .non ∧ Q (.ref x) H2) (E σ)) :
    wpAny (model X.prog X.w) X.A (call (.ref C) us) (EP X pins σ Q) X.xe s := by
  have hq := h (s.heap.objs.size + 1) s.heap.objs.size (I.hok.fresh (Nat.le_succ _)) (I.hok.fresh (Nat.le_refl _)) (Nat.ne_of_lt (Nat.lt_succ_self _))
  have I2 := Inv.made (C := C) I
  have r2 : Vals (V.ref (s.heap.objs.size + 1) :: (vs ++ dvs)) (Value.ref (s.heap.objs.size + 1) :: (us ++ ds)) := .cons rfl (r.append hd)
  have hl : (Value.ref (s.heap.objs.size + 1) :: us ++ ds).length = ps.length := by
    have e := r2.length
    rw [F.len _ _ _ _ hq] at e
    exact e.symm
  refine wpAny_call (make_map (f := f) I.kIn Mk0.makes Mk0.init (beq_iff_eq.mp Mk0.fn) (codeAny_mono (F.run _ X.stack _ _ ⟨Value.ref (s.heap.objs.size + 1) :: us, []⟩ (Value.ref (s.heap.objs.size + 1) :: (us ++ ds)) _ _ (E σ) (hr.make C us [])
    (I2.env0.make C us []) (hb _ (Value.ref (s.heap.objs.size + 1) :: us) I2.kIn hl) r2 hq) fun r s' hq' => ?_))
  cases r with
  | error e => exact hx pins _ _ e s' I2 hq'
  | ok fl =>
    cases fl with
    | ret u =>
      obtain ⟨v, H', I3, rv, ev, q3⟩ := I2.after hq'
      subst ev
      exact ⟨rv, ⟨V.ref (s.heap.objs.size + 1), H', I3, rfl, q3⟩⟩
    | next => exact False.elim hq'
    | brk => exact False.elim hq'
    | cont => exact False.elim hq'
theorem make_sp {G H : Hp} {M : Mp} {ρ : DEnv} {σ : St} {R : DK} {Q : VK} {ds : List D} {vs dvs : List V} (sl : Sl X.K G ρ σ) (rp : Rp X.K T G M H) (i : IsL X.K G vs ds) (hdd : ∀ G, IsL X.K G dvs dd)
    (q : ∀ x, M x = none → sp (.ref x :: (ds ++ dd)) (updM M x (.ins C [])) (fun v M2 => v = .non ∧ R (.ref x) M2) fun cls fs M' => W cls fs ρ M') (k : lK X.K T G R Q) :
    ∀ x dx, H x = none → H dx = none → dx ≠ x → toSp X.K T sp (.ref x :: (vs ++ dvs)) (upd (upd H dx (.own x)) x (.ins C dx [])) (fun v H2 => v = .non ∧ Q (.ref x) H2) (WE (lW X.K T W) σ) := by
  intro x dx hx hdx ne
  have rp1 : Rp X.K T G M (upd H dx (.own x)) := rp.ext hdx
  have hx1 : upd H dx (.own x) x = none := by rw [upd_ne ne.symm]; exact hx
  refine ⟨G, _, _, _, _, rp1.newM hx1 (.ins .nil), .cons (.ref x) (i.append (hdd G)), q x (rp.freeM hx), fun d M' v G' H' r s2 rp2 i2 => ?_, lX_of sl (Same.refl G)⟩
  obtain ⟨rfl, r⟩ := r
  cases i2
  exact ⟨rfl, k _ _ _ _ _ r s2 rp2 (.ref x)⟩
theorem xmake (Mk0 : Mk X.K C f) (F : Dfn X.prog X.w X.K X.mg X.base T.tabs k f ps dd sp) (hr : Rm (k + 1) X.A) (hg : Gl X x) (hm : X.mg x = some (.ref C)) (tk : Takes X (lW X.K T W))
    (ha : XA X T (e :: es) ta) (hdb : (x == ("__debug__" : Str)) = false := by decide) (he : starEach (e :: es) X.env = (false, eval e X.env) :: starEach es X.env := by rfl) (hpl : (backTo pos (starEach es X.env)).any (·.1) = false := by rfl) :
    XE X T (.Call (.Name x p) (e :: es) [] pos) (dMake C sp dd W ta) := by
  obtain ⟨⟨fd, ds, dvs, F, hb, hd, hdd⟩, hk⟩ := F
  have F : FnG X.prog X.w X.K X.mg X.base k _ fd ps (toSp X.K T sp) := F T.base
  refine ⟨fun pins s σ H Q I ⟨ρ, G, M, R, sl, rp, h, k⟩ => ?_⟩
  refine wpAny_Call_Name_kw (ld_glob I hg hm ?_ hdb)
  refine PySem.W.callWith_K (h₀ := X.base) I.ok.mod.kin Mk0.kp (thn (ha.run pos pins s σ H (fun vs H1 => ∀ x dx, H1 x = none → H1 dx = none → dx ≠ x → toSp X.K T sp (.ref x :: (vs ++ dvs)) (upd (upd H1 dx (.own x)) x (.ins C dx [])) (fun v H2 => v = .non ∧ Q (.ref x) H2) (WE (lW X.K T W) σ)) I
    ⟨ρ, G, M, _, sl, rp, h, fun ds M' vs G' H' q s1 rp1 i1 => make_sp (sl.mono s1) rp1 i1 hdd q (k.mono s1)⟩) fun us s1 ⟨vs, H1, I1, r, q⟩ => ⟨I1.kIn, ?_⟩) he hpl
  exact run_makeG (E := WE (lW X.K T W)) Mk0 F hr hb hd (passAt tk σ) I1 r q
theorem xmake0 (Mk0 : Mk X.K C f) (F : Dfn X.prog X.w X.K X.mg X.base T.tabs k f ps dd sp) (hr : Rm (k + 1) X.A) (hg : Gl X x) (hm : X.mg x = some (.ref C)) (tk : Takes X (lW X.K T W)) (hdb : (x == ("__debug__" : Str)) = false := by decide) :
    XE X T (.Call (.Name x p) [] [] pos) (dMake C sp dd W dNil) := by
  obtain ⟨⟨fd, ds, dvs, F, hb, hd, hdd⟩, hk⟩ := F
  have F : FnG X.prog X.w X.K X.mg X.base k _ fd ps (toSp X.K T sp) := F T.base
  refine ⟨fun pins s σ H Q I ⟨ρ, G, M, R, sl, rp, h, k⟩ => ?_⟩
  refine wpAny_Call_Name_kw (ld_glob I hg hm ?_ hdb)
  exact PySem.W.callWith_K0 I.kIn Mk0.kp (run_makeG (E := WE (lW X.K T W)) (us := []) (vs := []) Mk0 F hr hb hd (passAt tk σ) I .nil (make_sp sl rp .nil hdd h k))

/-- a def with keyword-only parameters: n positional values, then the keywords ks; g puts them in the parameters' order -/
structure DfnK (P : Program) (w : World) (K : PySem.W.Frag) (mg : Str → Option Value) (base : Heap) (T : List NdefX.NTab) (k : Nat) (f : Addr) (ps : List Str) (n : Nat) (ks : List Str) (gD : List D → List D → List D) (sp : DSp) : Prop where
  ex : ∃ (fd : FuncData) (g : List Value → List Value → List Value) (gV : List V → List V → List V), (∀ B, FnG P w K mg base k f fd ps (toSp K ⟨T, B⟩ sp)) ∧ KBn K fd ps n ks g gV ∧ ∀ G vs zs ds es, IsL K G vs ds → IsL K G zs es → IsL K G (gV vs zs) (gD ds es)
theorem DfnK.mono {P : Program} {w : World} {K : PySem.W.Frag} {mg : Str → Option Value} {base : Heap} {T : List NdefX.NTab} {j k : Nat} {f : Addr} {ps : List Str} {n : Nat} {ks : List Str} {gD : List D → List D → List D} {sp : DSp} (F : DfnK P w K mg base T j f ps n ks gD sp) (h : j ≤ k) : DfnK P w K mg base T k f ps n ks gD sp :=
  ⟨let ⟨fd, g, gV, F, r⟩ := F.ex; ⟨fd, g, gV, fun B => (F B).mono h, r⟩⟩
/-- the values of keywords -/
abbrev XK' (X : Cx) (T : TB) (kws : List Keyword) (t : DA) : Prop := PK X kws (lA X.K T t)
theorem kn : XK' X T [] dNil := ⟨fun p pins s σ H Q I ⟨ρ, G, M, R, sl, rp, h, k⟩ => pk_nil.run p pins s σ H Q I (k _ _ _ _ _ h (Same.refl G) rp .nil)⟩
theorem _root_.L2.PK.imp {X : Cx} {e : List Keyword} {t t' : TA} (h : PK X e t) (w : ∀ σ H Q, t' σ H Q → t σ H Q) : PK X e t' := ⟨fun p pins s σ H Q I q => h.run p pins s σ H Q I (w σ H Q q)⟩
theorem kc {nm : Option Str} {kpos : Pos} {kws : List Keyword} {te : DE} (he : XE X T e te) (hr : XK' X T kws ta) : XK' X T (⟨nm, e, kpos⟩ :: kws) (dCons te ta) :=
  (pk_cons he hr).imp fun σ H Q ⟨ρ, G, M, R, sl, rp, h, k⟩ => ⟨ρ, G, M, _, sl, rp, h, fun x M1 v G1 H1 q1 s1 rp1 i1 =>
    ⟨ρ, G1, M1, _, sl.mono s1, rp1, q1, fun xs M2 vs G2 H2 q2 s2 rp2 i2 => k _ _ _ _ _ q2 (s1.trans s2) rp2 (.cons (i1.mono s2) i2)⟩⟩
def dMakeK (C : Addr) (n m : Nat) (sp : DSp) (gD : List D → List D → List D) (W : DW) (ta tk : DA) : DE := fun ρ M Q => ta ρ M fun ds M1 => tk ρ M1 fun es M2 => ds.length = n ∧ es.length = m ∧ ∀ x, M2 x = none →
  sp (gD (.ref x :: ds) es) (updM M2 x (.ins C [])) (fun v M3 => v = .non ∧ Q (.ref x) M3) fun cls fs M' => W cls fs ρ M'
theorem run_makeKG {n : Nat} {ks : List Str} {fd : FuncData} {g : List Value → List Value → List Value} {gV : List V → List V → List V} {pins : List (Addr × Obj)} {σ : St} {H : Hp} {s : Shared} {Q : VK} {us ws : List Value} {vs zs : List V} {sp : Sp} {E : St → XK} (Mk0 : Mk X.K C f)
    (F : FnG X.prog X.w X.K X.mg X.base k f fd ps sp) (hr : Rm (k + 1) X.A) (hb : KBn X.K fd ps (n + 1) ks g gV) (hx : PassesAt (CX X.prog X.w) X σ (E σ)) (I : Inv X pins σ H s) (r : Vals vs us) (rz : Vals zs ws) (l1 : vs.length = n) (l2 : zs.length = ks.length)
    (h : ∀ x dx, H x = none → H dx = none → dx ≠ x → sp (gV (.ref x :: vs) zs) (upd (upd H dx (.own x)) x (.ins C dx [])) (fun v H2 => v = .non ∧ Q (.ref x) H2) (E σ)) :
    wpAny (model X.prog X.w) X.A (call (.ref C) us (ks.zip ws)) (EP X pins σ Q) X.xe s := by
  have hq := h (s.heap.objs.size + 1) s.heap.objs.size (I.hok.fresh (Nat.le_succ _)) (I.hok.fresh (Nat.le_refl _)) (Nat.ne_of_lt (Nat.lt_succ_self _))
  have I2 := Inv.made (C := C) I
  have r1 : Vals (V.ref (s.heap.objs.size + 1) :: vs) (Value.ref (s.heap.objs.size + 1) :: us) := .cons rfl r
  have r2 := hb.rel r1 rz
  have n1 : (Value.ref (s.heap.objs.size + 1) :: us).length = n + 1 := by
    rw [List.length_cons, ← r.length, l1]
  refine wpAny_call (make_map (f := f) I.kIn Mk0.makes Mk0.init (beq_iff_eq.mp Mk0.fn) (codeAny_mono (F.run _ X.stack _ _ ⟨Value.ref (s.heap.objs.size + 1) :: us, ks.zip ws⟩ (g (Value.ref (s.heap.objs.size + 1) :: us) ws) _ _ (E σ) (hr.make C us (ks.zip ws))
    (I2.env0.make C us (ks.zip ws)) (hb.to _ (Value.ref (s.heap.objs.size + 1) :: us) ws I2.kIn n1 (rz.length.symm.trans l2)) r2 hq) fun r s' hq' => ?_))
  cases r with
  | error e => exact hx pins _ _ e s' I2 hq'
  | ok fl =>
    cases fl with
    | ret u =>
      obtain ⟨v, H', I3, rv, ev, q3⟩ := I2.after hq'
      subst ev
      exact ⟨rv, ⟨V.ref (s.heap.objs.size + 1), H', I3, rfl, q3⟩⟩
    | next => exact False.elim hq'
    | brk => exact False.elim hq'
    | cont => exact False.elim hq'
theorem xmakeK {n : Nat} {ks : List Str} {gD : List D → List D → List D} {kws : List Keyword} {tkw : DA} (Mk0 : Mk X.K C f) (F : DfnK X.prog X.w X.K X.mg X.base T.tabs k f ps (n + 1) ks gD sp) (hr : Rm (k + 1) X.A) (hg : Gl X x) (hm : X.mg x = some (.ref C)) (tk : Takes X (lW X.K T W))
    (ha : XA X T (e :: es) ta) (hkw : XK' X T kws tkw)
    (hall : (backToKw pos (keywordEach kws X.env)).all (·.1.isSome) = true := by rfl) (hks : (backToKw pos (keywordEach kws X.env)).filterMap (·.1) = ks := by rfl) (hdb : (x == ("__debug__" : Str)) = false := by decide)
    (he : starEach (e :: es) X.env = (false, eval e X.env) :: starEach es X.env := by rfl) (hpl : ((backTo pos (starEach (e :: es) X.env)).any (·.1) || (backToKw pos (keywordEach kws X.env)).any (·.1.isNone)) = false := by rfl) :
    XE X T (.Call (.Name x p) (e :: es) kws pos) (dMakeK C n ks.length sp gD W ta tkw) := by
  obtain ⟨fd, g, gV, F, hb, hgg⟩ := F
  have F : FnG X.prog X.w X.K X.mg X.base k _ fd ps (toSp X.K T sp) := F T.base
  refine ⟨fun pins s σ H Q I ⟨ρ, G, M, R, sl, rp, h, k⟩ => ?_⟩
  refine wpAny_Call_Name_kw (ld_glob I hg hm ?_ hdb)
  refine PySem.W.callWith_KW (h₀ := X.base) I.ok.mod.kin Mk0.kp hall (thn (ha.run pos pins s σ H (fun vs H1 => lA X.K T tkw σ H1 fun zs H2 => vs.length = n ∧ zs.length = ks.length ∧ ∀ x dx, H2 x = none → H2 dx = none → dx ≠ x →
      toSp X.K T sp (gV (.ref x :: vs) zs) (upd (upd H2 dx (.own x)) x (.ins C dx [])) (fun v H2 => v = .non ∧ Q (.ref x) H2) (WE (lW X.K T W) σ)) I
    ⟨ρ, G, M, _, sl, rp, h, fun ds M' vs G' H' q s1 rp1 i1 => ⟨ρ, G', M', _, sl.mono s1, rp1, q, fun es M2 zs G2 H2 q2 s2 rp2 i2 => ?_⟩⟩) fun us s1 ⟨vs, H1, I1, r, q⟩ => ?_) hpl he
  · obtain ⟨l1, l2, q2⟩ := q2
    refine ⟨i1.length.trans l1, i2.length.trans l2, fun x dx hx hdx ne => ?_⟩
    have rp1 : Rp X.K T G2 M2 (upd H2 dx (.own x)) := rp2.ext hdx
    have hx1 : upd H2 dx (.own x) x = none := by rw [upd_ne ne.symm]; exact hx
    refine ⟨G2, _, _, _, _, rp1.newM hx1 (.ins .nil), hgg G2 _ _ _ _ (.cons (.ref x) (i1.mono s2)) i2, q2 x (rp2.freeM hx), fun d M' v G' H' r s3 rp3 i3 => ?_, lX_of sl (s1.trans s2)⟩
    obtain ⟨rfl, r⟩ := r
    cases i3
    exact ⟨rfl, k _ _ _ _ _ r (s1.trans (s2.trans s3)) rp3 (.ref x)⟩
  · refine thn (hkw.run pos pins s1 σ H1 _ I1 q) fun ws s2 ⟨zs, H2, I2, rz, l1, l2, q2⟩ => ⟨I2.kIn, ?_⟩
    rw [hks]
    exact run_makeKG (E := WE (lW X.K T W)) Mk0 F hr hb (passAt tk σ) I2 r rz l1 l2 q2

theorem getpropG {a dx : Addr} {fs : List (Str × V)} {f : Str} {g p : Addr} {fd : FuncData} {sp : Sp} {pins : List (Addr × Obj)} {σ : St} {H : Hp} {s : Shared} {Q : VK} {b : Bool} (I : Inv X pins σ H s) (ea : H a = some (.ins C dx fs)) (c : Cls X.K C) (hp : PropOf X.K C f p g)
    (F : FnG X.prog X.w X.K X.mg X.base k g fd ps sp) (hr : Rm (k + 1) X.A) (hb : Binds X.K fd ps []) (h : sp [.ref a] H Q fun _ _ _ => False) :
    wpAny (model X.prog X.w) X.A (getAttr (.ref a) f b) (EP X pins σ Q) X.xe s := by
  obtain ⟨mA, O, _, _, _, _⟩ := ins_get I.hok ea
  obtain ⟨od, J, _⟩ := O.look
  obtain ⟨rest, hrec⟩ := hp.rec_
  have I1 := I.tok (s.toks + 1)
  have hl : ([Value.ref a] ++ ([] : List Value)).length = ps.length := by
    rw [← F.len _ _ _ _ h]
    rfl
  have hc : (PySem.W.clsIn X.K C).isSome = true := by
    obtain ⟨cd, hc, _⟩ := PySem.W.any_some c.hd
    rw [hc]
    rfl
  refine PySem.W.get_bind I.kIn J (PySem.W.plainGet_of (c.get f)).1 (PySem.W.findObj_data hc hp.at_ hp.get hp.tak) (PySem.W.plainGet_of (c.get f)).2 (wpAny_call (PySem.W.prop_get (s := { s with toks := s.toks + 1 }) I.kIn hrec ?_))
  refine codeAny_mono (F.run X.A.in1 X.stack { s with toks := s.toks + 1 } H ⟨[.ref a], []⟩ [.ref a] [.ref a] Q (fun _ _ _ => False) hr.in1 I1.env0.in1 (hb _ [.ref a] I1.kIn hl) (.cons rfl .nil) h) fun r s' hq => ?_
  cases r with
  | error er => exact False.elim (let ⟨_, _, _, _, _, _, _, _, _, _, _, _, z⟩ := hq; z)
  | ok fl =>
    cases fl with
    | ret u =>
      obtain ⟨v, H', I3, rv, q3⟩ := I1.after hq
      show wpAny _ _ (handedOut u) _ _ _
      rw [PySem.W.handedOut_of (handed_of rv)]
      exact wpAny_pure ⟨v, H', I3, rv, q3⟩
    | next => exact False.elim hq
    | brk => exact False.elim hq
    | cont => exact False.elim hq
theorem xprop {f : Str} {g p : Addr} (F : Dfn X.prog X.w X.K X.mg X.base T.tabs k g ps [] sp) (hr : Rm (k + 1) X.A) (c : Cls X.K C) (hp : PropOf X.K C f p g) (he : XE X T e to)
    (hab : attributeBase e f X.env (eval e X.env) = eval e X.env := by rfl) : XE X T (.Attribute e f pos) (dProp C sp to) := by
  obtain ⟨⟨fd, ds, dvs, F, hb, hd, hdd⟩, hk⟩ := F
  have F : FnG X.prog X.w X.K X.mg X.base k _ fd ps (toSp X.K T sp) := F T.base
  have hds : dvs = [] := by
    have := (hdd fun _ => none).length
    exact List.length_eq_zero_iff.mp (by simpa using this)
  subst hds
  cases hd
  refine ⟨fun pins s σ H Q I ⟨ρ, G, M, R, sl, rp, h, k⟩ => ?_⟩
  refine attr_of hab (thn (he.run pins s σ H (fun x H1 => ∃ a C' dx fs, x = .ref a ∧ H1 a = some (.ins C' dx fs) ∧ C' = C ∧ toSp X.K T sp [x] H1 Q fun _ _ _ => False) I
    ⟨ρ, G, M, _, sl, rp, h, fun x M1 v G1 H1 ⟨fs, ei, q1⟩ s1 rp1 i1 => ?_⟩) fun u s1 ⟨x, H1, I1, rx, a, C', dx, fs, ex, ea, ec, q⟩ => ?_)
  · obtain ⟨a, dx, vs, rfl, ha, l⟩ := insOf_ok rp1 i1 ei
    exact ⟨a, C, dx, vs, rfl, ha, rfl, G1, M1, _, _, _, rp1, .cons i1 .nil, q1, k.mono s1, fun _ _ _ _ _ _ z _ _ _ => z.elim⟩
  · subst ex ec
    obtain rfl : u = Value.ref a := rx
    exact getpropG I1 ea c hp F hr hb q
end
end SD
namespace SD
open PySem PySem.Spec PyProof.Rows L2

def dNext : DS := fun E ρ M => E.nx ρ M
def dSeq (t u : DS) : DS := fun E ρ M => t { E with nx := u E } ρ M
def dDrop (te : DE) : DS := fun E ρ M => te ρ M fun _ M1 => E.nx ρ M1
def dRet (te : DE) : DS := fun E ρ M => te ρ M E.rt
def dRetN : DS := fun E ρ M => E.rt .non M
def dIfS (c : DT) (t u : DS) : DS := fun E ρ M => c ρ M fun b M1 => match b with
  | true => t E ρ M1
  | false => u E ρ M1
def dBreak : DS := fun E ρ M => E.bk ρ M
def dCont : DS := fun E ρ M => E.ct ρ M
def dNever : DS := fun _ _ _ => False
def dSet (i : Nat) (te : DE) : DS := fun E ρ M => te ρ M fun x M1 => E.nx (ρ.set i (some x)) M1
section
variable {X : Cx} {T : TB} {st : Stmt} {rest : List Stmt} {t u : DS} {e : Expr} {te : DE} {pos : Pos}
theorem snil : XSs X T [] dNext := pss_nil.imp fun D σ H ⟨ρ, G, M, E, sl, rp, h, k⟩ => k.nx _ _ _ _ _ h (Same.refl G) sl rp
theorem scons (h1 : XS X T st t) (h2 : XSs X T rest u) : XSs X T (st :: rest) (dSeq t u) := (pss_cons h1 h2).imp fun D σ H ⟨ρ, G, M, E, sl, rp, h, k⟩ =>
  ⟨ρ, G, M, _, sl, rp, h, ⟨fun ρ' M' σ' G' H' q s sl' rp' => ⟨ρ', G', M', E, sl', rp', q, k.mono s⟩, k.rt, k.bk, k.ct⟩⟩
theorem sone (h1 : XS X T st t) : XSs X T [st] t := pss_one h1
theorem spass : XS X T (.Pass pos) dNext := ps_pass.imp fun D σ H ⟨ρ, G, M, E, sl, rp, h, k⟩ => k.nx _ _ _ _ _ h (Same.refl G) sl rp
theorem sbreak : XS X T (.Break pos) dBreak := ps_break.imp fun D σ H ⟨ρ, G, M, E, sl, rp, h, k⟩ => k.bk _ _ _ _ _ h (Same.refl G) sl rp
theorem scont : XS X T (.Continue pos) dCont := ps_continue.imp fun D σ H ⟨ρ, G, M, E, sl, rp, h, k⟩ => k.ct _ _ _ _ _ h (Same.refl G) sl rp
theorem snever : XS X T st dNever := ps_never.imp fun D σ H ⟨_, _, _, _, _, _, h, _⟩ => h.elim
theorem snevers {sts : List Stmt} : XSs X T sts dNever := pss_never.imp fun D σ H ⟨_, _, _, _, _, _, h, _⟩ => h.elim
theorem sexpr (he : XE X T e te) (hs : swapsWith e none pos.line X.env = pure false := by rfl) : XS X T (.Expr e pos) (dDrop te) := (ps_expr he hs).imp fun D σ H ⟨ρ, G, M, E, sl, rp, h, k⟩ =>
  ⟨ρ, G, M, _, sl, rp, h, fun d M1 v G1 H1 q s rp1 i => k.nx _ _ _ _ _ q s (sl.mono s) rp1⟩
theorem sret (he : XE X T e te) : XS X T (.Return (some e) pos) (dRet te) := (ps_ret he).imp fun D σ H ⟨ρ, G, M, E, sl, rp, h, k⟩ => ⟨ρ, G, M, _, sl, rp, h, k.rt⟩
theorem sretN : XS X T (.Return none pos) dRetN := ps_retN.imp fun D σ H ⟨ρ, G, M, E, sl, rp, h, k⟩ => k.rt.now rp .non h
theorem sif {c : Expr} {a b : List Stmt} {tc : DT} (hc : XT X T c tc) (ha : XSs X T a t) (hb : XSs X T b u) : XS X T (.If c a b pos) (dIfS tc t u) := (ps_if hc ha hb).imp fun D σ H ⟨ρ, G, M, E, sl, rp, h, k⟩ =>
  ⟨ρ, G, M, _, sl, rp, h, fun b M1 G1 H1 q s rp1 => by
    cases b with
    | true => rw [if_pos rfl]; exact ⟨ρ, G1, M1, E, sl.mono s, rp1, q, k.mono s⟩
    | false => rw [if_neg Bool.false_ne_true]; exact ⟨ρ, G1, M1, E, sl.mono s, rp1, q, k.mono s⟩⟩
theorem sset {i : Nat} {x : Str} {pos' : Pos} (hN : X.N.Nodup) (he : XE X T e te) (hi : X.N[i]? = some x := by rfl) (hx : Loc X.env.scope x := by first | exact Or.inl rfl | exact Or.inr rfl) (hs : swapsWith e (some (.Name x pos')) pos.line X.env = pure false := by rfl)
    (hf : X.fn x = true ∨ X.env.scope.names.lookup x = some .local := by first | exact .inl rfl | exact .inr rfl | assumption) : XS X T (.Assign [.Name x pos'] e pos) (dSet i te) :=
  (ps_set hN hi hx he hs hf).imp fun D σ H ⟨ρ, G, M, E, sl, rp, h, k⟩ => ⟨ρ, G, M, _, sl, rp, h, fun d M1 v G1 H1 q s rp1 i1 => k.nx _ _ _ _ _ q s ((sl.mono s).set i i1) rp1⟩

def dSto (K : PySem.W.Frag) (f : Str) (to te : DE) : DS := fun E ρ M => te ρ M fun y M1 => to ρ M1 fun x M2 => ∃ a C fs, x = .ref a ∧ M2 a = some (.ins C fs) ∧ FldOk K C f ∧ fs.length < 1000 ∧ E.nx ρ (updM M2 a (.ins C (putD f y fs)))
theorem rp_putI {K : PySem.W.Frag} {G H : Hp} {M : Mp} {a C dx : Addr} {fs : List (Str × D)} {vs vs0 : List (Str × V)} {fs0 : List (Str × D)} (rp : Rp K T G M H) (e : M a = some (.ins C fs0)) (eh : H a = some (.ins C dx vs0)) (l : IsF K G vs fs) :
    Rp K T G (updM M a (.ins C fs)) (upd H a (.ins C dx vs)) := by
  refine rp.put e (fun w hw => ?_) (.ins l)
  rw [eh] at hw
  cases hw
  refine ⟨fun ps z => ?_, fun c n z => ?_⟩
  · cases z
  · unfold LamX.CodeO at z
    cases z
theorem ssto {o : Expr} {to : DE} {f : Str} {pos' : Pos} (ho : XE X T o to) (he : XE X T e te) (hs : swapsWith e (some (.Attribute o f pos')) pos.line X.env = pure false := by rfl) : XS X T (.Assign [.Attribute o f pos'] e pos) (dSto X.K f to te) :=
  (ps_fld ho he hs).imp fun D σ H ⟨ρ, G, M, E, sl, rp, h, k⟩ => ⟨ρ, G, M, _, sl, rp, h, fun y M1 v G1 H1 q s rp1 i1 => ⟨ρ, G1, M1, _, sl.mono s, rp1, q, fun x M2 u G2 H2 ⟨a, C, fs, ex, ea, ok, hl, q2⟩ s2 rp2 i2 => by
    subst ex
    obtain ⟨a', dx, vs, e1, e2, l⟩ := insOf_ok rp2 i2 (show insOf M2 (.ref a) = some (C, fs) by simp [insOf, ea])
    cases i2
    cases e1
    exact ⟨a, C, dx, vs, rfl, e2, ok.cl, ok.no, by rw [l.length]; exact hl, k.nx _ _ _ _ _ q2 (s.trans s2) (sl.mono (s.trans s2)) (rp_putI rp2 ea e2 (l.put (i1.mono s2)))⟩⟩⟩
/-- o.f op= e -/
def InC (K : PySem.W.Frag) (T : TB) (r : V → V → Hp → VK → Prop) (rd : D2) : Prop := OpC K T r rd
def dStoAug (K : PySem.W.Frag) (f : Str) (to te : DE) (rd : D2) : DS := fun E ρ M => to ρ M fun x M1 => ∃ a C fs d, x = .ref a ∧ M1 a = some (.ins C fs) ∧ FldOk K C f ∧ fs.lookup f = some d ∧
  te ρ M1 fun y M2 => rd d y M2 fun z M3 => ∃ fs', M3 a = some (.ins C fs') ∧ fs'.length < 1000 ∧ E.nx ρ (updM M3 a (.ins C (putD f z fs')))
theorem sstoAug {o : Expr} {to : DE} {f : Str} {pos' : Pos} {op : Operator} {r : R2} {rd : D2} (hop : InOp X op r) (c : OpC X.K T r rd) (ho : XE X T o to) (he : XE X T e te) : XS X T (.AugAssign (.Attribute o f pos') op e pos) (dStoAug X.K f to te rd) :=
  (ps_fldaug ho he hop).imp fun D σ H ⟨ρ, G, M, E, sl, rp, h, k⟩ => ⟨ρ, G, M, _, sl, rp, h, fun x M1 v G1 H1 ⟨a, C, fs, d, ex, ea, ok, el, q⟩ s rp1 i1 => by
    subst ex
    obtain ⟨a', dx, vs, e1, e2, l⟩ := insOf_ok rp1 i1 (show insOf M1 (.ref a) = some (C, fs) by simp [insOf, ea])
    cases i1
    cases e1
    obtain ⟨w, ew, iw⟩ := l.lookup el
    refine ⟨a, C, dx, vs, w, rfl, e2, ok.cl, ok.no, ew, ρ, G1, M1, _, sl.mono s, rp1, q, fun y M2 u G2 H2 q2 s2 rp2 i2 => c G2 M2 H2 w u d y _ _ rp2 (iw.mono s2) i2 q2 fun z M3 zv G3 H3 ⟨fs', ea', hl, q3⟩ s3 rp3 i3 => ?_⟩
    obtain ⟨a', dx', vs', e1, e2', l'⟩ := insOf_ok rp3 (.ref a) (show insOf M3 (.ref a) = some (C, fs') by simp [insOf, ea'])
    cases e1
    exact ⟨dx', vs', e2', by rw [l'.length]; exact hl, k.nx _ _ _ _ _ q3 (s.trans (s2.trans s3)) (sl.mono (s.trans (s2.trans s3))) (rp_putI rp3 ea' e2' (l'.put i3))⟩⟩

def dAug (i : Nat) (te : DE) (rd : D2) : DS := fun E ρ M => ∃ x, ρ[i]? = some (some x) ∧ te ρ M fun y M1 => rd x y M1 fun z M2 => E.nx (ρ.set i (some z)) M2
theorem saug {i : Nat} {x : Str} {pos' : Pos} {op : Operator} {r : TIp} {rd : D2} (hop : PIp X op r) (c : OpC X.K T r rd) (hN : X.N.Nodup) (he : XE X T e te) (hi : X.N[i]? = some x := by rfl) (hx : Loc X.env.scope x := by first | exact Or.inl rfl | exact Or.inr rfl)
    (hf : X.fn x = true ∨ X.env.scope.names.lookup x = some .local := by first | exact .inl rfl | exact .inr rfl | assumption) : XS X T (.AugAssign (.Name x pos') op e pos) (dAug i te rd) :=
  (ps_aug hN hi hx he hop hf).imp fun D σ H ⟨ρ, G, M, E, sl, rp, ⟨d, ed, h⟩, k⟩ => by
    obtain ⟨v, ev, iv⟩ := sl.get _ _ ed
    exact ⟨v, ev, ρ, G, M, _, sl, rp, h, fun y M1 u G1 H1 q s rp1 i1 => c G1 M1 H1 v u d y _ _ rp1 (iv.mono s) i1 q fun z M2 w G2 H2 q2 s2 rp2 i2 => k.nx _ _ _ _ _ q2 (s.trans s2) ((sl.mono (s.trans s2)).set i i2) rp2⟩
theorem oc_ipadd : OpC X.K T (ipI fun i j => i + j) (dI0 fun i j => .int (i + j)) := by
  intro G M H v u x y R Q rp i j h k
  unfold dI0 at h
  split at h
  · cases i; cases j
    exact ⟨_, _, rfl, rfl, k.now rp (.int _) h⟩
  · exact h.elim
theorem oc_inadd : OpC X.K T L2.rAdd (dI0 fun i j => .int (i + j)) := oc_ipadd
theorem oc_ipsub : OpC X.K T (ipI fun i j => i - j) (dI0 fun i j => .int (i - j)) := by
  intro G M H v u x y R Q rp i j h k
  unfold dI0 at h
  split at h
  · cases i; cases j
    exact ⟨_, _, rfl, rfl, k.now rp (.int _) h⟩
  · exact h.elim

def dSetL : D → D → D → Mp → (Mp → Prop) → Prop := fun o i v M Q => ∃ a ds k j, o = .ref a ∧ M a = some (.lst ds) ∧ i = .int k ∧ L2.ixN ds.length k = some j ∧ Q (updM M a (.lst (ds.set j v)))
end
end SD
namespace SD
open PySem PySem.Spec PyProof.Rows L2

section
variable {X : Cx} {T : TB} {st : Stmt} {rest : List Stmt} {t u : DS} {e o i : Expr} {te to ti : DE} {pos : Pos}
theorem pget_list : PGet X (rIxL X.K) := by
  intro pins s σ H x y v u Q I rx ry h
  obtain ⟨p, xs, i, z, rfl, rfl, hq, he, q⟩ := h
  cases rx
  obtain ⟨t, rfl⟩ := ry
  obtain ⟨its, r, pl, hz⟩ := I.list hq
  obtain ⟨j, h1, h2, h3, h4, h5⟩ := atI_get he
  obtain ⟨w, ew, rw'⟩ := r.get h2
  have hl := r.length
  have hn := line63
  have fin : EP X pins σ Q w s := ⟨z, H, I, rw', q⟩
  by_cases h0 : 0 ≤ i
  · have hj : i.toNat = j := by
      rw [seqIndex_of h0 h5] at h1
      exact Option.some.inj h1
    exact wpAny_getItem_list pl.isList h0 (by omega) (by rw [hj]; simpa using ew) fin
  · have hj : (i + (its.toArray.size : Int)).toNat = j := by
      rw [seqIndex_neg (by omega) h4] at h1
      rw [List.size_toArray, ← hl]
      exact Option.some.inj h1
    exact wpAny_getItem_list_neg pl.isList (by omega) (by rw [List.size_toArray] <;> omega) (by omega) (by rw [hj]; simpa using ew) fin
def dGetL : D2 := fun o i M Q => ∃ ds k d, lstOf M o = some ds ∧ i = .int k ∧ L2.atI ds k = some d ∧ Q d M
theorem oc_getL : OpC X.K T (rIxL X.K) dGetL := by
  intro G M H v u x y R Q rp i j h k
  obtain ⟨ds, kk, d, ed, rfl, ea, h⟩ := h
  obtain ⟨a, xs, rfl, e1, l⟩ := lstOf_ok rp i ed
  cases j
  obtain ⟨z, ez, iz⟩ := l.atI ea
  exact ⟨a, xs, kk, z, rfl, rfl, .inl (.inl e1), ez, k.now rp iz h⟩
/-- o[i] op= e, a list of ints and the like -/
def dAugI (to ti te : DE) (rd : D2) : DS := fun E ρ M => to ρ M fun o M1 => ti ρ M1 fun i M2 => dGetL o i M2 fun x M3 => te ρ M3 fun y M4 => rd x y M4 fun z M5 => dSetL o i z M5 fun M6 => E.nx ρ M6
theorem setL_ok {G H : Hp} {M : Mp} {o i v : V} {x y z : D} {R : Mp → Prop} {Q : Hp → Prop} (rp : Rp X.K T G M H) (io : Is X.K G o x) (ii : Is X.K G i y) (iv : Is X.K G v z) (h : dSetL x y z M R) (k : ∀ M' H', R M' → Rp X.K T G M' H' → Q H') : rSetL o i v H Q := by
  obtain ⟨a, ds, kk, j, rfl, ea, rfl, ej, q⟩ := h
  obtain ⟨a', xs, e1, e2, l⟩ := lstOf_ok rp io (show lstOf M (.ref a) = some ds by simp [lstOf, ea])
  cases io
  cases e1
  cases ii
  exact ⟨a, xs, kk, j, rfl, rfl, e2, by rw [l.length]; exact ej, k _ _ q (putL_ok rp ea (l.set j iv))⟩
theorem saugI {op : Operator} {r : TIp} {rd : D2} {tpos : Pos} (hop : PIp X op r) (c : OpC X.K T r rd) (ho : XE X T o to) (hi : XE X T i ti) (he : XE X T e te)
    (ha : ∀ ov iv new, augStore i ov iv new = (do holding [new, ov, iv] (setItem ov iv new); release [new, ov, iv] []; pure .next) := by intros; rfl) : XS X T (.AugAssign (.Subscript o i tpos) op e pos) (dAugI to ti te rd) :=
  (ps_augS ho hi pget_list he hop set_list ha).imp fun D σ H ⟨ρ, G, M, E, sl, rp, h, k⟩ => ⟨ρ, G, M, _, sl, rp, h, fun x M1 xv G1 H1 q1 s1 rp1 i1 => ⟨ρ, G1, M1, _, sl.mono s1, rp1, q1, fun y M2 yv G2 H2 q2 s2 rp2 i2 => by
    refine oc_getL G2 M2 H2 _ _ _ _ _ _ rp2 (i1.mono s2) i2 q2 fun z M3 zv G3 H3 q3 s3 rp3 i3 => ⟨ρ, G3, M3, _, sl.mono (s1.trans (s2.trans s3)), rp3, q3, fun w M4 wv G4 H4 q4 s4 rp4 i4 => ?_⟩
    refine c G4 M4 H4 _ _ _ _ _ _ rp4 (i3.mono s4) i4 q4 fun n M5 nv G5 H5 q5 s5 rp5 i5 => ?_
    refine setL_ok rp5 (i1.mono (s2.trans (s3.trans (s4.trans s5)))) (i2.mono (s3.trans (s4.trans s5))) i5 q5 fun M6 H6 q6 rp6 => ?_
    have ss := s1.trans (s2.trans (s3.trans (s4.trans s5)))
    exact k.nx _ _ _ _ _ q6 ss (sl.mono ss) rp6⟩⟩
def dStoI (to ti te : DE) : DS := fun E ρ M => te ρ M fun v M1 => to ρ M1 fun o M2 => ti ρ M2 fun i M3 => dSetL o i v M3 fun M4 => E.nx ρ M4
theorem sstoI {tpos : Pos} (ho : XE X T o to) (hi : XE X T i ti) (he : XE X T e te)
    (ha : ∀ v, assign (.Subscript o i tpos) X.env v = (do
      let ov ← holding [v] (eval o X.env)
      let iv ← holding [v, ov] (eval i X.env)
      standAt tpos
      holding [v, ov, iv] (setItem ov iv v)
      release [v, ov, iv] []) := by intro _; rfl)
    (hs : swapsWithSole [.Subscript o i tpos] e pos.line X.env = pure false := by rfl) (hw : swappedStores [.Subscript o i tpos] e X.env = pure none := by rfl)
    (h1 : (assignEach [.Subscript o i tpos] X.env).map (·.2) = [assign (.Subscript o i tpos) X.env] := by rfl) : XS X T (.Assign [.Subscript o i tpos] e pos) (dStoI to ti te) :=
  (ps_asg he (pg_sub ho hi set_list ha) hs hw h1).imp fun D σ H ⟨ρ, G, M, E, sl, rp, h, k⟩ => ⟨ρ, G, M, _, sl, rp, h, fun v M1 vv G1 H1 q1 s1 rp1 i1 => ⟨ρ, G1, M1, _, sl.mono s1, rp1, q1, fun x M2 xv G2 H2 q2 s2 rp2 i2 =>
    ⟨ρ, G2, M2, _, sl.mono (s1.trans s2), rp2, q2, fun y M3 yv G3 H3 q3 s3 rp3 i3 => setL_ok rp3 (i2.mono s3) i3 (i1.mono (s2.trans s3)) q3 fun M4 H4 q4 rp4 => by
      have ss := s1.trans (s2.trans s3)
      exact k.nx _ _ _ _ _ q4 ss (sl.mono ss) rp4⟩⟩⟩

def dPar (is : List Nat) (ta : DA) : DS := fun E ρ M => ta ρ M fun ds M1 => ds.length = is.length ∧ E.nx ((is.zip ds).foldl (fun ρ p => ρ.set p.1 (some p.2)) ρ) M1
theorem spar {i j : Nat} {x y : Str} {a b : Expr} {ta : DA} {px py pt : Pos} {kt k2 pt2} (hc : X.calm = true) (hN : X.N.Nodup) (ha : XA X T [a, b] ta) (hi : X.N[i]? = some x := by rfl) (hj : X.N[j]? = some y := by rfl) (hij : i ≠ j := by decide)
    (hx : X.env.scope.names.lookup x = some .local := by rfl) (hy : X.env.scope.names.lookup y = some .local := by rfl)
    (hw : swappedStores [.Tuple [.Name x px, .Name y py] kt pt] (.Tuple [a, b] k2 pt2) X.env = pure (some [x, y]) := by rfl)
    (hs : swapsWithSole [.Tuple [.Name x px, .Name y py] kt pt] (.Tuple [a, b] k2 pt2) pos.line X.env = pure false := by rfl) :
    XS X T (.Assign [.Tuple [.Name x px, .Name y py] kt pt] (.Tuple [a, b] k2 pt2) pos) (dPar [i, j] ta) :=
  (ps_par hc hN hi hj hij hx hy ha hw hs).imp fun D σ H ⟨ρ, G, M, E, sl, rp, h, k⟩ => ⟨ρ, G, M, _, sl, rp, h, fun ds M1 vs G1 H1 ⟨hl, q⟩ s rp1 i1 => by
    match ds, hl, i1, q with
    | [d1, d2], _, .cons j1 (.cons j2 .nil), q => exact ⟨_, _, rfl, k.nx _ _ _ _ _ q s (((sl.mono s).set i j1).set j j2) rp1⟩⟩
theorem spar3 {i j l : Nat} {x y z : Str} {a b c : Expr} {ta : DA} {px py pz pt : Pos} {kt k2 pt2} (hc : X.calm = true) (hN : X.N.Nodup) (ha : XA X T [a, b, c] ta) (hi : X.N[i]? = some x := by rfl) (hj : X.N[j]? = some y := by rfl) (hl : X.N[l]? = some z := by rfl) (hij : i ≠ j := by decide) (hil : i ≠ l := by decide) (hjl : j ≠ l := by decide)
    (hx : X.env.scope.names.lookup x = some .local := by rfl) (hy : X.env.scope.names.lookup y = some .local := by rfl) (hz : X.env.scope.names.lookup z = some .local := by rfl)
    (hw : swappedStores [.Tuple [.Name x px, .Name y py, .Name z pz] kt pt] (.Tuple [a, b, c] k2 pt2) X.env = pure (some [x, y, z]) := by rfl)
    (hs : swapsWithSole [.Tuple [.Name x px, .Name y py, .Name z pz] kt pt] (.Tuple [a, b, c] k2 pt2) pos.line X.env = pure false := by rfl) :
    XS X T (.Assign [.Tuple [.Name x px, .Name y py, .Name z pz] kt pt] (.Tuple [a, b, c] k2 pt2) pos) (dPar [i, j, l] ta) :=
  (ps_par3 hc hN hi hj hl hij hil hjl hx hy hz ha hw hs).imp fun D σ H ⟨ρ, G, M, E, sl, rp, h, k⟩ => ⟨ρ, G, M, _, sl, rp, h, fun ds M1 vs G1 H1 ⟨hl, q⟩ s rp1 i1 => by
    match ds, hl, i1, q with
    | [d1, d2, d3], _, .cons j1 (.cons j2 (.cons j3 .nil)), q => exact ⟨_, _, _, rfl, k.nx _ _ _ _ _ q s ((((sl.mono s).set i j1).set j j2).set l j3) rp1⟩⟩
end

theorem wipe_in {σ : St} {i : Nat} {x : Option V} : ∀ {vs : List Nat}, i ∈ vs → wipe (σ.set i x) vs = wipe σ vs
  | [], h => by simp at h
  | v :: vs, h => by
    unfold wipe
    by_cases hi : i ∈ vs
    · rw [wipe_in hi]
    · have e : i = v := by simpa [hi] using h
      subst e
      have aux : ∀ {ws : List Nat}, i ∉ ws → wipe (σ.set i x) ws = (wipe σ ws).set i x := by
        intro ws
        induction ws with
        | nil => intro _; rfl
        | cons w ws ih =>
          intro hn
          unfold wipe
          rw [ih (fun z => hn (List.mem_cons_of_mem _ z)), List.set_comm _ _ (fun z : i = w => hn (by rw [z]; exact List.mem_cons_self))]
      rw [aux hi, List.set_set]
/-- a reading of a target: which slots it sets -/
abbrev DG := D → DEnv → (DEnv → Prop) → Prop
abbrev DGs := List D → DEnv → (DEnv → Prop) → Prop
structure GC (K : PySem.W.Frag) (T : TB) (vs : List Nat) (g : DG) (tg : TG) : Prop where
  run : ∀ G M H ρ σ v d (R : DEnv → Prop) (Q : St → Hp → Prop), Sl K G ρ σ → Rp K T G M H → Is K G v d → g d ρ R → (∀ ρ' σ', R ρ' → Sl K G ρ' σ' → wipe σ' vs = wipe σ vs → Q σ' H) → tg v σ H Q
structure GCs (K : PySem.W.Frag) (T : TB) (vs : List Nat) (g : DGs) (tg : TGs) : Prop where
  run : ∀ G M H ρ σ us ds (R : DEnv → Prop) (Q : St → Hp → Prop), Sl K G ρ σ → Rp K T G M H → IsL K G us ds → g ds ρ R → (∀ ρ' σ', R ρ' → Sl K G ρ' σ' → wipe σ' vs = wipe σ vs → Q σ' H) → tg us σ H Q
def gN (i : Nat) : DG := fun d ρ R => R (ρ.set i (some d))
def gT (gs : DGs) : DG := fun d ρ R => match d with
  | .tup ds => gs ds ρ R
  | _ => False
def gsN : DGs := fun ds ρ R => match ds with
  | [] => R ρ
  | _ => False
def gsC (g : DG) (gs : DGs) : DGs := fun ds ρ R => match ds with
  | d :: r => g d ρ fun ρ' => gs r ρ' R
  | _ => False
/-- a target X's -/
structure XG (X : Cx) (T : TB) (vs : List Nat) (tg : Expr) (g : DG) (tgr : TG) : Prop where
  pg : PG X tg tgr
  gc : GC X.K T vs g tgr
structure XGs (X : Cx) (T : TB) (vs : List Nat) (tg : List Expr) (g : DGs) (tgr : TGs) : Prop where
  pg : PGs X tg tgr
  gc : GCs X.K T vs g tgr
section
variable {X : Cx} {T : TB} {vs : List Nat} {pos : Pos}
theorem tn {i : Nat} {x : Str} (hN : X.N.Nodup) (hm : i ∈ vs := by decide) (hi : X.N[i]? = some x := by rfl) (hx : Loc X.env.scope x := by first | exact Or.inl rfl | exact Or.inr rfl) (hf : X.fn x = true ∨ X.env.scope.names.lookup x = some .local := by first | exact .inl rfl | exact .inr rfl | assumption) :
    XG X T vs (.Name x pos) (gN i) (gName i) :=
  ⟨pg_name hN hi hx hf, ⟨fun G M H ρ σ v d R Q sl rp iv h k => k _ _ h (sl.set i iv) (wipe_in hm)⟩⟩
theorem tsn : XGs X T vs [] gsN gNil := ⟨pgs_nil, ⟨fun G M H ρ σ us ds R Q sl rp i h k => by
  cases i with
  | nil => exact ⟨rfl, k _ _ h sl rfl⟩
  | cons _ _ => exact h.elim⟩⟩
theorem tsc {e : Expr} {es : List Expr} {g : DG} {gs : DGs} {a : TG} {b : TGs} (h1 : XG X T vs e g a) (h2 : XGs X T vs es gs b)
    (hs : (assignEach (e :: es) X.env).map (·.2) = assign e X.env :: (assignEach es X.env).map (·.2) := by rfl) : XGs X T vs (e :: es) (gsC g gs) (gCons a b) :=
  ⟨pgs_cons h1.pg h2.pg hs, ⟨fun G M H ρ σ us ds R Q sl rp i h k => by
    cases i with
    | nil => exact h.elim
    | cons i1 i2 => exact ⟨_, _, rfl, h1.gc.run G M H ρ σ _ _ _ _ sl rp i1 h fun ρ' σ' r sl' w => h2.gc.run G M H ρ' σ' _ _ _ _ sl' rp i2 r fun ρ2 σ2 r2 sl2 w2 => k ρ2 σ2 r2 sl2 (w2.trans w)⟩⟩⟩
/-- (a, b) = a tuple -/
theorem tt {es : List Expr} {kk n : Nat} {gs : DGs} {b : TGs} (hc : X.calm = true) (h : XGs X T vs es gs b) (hlen : ∀ ds ρ R, gs ds ρ R → ds.length = n)
    (hn : (assignEach es X.env).length = n := by rfl) (hst : (assignEach es X.env).findIdx? (·.1) = none := by rfl) : XG X T vs (.Tuple es kk pos) (gT gs) (gTup X.K n b) :=
  ⟨pg_tup hc h.pg hn hst, ⟨fun G M H ρ σ v d R Q sl rp i q k => by
    unfold gT at q
    split at q
    · obtain ⟨a, xs, e, h1, g1, l⟩ := isT_inv rp i
      exact ⟨a, xs, e, h1, by rw [l.length]; exact hlen _ _ _ q, h.gc.run G M H ρ σ xs _ _ _ sl rp l q k⟩
    · exact q.elim⟩⟩
theorem lenN : ∀ ds ρ R, gsN ds ρ R → ds.length = 0 := fun ds ρ R h => by
  cases ds with
  | nil => rfl
  | cons _ _ => exact h.elim
theorem lenC {g : DG} {gs : DGs} {n : Nat} (hm : ∀ d ρ (R R' : DEnv → Prop), (∀ ρ, R ρ → R' ρ) → g d ρ R → g d ρ R') (hex : ∀ d ρ, ¬ g d ρ fun _ => False) (h : ∀ ds ρ R, gs ds ρ R → ds.length = n) : ∀ ds ρ R, gsC g gs ds ρ R → ds.length = n + 1 := fun ds ρ R q => by
  cases ds with
  | nil => exact q.elim
  | cons d r =>
    have q : g d ρ fun ρ' => gs r ρ' R := q
    rw [List.length_cons]
    by_cases e : r.length = n
    · rw [e]
    · exact absurd (hm d ρ _ (fun _ => False) (fun ρ' z => e (h _ _ _ z)) q) (hex d ρ)
theorem lenCN {i : Nat} {gs : DGs} {n : Nat} (h : ∀ ds ρ R, gs ds ρ R → ds.length = n) : ∀ ds ρ R, gsC (gN i) gs ds ρ R → ds.length = n + 1 := lenC (fun d ρ R R' f q => f _ q) (fun d ρ q => q) h
/-- target = e -/
def dAsg (te : DE) (g : DG) : DS := fun E ρ M => te ρ M fun x M1 => g x ρ fun ρ' => E.nx ρ' M1
theorem sasg {tg e : Expr} {te : DE} {g : DG} {tgr : TG} (he : XE X T e te) (hg : XG X T vs tg g tgr) (hs : swapsWithSole [tg] e pos.line X.env = pure false := by rfl) (hw : swappedStores [tg] e X.env = pure none := by rfl)
    (h1 : (assignEach [tg] X.env).map (·.2) = [assign tg X.env] := by rfl) : XS X T (.Assign [tg] e pos) (dAsg te g) :=
  (ps_asg he hg.pg hs hw h1).imp fun D σ H ⟨ρ, G, M, E, sl, rp, h, k⟩ => ⟨ρ, G, M, _, sl, rp, h, fun x M1 v G1 H1 q s rp1 i1 => hg.gc.run G1 M1 H1 ρ σ v x _ _ (sl.mono s) rp1 i1 q fun ρ' σ' r sl' w => k.nx _ _ _ _ _ r s sl' rp1⟩
end
end SD
namespace SD
open PySem PySem.Spec PyProof.Rows L2

/-- some objects are no more spoken of -/
def Dn (R : DK) : DK := fun d M => ∃ M', LeM M' M ∧ R d M'
theorem Dn.of {R : DK} {d : D} {M : Mp} (h : R d M) : Dn R d M := ⟨M, LeM.refl M, h⟩
def DnX (RX : DX) : DW := fun cls fs _ M => ∃ M', LeM M' M ∧ RX cls fs M'
def ends0 (R : DK) : DEnds := { nx := fun _ M => Dn R .non M, rt := Dn R }
def rho0 (N : List Str) (ds : List D) : DEnv := ds.map some ++ List.replicate (N.length - ds.length) none
theorem Rp.rebase {K : PySem.W.Frag} {T : TB} {B G H : Hp} {M : Mp} (r : Rp K T G M H) (s : Same B G) : Rp K ⟨T.tabs, B⟩ G M H := ⟨r.sub, r.mt, r.tab, s, r.nt⟩
section
variable {P : Program} {w : World} {K : PySem.W.Frag} {mg : Str → Option Value} {base : Heap} {T : List NdefX.NTab}
/-- the context of a def's body -/
abbrev cz (P : Program) (w : World) (K : PySem.W.Frag) (mg : Str → Option Value) (base : Heap) (N : List Str) (qual : Str) (scope : Scope) (f : Addr) (cd : Value) (A : Around) (outer : List Env) (s : Shared) (H : Hp) (E : XK) : Cx :=
  cxOf (CX P w) P w K mg base N qual scope f cd A outer s H E
/-- what a def's derivation is, its code object being cd -/
def Drv1 (P : Program) (w : World) (K : PySem.W.Frag) (mg : Str → Option Value) (base : Heap) (T : List NdefX.NTab) (k : Nat) (f : Addr) (N : List Str) (qual : Str) (scope : Scope) (body : List Stmt) (cd : Value) (rd : DW → DS) : Prop :=
  ∀ (B : Hp) (A : Around) (outer : List Env) (s : Shared) (H : Hp) (E : XK) (W : DW), Rm k (cz P w K mg base N qual scope f cd A outer s H E).A → Takes (cz P w K mg base N qual scope f cd A outer s H E) (lW K ⟨T, B⟩ W) →
    XSs (cz P w K mg base N qual scope f cd A outer s H E) ⟨T, B⟩ body (rd W)
/-- what a def's derivation is -/
def Drv (P : Program) (w : World) (K : PySem.W.Frag) (mg : Str → Option Value) (base : Heap) (T : List NdefX.NTab) (k : Nat) (f : Addr) (N : List Str) (qual : Str) (scope : Scope) (body : List Stmt) (rd : DW → DS) : Prop :=
  ∀ (B : Hp) (cd : Value) (A : Around) (outer : List Env) (s : Shared) (H : Hp) (E : XK) (W : DW), Rm k (cz P w K mg base N qual scope f cd A outer s H E).A → Takes (cz P w K mg base N qual scope f cd A outer s H E) (lW K ⟨T, B⟩ W) →
    XSs (cz P w K mg base N qual scope f cd A outer s H E) ⟨T, B⟩ body (rd W)
theorem fn_by {k : Nat} {f : Addr} {name qual : Str} {params : Arguments} {body : List Stmt} {scope : Scope} {dV kV doc pm cdv ct oc : Value} {an od : Option Addr} {osl : Array (Option Value)} {N ps : List Str} {sp : DSp} {rd : DW → DS}
    (lk : K.lookup f = some ⟨oc, od, .func (PySem.W.fnOf name qual params body scope dV kV doc pm an cdv ct), osl⟩) (hcd : PySem.W.codeIn K cdv qual = true) (S : FnScope N ps scope) (len : ∀ ds M R RX, sp ds M R RX → ds.length = ps.length)
    (hd : Drv1 P w K mg base T k f N qual scope body cdv rd) (hb : ∀ ds M R RX, sp ds M R RX → rd (DnX RX) (ends0 R) (rho0 N ds) M) (B : Hp) :
    FnG P w K mg base (k + 1) f (PySem.W.fnOf name qual params body scope dV kV doc pm an cdv ct) ps (toSp K ⟨T, B⟩ sp) := by
  refine fnG_of lk hcd S (fun vs H Q E ⟨G, M, ds, R, RX, rp, i, q, _⟩ => i.length.trans (len _ _ _ _ q)) fun A outer s H vs Q E hr ⟨G, M, ds, R, RX, rp, i, q, kk, x⟩ => ?_
  have tk : Takes (cz P w K mg base N qual scope f cdv A outer s H E) (lW K ⟨T, G⟩ (DnX RX)) :=
    (takes_of (X := cz P w K mg base N qual scope f cdv A outer s H E) rfl rfl rfl rfl).imp fun cls od σ H' ⟨ρ, G', M', fs, sl, rp', xd, M2, le, rx⟩ =>
      x cls od fs M2 G' H' rx rp'.bs ((rp'.le le).rebase (T := ⟨T, G⟩) (rp.bs.trans rp'.bs)) xd
  refine ⟨_, hd G A outer s H E (DnX RX) hr tk, rho0 N ds, G, M, ends0 R, Sl.start i, rp.rebase (Same.refl G), hb _ _ _ _ q, ?_⟩
  have kk' : lK K ⟨T, G⟩ G (Dn R) Q := fun d M' v G' H' ⟨M2, le, r⟩ s' rp' i' => kk d M2 v G' H' r s' ((rp'.le le).rebase (T := ⟨T, G⟩) (rp.bs.trans rp'.bs)) i'
  exact ⟨fun ρ' M' σ' G' H' r s' sl' rp' => kk' .non M' .non G' H' r s' rp' .non, kk', fun _ _ _ _ _ z _ _ _ => z.elim, fun _ _ _ _ _ z _ _ _ => z.elim⟩
theorem Drv.one {k : Nat} {f : Addr} {N : List Str} {qual : Str} {scope : Scope} {body : List Stmt} {rd : DW → DS} (h : Drv P w K mg base T k f N qual scope body rd) (cd : Value) : Drv1 P w K mg base T k f N qual scope body cd rd := fun B => h B cd
theorem dfn_by {k : Nat} {f : Addr} {x qual : Str} {st : Stmt} {fd : FuncData} {N ps : List Str} {sp : DSp} {rd : DW → DS} (F : Fun K x qual st f fd) (bn : Binds K fd ps []) (S : FnScope N ps (defScope st)) (len : ∀ ds M R RX, sp ds M R RX → ds.length = ps.length)
    (hd : Drv P w K mg base T k f N qual (defScope st) (defBody st) rd) (hb : ∀ ds M R RX, sp ds M R RX → rd (DnX RX) (ends0 R) (rho0 N ds) M) : Dfn P w K mg base T (k + 1) f ps [] sp := by
  obtain ⟨oc, od, kV, doc, pm, an, cdv, ct, osl, rfl, lk, hcd⟩ := F.ex
  exact ⟨⟨_, [], [], fn_by lk hcd S len (fun B => hd B cdv) hb, bn, .nil, fun _ => .nil⟩, F.kp⟩
end

abbrev DI := DEnv → Mp → (List D → (Mp → Prop) → Mp → Prop) → Prop
/-- J yields the items ds, as long as chk holds -/
structure ItFor (K : PySem.W.Frag) (T : TB) (G : Hp) (ds : List D) (chk : Mp → Prop) (J : It) : Prop where
  stop : ∀ i G' M H, Same G G' → Rp K T G' M H → chk M → ds.length ≤ i → J.stop i H
  go : ∀ i G' M H, Same G G' → Rp K T G' M H → chk M → i < ds.length → J.go i H
  yld : ∀ i G' M H v H' d, Same G G' → Rp K T G' M H → chk M → ds[i]? = some d → J.yld i H v H' → ∃ G2, Same G' G2 ∧ Rp K T G2 M H' ∧ Is K G2 v d
def lI (K : PySem.W.Frag) (T : TB) (t : DI) : TI := fun σ H R => ∃ ρ G M, ∃ Rd : List D → (Mp → Prop) → Mp → Prop, Sl K G ρ σ ∧ Rp K T G M H ∧ t ρ M Rd ∧
  ∀ ds chk M' G' H' J, Rd ds chk M' → Same G G' → Rp K T G' M' H' → chk M' → ItFor K T G' ds chk J → R J H'
section
variable {K : PySem.W.Frag} {T : TB} {G H : Hp} {M : Mp}
theorem itfor_lst {a : Addr} {xs : List V} {ds : List D} (g : G a = some (.lst xs)) (l : IsL K G xs ds) : ItFor K T G ds (fun _ => True) (Itl K a) := by
  have sq : ∀ {G' M H}, Same G G' → Rp K T G' M H → SqL K H a xs := fun s rp => .inl (.inl (rp.sub _ _ (s _ _ g)))
  refine ⟨fun i G' M H s rp _ hl => ⟨xs, sq s rp, by rw [l.length]; exact hl⟩, fun i G' M H s rp _ hl => ?_, fun i G' M H v H' d s rp _ hd ⟨e, hy⟩ => ?_⟩
  · have hx : i < xs.length := by rw [l.length]; exact hl
    exact ⟨xs, xs[i], sq s rp, List.getElem?_eq_getElem hx⟩
  · subst e
    obtain ⟨y, ey, iy⟩ := l.get hd
    have := hy xs (sq s rp)
    rw [ey] at this
    cases this
    exact ⟨G', Same.refl _, rp, iy.mono s⟩
theorem itfor_ref {a : Addr} {ds : List D} : ItFor K T G ds (fun M => M a = some (.lst ds)) (Itl K a) := by
  have sq : ∀ {G' M H}, Rp K T G' M H → M a = some (.lst ds) → ∃ xs, SqL K H a xs ∧ IsL K G' xs ds := fun {G' M H} rp e => by
    obtain ⟨a', xs, e1, e2, l⟩ := lstOf_ok rp (.ref a) (show lstOf M (.ref a) = some ds by simp [lstOf, e])
    cases e1
    exact ⟨xs, .inl (.inl e2), l⟩
  refine ⟨fun i G' M H s rp c hl => ?_, fun i G' M H s rp c hl => ?_, fun i G' M H v H' d s rp c hd ⟨e, hy⟩ => ?_⟩
  · obtain ⟨xs, h1, l⟩ := sq rp c
    exact ⟨xs, h1, by rw [l.length]; exact hl⟩
  · obtain ⟨xs, h1, l⟩ := sq rp c
    have hx : i < xs.length := by rw [l.length]; exact hl
    exact ⟨xs, xs[i], h1, List.getElem?_eq_getElem hx⟩
  · subst e
    obtain ⟨xs, h1, l⟩ := sq rp c
    obtain ⟨y, ey, iy⟩ := l.get hd
    have := hy xs h1
    rw [ey] at this
    cases this
    exact ⟨G', Same.refl _, rp, iy⟩
theorem itfor_tup {a : Addr} {xs : List V} {ds : List D} (g : SqT K G a xs) (l : IsL K G xs ds) : ItFor K T G ds (fun _ => True) (Itt K a) := by
  have sq : ∀ {G' M H}, Same G G' → Rp K T G' M H → SqT K H a xs := fun s rp => SqT.sub (s.trans rp.sub) g
  refine ⟨fun i G' M H s rp _ hl => ⟨xs, sq s rp, by rw [l.length]; exact hl⟩, fun i G' M H s rp _ hl => ?_, fun i G' M H v H' d s rp _ hd ⟨e, hy⟩ => ?_⟩
  · have hx : i < xs.length := by rw [l.length]; exact hl
    exact ⟨xs, xs[i], sq s rp, List.getElem?_eq_getElem hx⟩
  · subst e
    obtain ⟨y, ey, iy⟩ := l.get hd
    have := hy xs (sq s rp)
    rw [ey] at this
    cases this
    exact ⟨G', Same.refl _, rp, iy.mono s⟩
def rangeD (lo : Int) (n : Nat) : List D := (List.range n).map fun k => .int (lo + (k : Nat))
theorem rangeD_len {lo : Int} {n : Nat} : (rangeD lo n).length = n := by simp [rangeD]
theorem itfor_rng {lo : Int} {n : Nat} : ItFor K T G (rangeD lo n) (fun _ => True) (Itr lo n) := by
  refine ⟨fun i G' M H s rp _ hl => by rw [rangeD_len] at hl; exact hl, fun i G' M H s rp _ hl => by rw [rangeD_len] at hl; exact hl, fun i G' M H v H' d s rp _ hd ⟨e, hy⟩ => ?_⟩
  subst e hy
  have hl : i < n := by
    have := (List.getElem?_eq_some_iff.mp hd).1
    rwa [rangeD_len] at this
  rw [rangeD, List.getElem?_map, List.getElem?_range hl] at hd
  cases hd
  exact ⟨G', Same.refl _, rp, .int _⟩
end
section
variable {X : Cx} {T : TB} {tg : Expr} {e : Expr} {es : List Expr} {te : DE} {ta : DA} {pos p : Pos}
/-- a list by value or by place, a tuple -/
def iSeq (te : DE) : DI := fun ρ M R => te ρ M fun x M1 => match x with
  | .ref a => ∃ ds, M1 a = some (.lst ds) ∧ R ds (fun M => M a = some (.lst ds)) M1
  | .lst ds => R ds (fun _ => True) M1
  | .tup ds => R ds (fun _ => True) M1
  | _ => False
def iAny (K : PySem.W.Frag) (tl : TE) : TI := fun σ H R => tl σ H fun x H1 => ∃ a, x = .ref a ∧ (((∃ xs, SqL K H1 a xs) ∧ R (Itl K a) H1) ∨ (∃ xs, SqT K H1 a xs) ∧ R (Itt K a) H1)
theorem pi_any {l : Expr} {tl : TE} (hl : PE X l tl) : PI X tg l (iAny X.K tl) := by
  refine ⟨fun pins s σ H R I h => ?_⟩
  refine thn (hl.run pins s σ H _ I h) fun v s1 ⟨x, H1, I1, r1, q1⟩ => ?_
  obtain ⟨a, e, q⟩ := q1
  subst e
  cases r1
  rcases q with ⟨⟨xs, hq⟩, q⟩ | ⟨⟨xs, hq⟩, q⟩
  · obtain ⟨its, rv, p, hz⟩ := I1.list hq
    refine wpAny_pyIter_list p.isList ?_
    refine ⟨s1.heap.objs.size, [s1.heap.objs.size], _, _, H1, rfl, I1.kept (t' := s1.toks) fun b o e => Heap.get?_push_of_some _ e, turn_list a _, ⟨_, Heap.get?_push_size _ rfl, rfl, rfl⟩, fun b hb => ?_, q⟩
    have e : b = s1.heap.objs.size := by simpa using hb
    subst e
    exact I1.fpOk (Nat.le_refl _) (I1.hok.fresh (Nat.le_refl _))
  · obtain ⟨its, rv, p, hz⟩ := I1.tuple hq
    refine wpAny_pyIter_tuple (show s1.heap.IsTuple a its.toArray from p) ?_
    refine ⟨s1.heap.objs.size, [s1.heap.objs.size], _, _, H1, rfl, I1.kept (t' := s1.toks) fun b o e => Heap.get?_push_of_some _ e, turn_tuple a _, ⟨_, Heap.get?_push_size _ rfl, rfl, rfl⟩, fun b hb => ?_, q⟩
    have e : b = s1.heap.objs.size := by simpa using hb
    subst e
    exact I1.fpOk (Nat.le_refl _) (I1.hok.fresh (Nat.le_refl _))
theorem _root_.L2.PI.imp {X : Cx} {tg e : Expr} {t t' : TI} (h : PI X tg e t) (w : ∀ σ H R, t' σ H R → t σ H R) : PI X tg e t' := ⟨fun pins s σ H R I q => h.run pins s σ H R I (w σ H R q)⟩
abbrev XI (X : Cx) (T : TB) (tg e : Expr) (t : DI) : Prop := PI X tg e (lI X.K T t)
theorem iseq (he : XE X T e te) : XI X T tg e (iSeq te) := (pi_any he).imp fun σ H R ⟨ρ, G, M, Rd, sl, rp, h, k⟩ => ⟨ρ, G, M, _, sl, rp, h, fun x M1 v G1 H1 q s rp1 i1 => by
  split at q
  · obtain ⟨ds, ea, q⟩ := q
    obtain ⟨a', xs, e1, e2, l⟩ := lstOf_ok rp1 i1 (show lstOf M1 (.ref _) = some ds by simp [lstOf, ea])
    cases i1
    cases e1
    exact ⟨_, rfl, .inl ⟨⟨xs, .inl (.inl e2)⟩, k _ _ _ _ _ _ q s rp1 ea itfor_ref⟩⟩
  · cases i1 with
    | lst g l => exact ⟨_, rfl, .inl ⟨⟨_, .inl (.inl (rp1.sub _ _ g))⟩, k _ _ _ _ _ _ q s rp1 trivial (itfor_lst g l)⟩⟩
  · cases i1 with
    | tup g l => exact ⟨_, rfl, .inr ⟨⟨_, SqT.sub rp1.sub g⟩, k _ _ _ _ _ _ q s rp1 trivial (itfor_tup g l)⟩⟩
  · exact q.elim⟩
def iR1 (ta : DA) : DI := fun ρ M R => ta ρ M fun ds M1 => match ds with
  | [.int j] => -(2 ^ 62) ≤ j ∧ j < 2 ^ 62 ∧ R (rangeD 0 j.toNat) (fun _ => True) M1
  | _ => False
theorem irng1 (hm : X.mg "range" = none) (he : XE X T e te) (hg : Gl X "range" := by rfl) (hs : starEach [e] X.env = [(false, eval e X.env)] := by rfl) : XI X T tg (.Call (.Name "range" p) [e] [] pos) (iR1 (dCons te dNil)) :=
  (pi_range1 hg hm (ac he an hs) hs).imp fun σ H R ⟨ρ, G, M, Rd, sl, rp, h, k⟩ => ⟨ρ, G, M, _, sl, rp, h, fun x M1 v G1 H1 q s rp1 i1 => by
    match x, i1, q with
    | [.int j], .cons (.int _) .nil, ⟨h1, h2, q⟩ => exact ⟨j, rfl, h1, h2, k _ _ _ _ _ _ q s rp1 trivial itfor_rng⟩⟩
def iR2 (ta : DA) : DI := fun ρ M R => ta ρ M fun ds M1 => match ds with
  | [.int i, .int j] => (-(2 ^ 62) ≤ i ∧ i < 2 ^ 62 ∧ -(2 ^ 62) ≤ j ∧ j < 2 ^ 62) ∧ R (rangeD i (j - i).toNat) (fun _ => True) M1
  | _ => False
theorem irng2 {e2 : Expr} {te2 : DE} (hm : X.mg "range" = none) (he : XE X T e te) (he2 : XE X T e2 te2) (hg : Gl X "range" := by rfl) (hs : starEach [e, e2] X.env = [(false, eval e X.env), (false, eval e2 X.env)] := by rfl) (hs2 : starEach [e2] X.env = [(false, eval e2 X.env)] := by rfl) :
    XI X T tg (.Call (.Name "range" p) [e, e2] [] pos) (iR2 (dCons te (dCons te2 dNil))) :=
  (pi_range2 hg hm (ac he (ac he2 an hs2) (by rw [hs, hs2])) hs hs2).imp fun σ H R ⟨ρ, G, M, Rd, sl, rp, h, k⟩ => ⟨ρ, G, M, _, sl, rp, h, fun x M1 v G1 H1 q s rp1 i1 => by
    match x, i1, q with
    | [.int i, .int j], .cons (.int _) (.cons (.int _) .nil), ⟨h1, q⟩ => exact ⟨i, j, rfl, h1, k _ _ _ _ _ _ q s rp1 trivial itfor_rng⟩⟩

def dIter (chk : Mp → Prop) (g : DG) (tb : DS) (E : DEnds) : List D → DEnv → Mp → Prop
  | [], ρ, M => chk M ∧ E.nx ρ M
  | x :: xs, ρ, M => chk M ∧ g x ρ fun ρ1 => tb { nx := dIter chk g tb E xs, ct := dIter chk g tb E xs, bk := E.nx, rt := E.rt } ρ1 M
def dFor (ti : DI) (g : DG) (tb : DS) : DS := fun E ρ M => ti ρ M fun ds chk M1 => dIter chk g tb E ds ρ M1
theorem sfor {iter : Expr} {body : List Stmt} {ti : DI} {g : DG} {tgr : TG} {tb : DS} {vs : List Nat} (hp : PassesOwn (model X.prog X.w) X.A X.env X.xe) (hc : X.calm = true) (hi : XI X T tg iter ti) (hg : XG X T vs tg g tgr) (hb : XSs X T body tb)
    (hs : ∀ x, foldedSetIterable iter X.env x = pure x := by intro _; rfl) : XS X T (.For tg iter body [] pos) (dFor ti g tb) :=
  (ps_for hp hc hi hg.pg hb hs).imp fun D σ H ⟨ρ, G, M, E, sl, rp, h, k⟩ => ⟨ρ, G, M, _, sl, rp, h, fun ds chk M1 G1 H1 J q s1 rp1 c1 it => by
    refine ⟨fun i m σ H => i ≤ ds.length ∧ m = ds.length - i ∧ ∃ ρ G' M, Same G1 G' ∧ Sl X.K G' ρ σ ∧ Rp X.K T G' M H ∧ dIter chk g tb E (ds.drop i) ρ M, ⟨_, Nat.zero_le _, rfl, ρ, G1, M1, Same.refl _, sl.mono s1, rp1, by rw [List.drop_zero]; exact q⟩, ?_⟩
    rintro i m σ2 H2 ⟨hi, rfl, ρ2, G2, M2, s2, sl2, rp2, q2⟩
    by_cases hl : i < ds.length
    · rw [List.drop_eq_getElem_cons hl] at q2
      obtain ⟨c2, q2⟩ := q2
      refine .inr ⟨it.go i G2 M2 H2 s2 rp2 c2 hl, fun σ' H' => ∃ ρ G' M, Same G1 G' ∧ Sl X.K G' ρ σ' ∧ Rp X.K T G' M H' ∧ dIter chk g tb E (ds.drop (i + 1)) ρ M, fun σ' H' ⟨ρ', G', M', a, b, c, d⟩ => ⟨ds.length - (i + 1), by omega, hl, rfl, ρ', G', M', a, b, c, d⟩, fun v H' y => ?_⟩
      obtain ⟨G3, s3, rp3, i3⟩ := it.yld i G2 M2 H2 v H' _ s2 rp2 c2 (List.getElem?_eq_getElem hl) y
      refine hg.gc.run G3 M2 H' ρ2 σ2 v _ _ _ (sl2.mono s3) rp3 i3 q2 fun ρ4 σ4 q4 sl4 _ => ⟨ρ4, G3, M2, _, sl4, rp3, q4, ?_⟩
      have s13 := s2.trans s3
      exact ⟨fun ρ5 M5 σ5 G5 H5 q5 s5 sl5 rp5 => ⟨ρ5, G5, M5, s13.trans s5, sl5, rp5, q5⟩, k.rt.mono (s1.trans s13), k.nx.mono (s1.trans s13), fun ρ5 M5 σ5 G5 H5 q5 s5 sl5 rp5 => ⟨ρ5, G5, M5, s13.trans s5, sl5, rp5, q5⟩⟩
    · have e : ds.drop i = [] := List.drop_eq_nil_of_le (by omega)
      rw [e] at q2
      exact .inl ⟨it.stop i G2 M2 H2 s2 rp2 q2.1 (by omega), k.nx _ _ _ _ _ q2.2 (s1.trans s2) sl2 rp2⟩⟩

def dWh (tc : DT) (tb : DS) (E : DEnds) : Nat → DEnv → Mp → Prop
  | 0, _, _ => False
  | n + 1, ρ, M => tc ρ M fun b M1 => match b with
    | true => tb { nx := dWh tc tb E n, ct := dWh tc tb E n, bk := E.nx, rt := E.rt } ρ M1
    | false => E.nx ρ M1
def dWhile (tc : DT) (tb : DS) : DS := fun E ρ M => ∃ n, dWh tc tb E n ρ M
theorem swhile {c : Expr} {body : List Stmt} {tc : DT} {tb : DS} (hp : PassesOwn (model X.prog X.w) X.A X.env X.xe) (hc : XT X T c tc) (hb : XSs X T body tb) : XS X T (.While c body [] pos) (dWhile tc tb) :=
  (ps_while hp hc hb).imp fun D σ H ⟨ρ, G, M, E, sl, rp, ⟨n, h⟩, k⟩ => by
    refine ⟨fun m σ' H' => ∃ ρ' G' M', Same G G' ∧ Sl X.K G' ρ' σ' ∧ Rp X.K T G' M' H' ∧ dWh tc tb E m ρ' M', ⟨n, ρ, G, M, Same.refl _, sl, rp, h⟩, ?_⟩
    rintro m σ1 H1 ⟨ρ1, G1, M1, s1, sl1, rp1, q1⟩
    cases m with
    | zero => exact q1.elim
    | succ m =>
      refine ⟨ρ1, G1, M1, _, sl1, rp1, q1, fun b M2 G2 H2 q2 s2 rp2 => ?_⟩
      have s12 := s1.trans s2
      cases b with
      | true =>
        dsimp only
        rw [if_pos rfl]
        refine ⟨fun σ' H' => ∃ ρ' G' M', Same G G' ∧ Sl X.K G' ρ' σ' ∧ Rp X.K T G' M' H' ∧ dWh tc tb E m ρ' M', fun σ' H' w => ⟨m, Nat.lt_succ_self _, w⟩, ρ1, G2, M2, _, sl1.mono s2, rp2, q2, ?_⟩
        exact ⟨fun ρ5 M5 σ5 G5 H5 q5 s5 sl5 rp5 => ⟨ρ5, G5, M5, s12.trans s5, sl5, rp5, q5⟩, k.rt.mono s12, k.nx.mono s12, fun ρ5 M5 σ5 G5 H5 q5 s5 sl5 rp5 => ⟨ρ5, G5, M5, s12.trans s5, sl5, rp5, q5⟩⟩
      | false =>
        dsimp only
        rw [if_neg Bool.false_ne_true]
        exact k.nx _ _ _ _ _ q2 s12 (sl1.mono s2) rp2

def dwipe (ρ : DEnv) : List Nat → DEnv
  | [] => ρ
  | v :: vs => (dwipe ρ vs).set v none
theorem Sl.wipe {K : PySem.W.Frag} {G : Hp} {ρ : DEnv} {σ : St} (sl : Sl K G ρ σ) : ∀ vs, Sl K G (dwipe ρ vs) (L2.wipe σ vs)
  | [] => sl
  | v :: vs => (sl.wipe vs).unset v
theorem wipe_idem {σ : St} : ∀ vs, L2.wipe (L2.wipe σ vs) vs = L2.wipe σ vs
  | [] => rfl
  | v :: vs => by
    show L2.wipe ((L2.wipe σ vs).set v none) (v :: vs) = (L2.wipe σ vs).set v none
    rw [wipe_in List.mem_cons_self]
    show (L2.wipe (L2.wipe σ vs) vs).set v none = _
    rw [wipe_idem vs]
/-- the turns; p: the new list's place -/
def dLc (chk : Mp → Prop) (g : DG) (tt : DT) (te : DE) (ρ0 : DEnv) (p : Addr) (R : Mp → Prop) : List D → Mp → Prop
  | [], M => chk M ∧ R M
  | x :: xs, M => chk M ∧ g x ρ0 fun ρ1 => tt ρ1 M fun b M1 => match b with
    | true => te ρ1 M1 fun y M2 => ∃ acc, M2 p = some (.lst acc) ∧ acc.length < sizeLine ∧ dLc chk g tt te ρ0 p R xs (updM M2 p (.lst (acc ++ [y])))
    | false => dLc chk g tt te ρ0 p R xs M1
def dYes : DT := fun _ M Q => Q true M
/-- the new list by its items (false), by its place (true) -/
def lcEnd (m : Bool) (p : Addr) (Q : DK) : Mp → Prop := fun M => match m with
  | false => ∃ ds, M p = some (.lst ds) ∧ Q (.lst ds) (delM M p)
  | true => Q (.ref p) M
def dComp (m : Bool) (ti : DI) (g : DG) (tt : DT) (te : DE) (vs : List Nat) : DE := fun ρ M Q => ti ρ M fun ds chk M1 => ∀ p, M1 p = none → dLc chk g tt te (dwipe ρ vs) p (lcEnd m p Q) ds (updM M1 p (.lst []))
abbrev XTs (X : Cx) (T : TB) (ifs : List Expr) (t : DT) : Prop := PTs X ifs (lT X.K T t)
theorem ts0 : XTs X T [] dYes := ⟨fun pins s σ H Q I ⟨ρ, G, M, R, sl, rp, h, k⟩ => pts_nil.run pins s σ H Q I (k _ _ _ _ h (Same.refl G) rp)⟩
theorem ts1 {c : Expr} {t : DT} (h : XT X T c t) : XTs X T [c] t := pts_one h
theorem frz_end {K : PySem.W.Frag} {T : TB} {G H : Hp} {M : Mp} {m : Bool} {p : Addr} {R : DK} {Q : VK} (rp : Rp K T G M H) (h : lcEnd m p R M) (k : lK K T G R Q) : Q (.ref p) H := by
  cases m with
  | true => exact k.now rp (.ref p) h
  | false =>
    obtain ⟨ds, e, h⟩ := h
    obtain ⟨u, hu, j, hg, rp2⟩ := rp.frz e
    cases j with
    | lst l => exact k _ _ _ _ _ h (same_upd hg) rp2 (.lst upd_same (l.mono (same_upd hg)))
theorem lc_read {ti : DI} {g : DG} {tgr : TG} {tt : DT} {te : DE} {vs : List Nat} (gc : GC X.K T vs g tgr) (m : Bool) {σ : St} {H : Hp} {Q : VK} (h : lE X.K T (dComp m ti g tt te vs) σ H Q) : tLc (lI X.K T ti) tgr (lT X.K T tt) (lE X.K T te) vs σ H Q := by
  obtain ⟨ρ, G, M, R, sl, rp, h, k⟩ := h
  refine ⟨ρ, G, M, _, sl, rp, h, fun ds chk M1 G1 H1 J q s1 rp1 c1 it D hD => ?_⟩
  have gD := rp1.freeG hD
  have q := q D (rp1.freeM hD)
  refine ⟨fun i m' H => i ≤ ds.length ∧ m' = ds.length - i ∧ ∃ G' M, Same G1 G' ∧ Rp X.K T G' M H ∧ dLc chk g tt te (dwipe ρ vs) D (lcEnd m D R) (ds.drop i) M, ⟨_, Nat.zero_le _, rfl, G1, _, Same.refl _, rp1.newM hD (.lst .nil), by rw [List.drop_zero]; exact q⟩, ?_⟩
  rintro i m' H2 ⟨hi, rfl, G2, M2, s2, rp2, q2⟩
  by_cases hl : i < ds.length
  · rw [List.drop_eq_getElem_cons hl] at q2
    obtain ⟨c2, q2⟩ := q2
    refine .inr ⟨it.go i G2 M2 H2 s2 rp2 c2 hl, fun H' => ∃ G' M, Same G1 G' ∧ Rp X.K T G' M H' ∧ dLc chk g tt te (dwipe ρ vs) D (lcEnd m D R) (ds.drop (i + 1)) M, fun H' ⟨G', M', a, b, c⟩ => ⟨ds.length - (i + 1), by omega, hl, rfl, G', M', a, b, c⟩, fun v H' y => ?_⟩
    obtain ⟨G3, s3, rp3, i3⟩ := it.yld i G2 M2 H2 v H' _ s2 rp2 c2 (List.getElem?_eq_getElem hl) y
    have sl3 : Sl X.K G3 (dwipe ρ vs) (L2.wipe σ vs) := (sl.mono (s1.trans (s2.trans s3))).wipe vs
    refine gc.run G3 M2 H' _ _ v _ _ _ sl3 rp3 i3 q2 fun ρ4 σ4 q4 sl4 hw => ⟨hw.trans (wipe_idem vs), ρ4, G3, M2, _, sl4, rp3, q4, fun b M5 G5 H5 q5 s5 rp5 => ?_⟩
    have s15 := s2.trans (s3.trans s5)
    cases b with
    | false => exact ⟨G5, M5, s15, rp5, q5⟩
    | true =>
      dsimp only
      rw [if_pos rfl]
      refine ⟨ρ4, G5, M5, _, sl4.mono s5, rp5, q5, fun y M6 v6 G6 H6 ⟨acc, ea, hz, q6⟩ s6 rp6 i6 => ?_⟩
      obtain ⟨a', xs, e1, e2, l⟩ := lstOf_ok rp6 (.ref D) (show lstOf M6 (.ref D) = some acc by simp [lstOf, ea])
      cases e1
      exact ⟨xs, e2, by rw [l.length]; exact hz, G6, _, s15.trans s6, putL_ok rp6 ea (l.append (.cons i6 .nil)), q6⟩
  · have e : ds.drop i = [] := List.drop_eq_nil_of_le (by omega)
    rw [e] at q2
    exact .inl ⟨it.stop i G2 M2 H2 s2 rp2 q2.1 (by omega), frz_end rp2 q2.2 (k.mono (s1.trans s2))⟩
section
variable {elt iter : Expr} {ifs : List Expr} {scope : Scope} {own : List (Str × Nat)} {ti : DI} {g : DG} {tgr : TG} {tt : DT}
abbrev Blk (X : Cx) (scope : Scope) (Y : Cx → Prop) : Prop := ∀ (s : Shared) (H : Hp) (C : Addr) (cl : List (Str × Addr)) (fp : List Addr), Y (X.blk s H scope (compEnvC scope cl C X.env) fp)
theorem xlc (m : Bool) (own : List (Str × Nat)) (hc : X.calm = true) (hN : X.N.Nodup) (ok : BlkOk X.N X.env.scope scope own) (hi : XI X T tg iter ti)
    (hg : Blk X scope fun Y => XG Y T (own.map (·.2)) tg g tgr) (ht : Blk X scope fun Y => XTs Y T ifs tt) (he : Blk X scope fun Y => XE Y T elt te) (hs : ∀ x, foldedSetIterable iter X.env x = pure x := by intro _; rfl) :
    XE X T (.ListComp elt [⟨tg, iter, ifs, 0⟩] scope pos) (dComp m ti g tt te (own.map (·.2))) :=
  (pe_lc hc hN hi ok (fun s H C cl fp => (hg s H C cl fp).pg) ht he hs).imp fun σ H Q h => lc_read (hg X.s_0 X.H_0 0 [] []).gc m h
theorem ssetlc (m : Bool) (own : List (Str × Nat)) {i : Nat} {y : Str} {py spos : Pos} (hc : X.calm = true) (hN : X.N.Nodup) (ok : BlkOk X.N X.env.scope scope own) (hi : XI X T tg iter ti)
    (hg : Blk X scope fun Y => XG Y T (own.map (·.2)) tg g tgr) (ht : Blk X scope fun Y => XTs Y T ifs tt) (he : Blk X scope fun Y => XE Y T elt te)
    (hsw : swapsWith (.ListComp elt [⟨tg, iter, ifs, 0⟩] scope pos) (some (.Name y py)) spos.line X.env = pure true) (hy : X.N[i]? = some y := by rfl) (hyl : X.env.scope.names.lookup y = some .local := by rfl) (hs : ∀ x, foldedSetIterable iter X.env x = pure x := by intro _; rfl) :
    XS X T (.Assign [.Name y py] (.ListComp elt [⟨tg, iter, ifs, 0⟩] scope pos) spos) (dSet i (dComp m ti g tt te (own.map (·.2)))) :=
  (ps_setLc hc hN hy hyl hsw hi ok (fun s H C cl fp => (hg s H C cl fp).pg) ht he hs).imp fun D σ H ⟨ρ, G, M, E, sl, rp, h, k⟩ =>
    lc_read (hg X.s_0 X.H_0 0 [] []).gc m ⟨ρ, G, M, _, sl, rp, h, fun d M1 v G1 H1 q s rp1 i1 => k.nx _ _ _ _ _ q s ((sl.mono s).set i i1) rp1⟩
end
end
end SD
namespace SD
open PySem PySem.Spec PyProof.Rows L2 NdefX LamX

section
variable {P : Program} {w : World} {H H' : Hp} {h : Heap}
theorem cellO_own {a x : Addr} {v : V} : cellO a v ≠ .own x := fun z => by unfold cellO at z; cases z
theorem cellO_tup {a : Addr} {v : V} {xs : List V} : cellO a v ≠ .tup xs := fun z => by unfold cellO at z; cases z
theorem cellO_frz {a : Addr} {v : V} {o : Obj} {u : HO} : cellO a v ≠ .frz o u := fun z => by unfold cellO at z; cases z
theorem cellO_tbl {a : Addr} {v : V} {ps : Array Value} : cellO a v ≠ .tbl ps := fun z => by unfold cellO at z; cases z
theorem cellO_at {a : Addr} {v : V} (hok : HOk P w H h) (e : H a = some (cellO a v)) : ∃ u, RelV v u ∧ h.IsCell a (some u) := by
  obtain ⟨z, _, _⟩ := hok a _ e
  exact z
theorem cellO_code {a : Addr} {v : V} {q : Str} (hok : HOk P w H h) (e : H a = some (cellO a v)) : cellO a v ≠ CodeO a q := fun z => by
  obtain ⟨u, _, o, ho, hd⟩ := cellO_at hok e
  obtain ⟨⟨oc, vs, t, h1, h2, h3⟩, _, _⟩ := hok a _ (e.trans (congrArg some z))
  rw [ho] at h1
  cases h1
  rw [hd] at h2
  cases h2
theorem cellO_fn {a : Addr} {v : V} {F : NF} (hok : HOk P w H h) (e : H a = some (cellO a v)) : cellO a v ≠ FnO a F := fun z => by
  obtain ⟨u, _, o, ho, hd⟩ := cellO_at hok e
  obtain ⟨⟨od, sl, doc, pm, ctv, h1⟩, _, _⟩ := hok a _ (e.trans (congrArg some z))
  rw [ho] at h1
  cases h1
  cases hd
theorem cellO_ok {a : Addr} {v : V} {u : Value} (r : RelV v u) (c : h.IsCell a (some u)) : ObjOk P w H h a (cellO a v) := by
  obtain ⟨o, ho, hd⟩ := id c
  exact ⟨⟨u, r, o, ho, hd⟩, ⟨o, ho⟩, fun h1 h2 ⟨u', r', o', ho', hd'⟩ st => ⟨u', r', o', st _ ho', hd'⟩⟩
theorem HOk.track {a : Addr} {v : V} {u : Value} (hok : HOk P w H h) (n : H a = none) (r : RelV v u) (c : h.IsCell a (some u)) : HOk P w (upd H a (cellO a v)) h := fun b o e => by
  by_cases hb : b = a
  · subst hb; rw [upd_same] at e; cases e; exact cellO_ok r c
  · rw [upd_ne hb] at e
    exact (hok b o e).stay (fun _ _ _ z => z) (fun x z => by rw [upd_ne (ne_of_none z n)]; exact z) fun x xs z => by rw [upd_ne (ne_of_none z n)]; exact z
theorem Un.track {fs ex : List Addr} {H0 H1 : Hp} {h0 h1 : Heap} {a : Addr} {o : HO} (u : Un fs ex H0 H1 h0 h1) (n : H1 a = none) (fr : h0.get? a = none ∨ H0 a ≠ none) : Un fs ex H0 (upd H1 a o) h0 h1 where
  keep := u.keep
  slot := u.slot
  free := fun b ob e n0 hx => by
    have ne : b ≠ a := fun z => by
      subst z
      rcases fr with fr | fr
      · rw [fr] at e; cases e
      · exact fr n0
    rw [upd_ne ne]
    exact u.free b ob e n0 hx
  there := u.there
  tups := fun b xs e => by
    have := u.tups b xs e
    rw [upd_ne (ne_of_none this n)]; exact this
  frzs := fun b ob xs e => by
    have := u.frzs b ob xs e
    rw [upd_ne (ne_of_none this n)]; exact this
  tbls := fun b ps e => by
    obtain ⟨m, e1⟩ := u.tbls b ps e
    exact ⟨m, by rw [upd_ne (ne_of_none e1 n)]; exact e1⟩
end

/-- the cells told, one after another -/
def addH (H : Hp) : List (Addr × V) → Hp
  | [] => H
  | p :: r => upd (addH H r) p.1 (cellO p.1 p.2)
def addM (M : Mp) : List (Addr × D) → Mp
  | [] => M
  | p :: r => updM (addM M r) p.1 (.cell p.2)
def hideH (H : Hp) (cs : List Addr) : Hp := fun b => if b ∈ cs then none else H b
def hideM (M : Mp) (cs : List Addr) : Mp := fun b => if b ∈ cs then none else M b
theorem addH_out {H : Hp} {b : Addr} : ∀ {l : List (Addr × V)}, b ∉ l.map (·.1) → addH H l b = H b
  | [], _ => rfl
  | p :: r, n => by
    have n1 : b ≠ p.1 := fun z => n (by rw [z]; exact List.mem_cons_self)
    show upd (addH H r) p.1 _ b = _
    rw [upd_ne n1]
    exact addH_out fun z => n (List.mem_cons_of_mem _ z)
theorem addM_out {M : Mp} {b : Addr} : ∀ {l : List (Addr × D)}, b ∉ l.map (·.1) → addM M l b = M b
  | [], _ => rfl
  | p :: r, n => by
    have n1 : b ≠ p.1 := fun z => n (by rw [z]; exact List.mem_cons_self)
    show updM (addM M r) p.1 _ b = _
    rw [updM_ne n1]
    exact addM_out fun z => n (List.mem_cons_of_mem _ z)
theorem hideH_in {H : Hp} {b : Addr} {cs : List Addr} (h : b ∈ cs) : hideH H cs b = none := if_pos h
theorem hideH_out {H : Hp} {b : Addr} {cs : List Addr} (h : b ∉ cs) : hideH H cs b = H b := if_neg h
theorem hideM_in {M : Mp} {b : Addr} {cs : List Addr} (h : b ∈ cs) : hideM M cs b = none := if_pos h
theorem hideM_out {M : Mp} {b : Addr} {cs : List Addr} (h : b ∉ cs) : hideM M cs b = M b := if_neg h
theorem hideH_some {H : Hp} {b : Addr} {cs : List Addr} {o : HO} (h : hideH H cs b = some o) : b ∉ cs ∧ H b = some o := by
  by_cases hb : b ∈ cs
  · rw [hideH_in hb] at h; cases h
  · rw [hideH_out hb] at h; exact ⟨hb, h⟩
section
variable {P : Program} {w : World} {H : Hp} {h : Heap}
theorem HOk.hide {cs : List Addr} (hok : HOk P w H h) (hc : ∀ c ∈ cs, ∃ v, H c = some (cellO c v)) : HOk P w (hideH H cs) h := fun b o e => by
  obtain ⟨_, e1⟩ := hideH_some e
  refine (hok b o e1).stay (fun _ _ _ z => z) (fun x z => ?_) fun x xs z => ?_
  · rw [hideH_out fun hx => by
      obtain ⟨v, ev⟩ := hc x hx
      rw [z] at ev; exact cellO_own (Option.some.inj ev).symm]
    exact z
  · rw [hideH_out fun hx => by
      obtain ⟨v, ev⟩ := hc x hx
      rw [z] at ev; exact cellO_tup (Option.some.inj ev).symm]
    exact z
theorem HOk.addAll (hok : HOk P w H h) : ∀ {l : List (Addr × V)}, (l.map (·.1)).Nodup → (∀ p ∈ l, H p.1 = none ∧ ∃ u, RelV p.2 u ∧ h.IsCell p.1 (some u)) → HOk P w (addH H l) h
  | [], _, _ => hok
  | p :: r, nd, hp => by
    obtain ⟨n1, n2⟩ := List.nodup_cons.mp (show (p.1 :: r.map (·.1)).Nodup from nd)
    obtain ⟨e, u, ru, c⟩ := hp p List.mem_cons_self
    exact HOk.track (HOk.addAll hok n2 fun q hq => hp q (List.mem_cons_of_mem _ hq)) (by rw [addH_out n1]; exact e) ru c
theorem Un.addAll {fs ex : List Addr} {H0 H1 : Hp} {h0 h1 : Heap} (u : Un fs ex H0 H1 h0 h1) : ∀ {l : List (Addr × V)}, (l.map (·.1)).Nodup → (∀ p ∈ l, H1 p.1 = none ∧ (h0.get? p.1 = none ∨ H0 p.1 ≠ none)) → Un fs ex H0 (addH H1 l) h0 h1
  | [], _, _ => u
  | p :: r, nd, hp => by
    obtain ⟨n1, n2⟩ := List.nodup_cons.mp (show (p.1 :: r.map (·.1)).Nodup from nd)
    obtain ⟨e, fr⟩ := hp p List.mem_cons_self
    exact Un.track (Un.addAll u n2 fun q hq => hp q (List.mem_cons_of_mem _ hq)) (by rw [addH_out n1]; exact e) fr
theorem ext_addH : ∀ {l : List (Addr × V)}, (∀ p ∈ l, H p.1 = none) → Same H (addH H l) := fun {l} hp b u e => by
  by_cases hb : b ∈ l.map (·.1)
  · obtain ⟨p, hm, rfl⟩ := List.mem_map.mp hb
    rw [hp p hm] at e; cases e
  · rw [addH_out hb]; exact e
theorem addH_in : ∀ {l : List (Addr × V)} {p : Addr × V}, (l.map (·.1)).Nodup → p ∈ l → addH H l p.1 = some (cellO p.1 p.2)
  | q :: r, p, nd, hp => by
    obtain ⟨n1, n2⟩ := List.nodup_cons.mp (show (q.1 :: r.map (·.1)).Nodup from nd)
    show upd (addH H r) q.1 _ p.1 = _
    rcases List.mem_cons.mp hp with e | hp
    · subst e; exact upd_same
    · rw [upd_ne fun z => n1 (by rw [← z]; exact List.mem_map.mpr ⟨p, hp, rfl⟩)]
      exact addH_in n2 hp
theorem addM_in {M : Mp} : ∀ {l : List (Addr × D)} {p : Addr × D}, (l.map (·.1)).Nodup → p ∈ l → addM M l p.1 = some (.cell p.2)
  | q :: r, p, nd, hp => by
    obtain ⟨n1, n2⟩ := List.nodup_cons.mp (show (q.1 :: r.map (·.1)).Nodup from nd)
    show updM (addM M r) q.1 _ p.1 = _
    rcases List.mem_cons.mp hp with e | hp
    · subst e; exact updM_same
    · rw [updM_ne fun z => n1 (by rw [← z]; exact List.mem_map.mpr ⟨p, hp, rfl⟩)]
      exact addM_in n2 hp
end

/-- the function made of F's text stands at f, its cells at cs (in the order of what it captures), they hold ws -/
structure CloAt (M : Mp) (f : Addr) (F : CloT) (cs : List Addr) (ws : List D) : Prop where
  ex : ∃ cl : List (Str × Addr), M f = some (.fn F cl) ∧ F.fr.map (fun y => cl.lookup y) = cs.map some ∧ ∀ y a, cl.lookup y = some a → y ∈ F.fr
  nd : cs.Nodup
  frn : F.fr.Nodup
  cells : ∀ p ∈ cs.zip ws, M p.1 = some (.cell p.2)
  len : ws.length = cs.length
theorem no_get {h : Heap} {a : Addr} (l : h.objs.size ≤ a) : h.get? a = none := by
  cases z : h.get? a with
  | none => rfl
  | some o => exact absurd (Heap.lt_size z) (Nat.not_lt.mpr l)
theorem zip_of_mem {α β : Type} {l : List α} {r : List β} {a : α} (h : a ∈ l) (hl : r.length = l.length) : ∃ b, (a, b) ∈ l.zip r := by
  obtain ⟨i, hi⟩ := List.mem_iff_getElem?.mp h
  have hl2 : i < l.length := (List.getElem?_eq_some_iff.mp hi).1
  refine ⟨r[i]'(by omega), List.mem_iff_getElem?.mpr ⟨i, ?_⟩⟩
  rw [List.getElem?_zip_eq_some]
  exact ⟨hi, List.getElem?_eq_getElem _⟩
theorem nodup_map {α β : Type} {g : α → β} : ∀ {l : List α}, (∀ x ∈ l, ∀ y ∈ l, g x = g y → x = y) → l.Nodup → (l.map g).Nodup
  | [], _, _ => List.nodup_nil
  | x :: l, h, nd => by
    obtain ⟨n1, n2⟩ := List.nodup_cons.mp nd
    refine List.nodup_cons.mpr ⟨fun hm => ?_, nodup_map (fun a ha b hb => h a (List.mem_cons_of_mem _ ha) b (List.mem_cons_of_mem _ hb)) n2⟩
    obtain ⟨y, hy, e⟩ := List.mem_map.mp hm
    exact n1 (h y (List.mem_cons_of_mem _ hy) x List.mem_cons_self e ▸ hy)
theorem map_fst_zip {α β : Type} {l : List α} {r : List β} (hl : r.length = l.length) : (l.zip r).map (·.1) = l := by
  induction l generalizing r with
  | nil => rfl
  | cons x l ih =>
    cases r with
    | nil => simp at hl
    | cons y r => simp [ih (by simpa using hl)]

/-- the promise: a new function that captures the parameters js -/
def spMk (F : CloT) (n : Nat) (js : List Nat) : DSp := fun ds M R _ => ds.length = n ∧ ∃ ws : List D, js.map (fun j => ds[j]?) = ws.map some ∧
  ∀ f cs cl, M f = none → f ∉ cs → (∀ a ∈ cs, M a = none) → CloAt (addM (updM M f (.fn F cl)) (cs.zip ws)) f F cs ws → R (.ref f) (addM (updM M f (.fn F cl)) (cs.zip ws))
theorem set_ne_get {σ : L2.St} {i j : Nat} {x : Option V} (h : j ≠ i) : (σ.set i x)[j]? = σ[j]? := List.getElem?_set_ne (Ne.symm h)
theorem IsL.pick {K : PySem.W.Frag} {G : Hp} {vs : List V} {ds : List D} (l : IsL K G vs ds) : ∀ {js : List Nat} {ws : List D}, js.map (fun j => ds[j]?) = ws.map some → ∃ us, js.map (fun j => vs[j]?) = us.map some ∧ IsL K G us ws
  | [], [], _ => ⟨[], rfl, .nil⟩
  | [], _ :: _, h => by simp at h
  | _ :: _, [], h => by simp at h
  | j :: js, w :: ws, h => by
    rw [List.map_cons, List.map_cons] at h
    obtain ⟨h1, h2⟩ := List.cons.inj h
    obtain ⟨v, e, i⟩ := l.get h1
    obtain ⟨us, e2, i2⟩ := IsL.pick l h2
    exact ⟨v :: us, by rw [List.map_cons, List.map_cons, e, e2], .cons i i2⟩
section
variable {P : Program} {w : World} {K : PySem.W.Frag} {mg : Str → Option Value} {base : Heap}
theorem fnG_mk {T : List NTab} {nm : Nat → Nat → Str} {c0 Pt : Addr} {k : Nat} {fa : Addr} {name qual : Str} {params : Arguments} {body : List Stmt} {scope : Scope} {dV kV doc pm ct oc : Value} {an od : Option Addr} {osl : Array (Option Value)} {N ps : List Str} {F : CloT} {js : List Nat} {i : Nat} {pos p2 p3 : Pos}
    (lk : K.lookup fa = some ⟨oc, od, .func (PySem.W.fnOf name qual params body scope dV kV doc pm an (.ref c0) ct), osl⟩) (hcd : PySem.W.codeIn K (.ref c0) qual = true) (S : FnScope N ps scope)
    (hbd : body = [F.st, .Return (some (.Name F.name p2)) p3]) (hst : F.st = .FunctionDef F.name (C8.fnArgs F.st) (C8.fnBody F.st) [] none [] (C8.fnScope F.st) none F.name pos)
    (TBt : TabB base mg c0 Pt) (hm : (Pt, nm) ∈ T) (hu : ∀ p ∈ T, p.1 = Pt → p.2 = nm) (hq : ∀ sz, (envOfC qual scope sz fa (.ref c0)).qual ++ F.name = F.qual) (hn : nm pos.line pos.col = F.qual)
    (hfree : ∀ y ∈ (C8.fnScope F.st).names, y.2 = .free → scope.names.lookup y.1 = some .cell ∨ scope.names.lookup y.1 = some .free) (hfr : ∀ y ∈ F.fr, (y, NameKind.free) ∈ (C8.fnScope F.st).names)
    (hfr2 : ∀ y ∈ (C8.fnScope F.st).names, y.2 = .free → y.1 ∈ F.fr) (hd0 : (C8.fnArgs F.st).defaults = []) (hk0 : (C8.fnArgs F.st).kw_defaults = []) (ha : ∀ env, annTrees (C8.fnArgs F.st) none env = [])
    (hi : N[i]? = some F.name) (hl : scope.names.lookup F.name = some .local) (frn : F.fr.Nodup) (hjs : js.map (fun j => N[j]?) = F.fr.map some) (hji : ∀ j ∈ js, j < ps.length) (hip : ps.length ≤ i)
    (hdb : (F.name == ("__debug__" : Str)) = false) (hcd2 : (F.name == ("__classdict__" : Str)) = false) (B : Hp) :
    FnG P w K mg base (k + 1) fa (PySem.W.fnOf name qual params body scope dV kV doc pm an (.ref c0) ct) ps (toSp K ⟨T, B⟩ (spMk F ps.length js)) := by
  refine ⟨fun vs H Q E ⟨G, M, ds, R, RX, rp, i, q, _⟩ => i.length.trans q.1, fun A outer s H args us vs Q E hr e0 hb r ⟨G, M, ds, R, RX, rp, il, ⟨hds, ws, hws, q⟩, kk, _⟩ => ?_⟩
  have hlen : vs.length = ps.length := il.length.trans hds
  have keep : ∀ b o, base.get? b = some o → s.heap.get? b = some o := fun b o e => (e0.bs b o e).1
  have KX : K.In s.heap := e0.mod.kin.keeps keep
  have lim : s.heap.NoLimit := e0.mod.nolimit.keeps keep
  have slots : ∀ y ∈ ps.zip us, scope.names.lookup y.1 = some .local ∨ (scope.names.lookup y.1 = some .cell ∧ ((cellsFrom (s.heap.objs.size + 1) scope.names []).lookup y.1).isSome = true) := fun y hy =>
    (S.par y.1 (List.of_mem_zip (a := y.1) (b := y.2) hy).1).imp id fun q => ⟨q, PySem.W.cellsFrom_some _ _ _ (.inl q)⟩
  refine codeAny_call_function hr.rm.depth (KX _ _ lk) rfl S.co S.gen rfl (PySem.W.codeRec_of KX hcd) (hb _ _ _ _ ?_)
  refine wpAny_newFunctionEnv_cells S.kind slots fun env he s1 x => ?_
  subst he
  refine ⟨lim.keeps x.toInCall.keep, codeAny_func ?_⟩
  have I0 := inv_start (CX := L2.CX P w) (E := E) S hr.rm.hd e0 hlen r x
  let X : Cx := cz P w K mg base N qual scope fa (.ref c0) A outer s H E
  have I0 : Inv X [] (L2.start N vs) H s1 := I0
  subst hbd
  have hN : X.N[i]? = some F.name := hi
  have rule := ps_ndefMS (X := X) (T := T) (nm := nm) (c := c0) (P := Pt) (i := i) hst TBt rfl hm (hn.trans (hq _).symm) hu hfree hd0 hk0 (ha _) S.nd hN (.inl hl) (.inr hl)
  refine wpAny_execs_cons (wpAny_mono (rule.run [] s1 (L2.start N vs) H { nx := fun σ' H1 => ∃ f c', σ' = (L2.start N vs).set i (some (.ref f)) ∧ ExtN H H1 ∧ (∀ b, H1 b = none → H b = none) ∧ TabsN T H1 ∧ H f = none ∧ H1 f = some (FnO f (NF.of F.st F.name (X.env.qual ++ F.name) (cloFrom X.env.cells (C8.fnScope F.st).names []) c')) ∧ H1 c' = some (CodeO c' (X.env.qual ++ F.name)), rt := fun _ _ => False } I0 ⟨rp.tab, fun f c' H1 a b c d e g => ⟨f, c', rfl, a, b, c, d, e, g⟩⟩) (fun fl s2 hq2 => ?_) fun _ _ z => z)
  cases fl with
  | ret v => obtain ⟨_, _, _, _, _, z⟩ := hq2; exact z.elim
  | brk => obtain ⟨_, _, _, z⟩ := hq2; exact z.elim
  | cont => obtain ⟨_, _, _, z⟩ := hq2; exact z.elim
  | next =>
    obtain ⟨σ1, H1, I1, f, c', rfl, eN, nn, T1, hf, hf1, hc1⟩ := hq2
    have hil : i < (L2.start N vs).length := by
      rw [I0.len]; exact (List.getElem?_eq_some_iff.mp hi).1
    refine wpAny_execs_cons (wpAny_Return_some (wpAny_mono ((pe_var (X := X) (pos := p2) (i := i) hN (.inl hl) hdb hcd2).run [] s2 _ H1 (fun v H' => v = .ref f ∧ H' = H1) I1 ⟨.ref f, List.getElem?_set_self hil, rfl, rfl⟩) (fun u s3 ⟨v, H1', I3, rv, ev, eH⟩ => ?_) fun _ _ z => z))
    subst ev
    rw [eH] at I3
    have qn : X.env.qual ++ F.name = F.qual := hq _
    rw [qn] at hf1 hc1
    -- the cells
    generalize hcl : cloFrom X.env.cells (C8.fnScope F.st).names [] = cl at hf1
    have hfree' : ∀ y ∈ (C8.fnScope F.st).names, y.2 = .free → ∃ c, X.env.cells.lookup y.1 = some c := fun y hy e => (hfree y hy e).elim (fun z => I3.ok.has _ (.inl z)) fun z => I3.ok.has _ (.inr z)
    have C := cells_of I3 (Caps.made (X := X) (fr := F.fr) (js := js) I3.ok hfree hfr hjs)
    rw [hcl] at C
    obtain ⟨wv, ewv, iwv⟩ := il.pick hws
    have sl : ∀ j ∈ js, slotAt ((L2.start N vs).set i (some (.ref f))) j = vs[j]? := fun j hj => by
      have h1 := hji j hj
      have h2 : j < vs.length := by omega
      have e : ((L2.start N vs).set i (some (V.ref f)))[j]? = some (some vs[j]) := by
        rw [set_ne_get (by omega)]
        unfold L2.start
        rw [List.getElem?_append_left (by rw [List.length_map]; exact h2), List.getElem?_map, List.getElem?_eq_getElem h2]
        rfl
      rw [List.getElem?_eq_getElem h2]
      exact slotAt_of e
    have eSl : js.map (slotAt ((L2.start N vs).set i (some (.ref f)))) = wv.map some := by
      rw [← ewv]
      exact List.map_congr_left sl
    rw [eSl] at C
    let cs : List Addr := F.fr.map fun y => (cl.lookup y).getD 0
    have look : ∀ y ∈ F.fr, ∃ c, cl.lookup y = some c := fun y hy => by
      obtain ⟨n, hn⟩ := List.mem_iff_getElem?.mp hy
      obtain ⟨c, e, _⟩ := C.has n y hn
      exact ⟨c, e⟩
    have ecs : F.fr.map (fun y => cl.lookup y) = cs.map some := by
      show _ = (F.fr.map _).map some
      rw [List.map_map]
      refine List.map_congr_left fun y hy => ?_
      obtain ⟨c, e⟩ := look y hy
      show cl.lookup y = some ((cl.lookup y).getD 0)
      rw [e]; rfl
    have cin : ∀ a ∈ cs, ∃ y, y ∈ F.fr ∧ cl.lookup y = some a := fun a ha => by
      obtain ⟨y, hy, e⟩ := List.mem_map.mp ha
      obtain ⟨c, ec⟩ := look y hy
      rw [ec] at e
      exact ⟨y, hy, by rw [ec, ← e]; rfl⟩
    have ndc : cs.Nodup := by
      refine nodup_map ?_ frn
      intro y hy z hz e
      obtain ⟨c, ec⟩ := look y hy
      obtain ⟨c2, ec2⟩ := look z hz
      rw [ec, ec2] at e
      have e : c = c2 := e
      subst e
      exact C.inj y z c ec ec2
    have c1 : ∀ a ∈ cs, H1 a = none ∧ H a = none := fun a ha => by
      obtain ⟨y, _, e⟩ := cin a ha
      have := (C.all y a e).1
      exact ⟨this, nn _ this⟩
    have wl : wv.length = cs.length := by
      have h1 := C.len
      rw [List.length_map] at h1
      rw [h1]
      show _ = (F.fr.map _).length
      rw [List.length_map]
    have wl2 : ws.length = cs.length := iwv.length.symm.trans wl
    have fcs : f ∉ cs := fun z => by
      have := (c1 f z).1
      rw [hf1] at this; cases this
    have ccs : c' ∉ cs := fun z => by
      have := (c1 c' z).1
      rw [hc1] at this; cases this
    have cval : ∀ p ∈ cs.zip wv, ∃ u, RelV p.2 u ∧ s3.heap.IsCell p.1 (some u) := fun p hp => by
      obtain ⟨n, hn⟩ := List.mem_iff_getElem?.mp hp
      rw [List.getElem?_zip_eq_some] at hn
      obtain ⟨h1, h2⟩ := hn
      have h1 : (F.fr.map fun y => (cl.lookup y).getD 0)[n]? = some p.1 := h1
      rw [List.getElem?_map] at h1
      cases ey : F.fr[n]? with
      | none => rw [ey] at h1; cases h1
      | some y =>
        rw [ey] at h1
        obtain ⟨c, ec, hv⟩ := C.has n y ey
        have h1 : (cl.lookup y).getD 0 = p.1 := Option.some.inj h1
        rw [ec] at h1
        have h1 : c = p.1 := h1
        subst h1
        exact hv p.2 (by rw [List.getElem?_map, h2]; rfl)
    have m1 := map_fst_zip (l := cs) (r := wv) wl
    have m2 := map_fst_zip (l := cs) (r := ws) wl2
    have memz : ∀ p ∈ cs.zip wv, p.1 ∈ cs := fun p hp => (List.of_mem_zip (a := p.1) (b := p.2) hp).1
    -- the heap with the cells told
    have hok2 : HOk P w (addH H1 (cs.zip wv)) s3.heap := HOk.addAll (P := P) (w := w) I3.hok (by rw [m1]; exact ndc) fun p hp => ⟨(c1 _ (memz p hp)).1, cval p hp⟩
    have un2 : Un (frs outer) [] H (addH H1 (cs.zip wv)) s.heap s3.heap := Un.addAll I3.base (by rw [m1]; exact ndc) fun p hp => ⟨(c1 _ (memz p hp)).1, .inl (by
      obtain ⟨y, _, e⟩ := cin _ (memz p hp)
      have h1 : X.env.cells.lookup y = some p.1 := by
        rw [← hcl] at e
        exact clo_cm hfree' e
      have h2 : s.heap.objs.size ≤ p.1 := I3.ok.cab y p.1 rfl h1
      exact no_get h2)⟩
    have addO : ∀ {b : Addr}, b ∉ cs → addH H1 (cs.zip wv) b = H1 b := fun {b} hb => addH_out (by rw [m1]; exact hb)
    have ne_c : f ≠ c' := fun z => by
      obtain ⟨od, sl, doc, pm, ctv, ho⟩ := fnO_at I3.hok hf1
      obtain ⟨⟨oc, vs, t, h1, h2, h3⟩, _, _⟩ := I3.hok c' _ hc1
      rw [z, h1] at ho
      cases ho
      cases h2
    have nG : ∀ a o, M a = some o → a ≠ c' := fun a o e z => by
      subst z
      obtain ⟨_, u, hu, oi⟩ := rp.mt a o e
      have e1 := eN _ _ hu oi.notbl
      rw [hc1] at e1
      have e1 := Option.some.inj e1
      obtain ⟨⟨oc, vs, t, h1, h2, h3⟩, _, _⟩ := I3.hok a _ hc1
      cases oi with
      | lst _ => unfold CodeO at e1; cases e1
      | ins _ => unfold CodeO at e1; cases e1
      | dK _ => unfold CodeO at e1; cases e1
      | fn _ =>
        rw [e1] at hc1
        obtain ⟨od, sl, doc, pm, ctv, ho⟩ := fnO_at I3.hok hc1
        rw [h1] at ho
        cases ho
        cases h2
      | cell _ =>
        rw [e1] at hc1
        obtain ⟨u, _, o, ho, hd⟩ := cellO_at I3.hok hc1
        rw [h1] at ho
        cases ho
        rw [hd] at h2
        cases h2
    have sG : Same G (upd G c' (CodeO c' F.qual)) := fun b u e => by
      by_cases hb : b = c'
      · subst hb
        have e1 := eN _ _ (rp.sub _ _ e) fun ps z => rp.nt b ps (by rw [e, z])
        rw [hc1] at e1
        rw [upd_same]; exact e1
      · rw [upd_ne hb]; exact e
    have rp2 : Rp K ⟨T, B⟩ (upd G c' (CodeO c' F.qual)) (addM (updM M f (.fn F cl)) (cs.zip ws)) (addH H1 (cs.zip wv)) := by
      refine ⟨fun b u e => ?_, fun a o e => ?_, T1.ext (ext_addH fun p hp => (c1 _ (memz p hp)).1), rp.bs.trans sG, nt_upd rp.nt fun ps z => codeO_ne ps z⟩
      · by_cases hb : b = c'
        · subst hb
          rw [upd_same] at e
          cases e
          rw [addO ccs]; exact hc1
        · rw [upd_ne hb] at e
          have e1 := eN _ _ (rp.sub _ _ e) fun ps z => rp.nt b ps (by rw [e, z])
          rw [addO fun z => by rw [(c1 b z).1] at e1; cases e1]
          exact e1
      · by_cases ha : a ∈ cs
        · obtain ⟨v, hv⟩ := zip_of_mem ha wl
          obtain ⟨d, hd⟩ := zip_of_mem ha wl2
          have e1 := addM_in (M := updM M f (.fn F cl)) (by rw [m2]; exact ndc) hd
          rw [e] at e1
          cases e1
          refine ⟨by rw [upd_ne fun z => ccs (by rw [← z]; exact ha)]; exact rp.freeG (c1 a ha).2, _, addH_in (by rw [m1]; exact ndc) hv, .cell ?_⟩
          obtain ⟨n, hn⟩ := List.mem_iff_getElem?.mp hv
          obtain ⟨n2, hn2⟩ := List.mem_iff_getElem?.mp hd
          rw [List.getElem?_zip_eq_some] at hn hn2
          have en : n = n2 := (List.getElem?_inj (by exact (List.getElem?_eq_some_iff.mp hn.1).1) ndc).mp (hn.1.trans hn2.1.symm)
          subst en
          obtain ⟨y, ey, iy⟩ := iwv.get hn2.2
          rw [hn.2] at ey
          cases ey
          exact iy.mono sG
        · rw [addM_out (by rw [m2]; exact ha)] at e
          by_cases hf2 : a = f
          · subst hf2
            rw [updM_same] at e
            cases e
            exact ⟨by rw [upd_ne ne_c]; exact rp.freeG hf, _, by rw [addO ha]; exact hf1, .fn upd_same⟩
          · rw [updM_ne hf2] at e
            obtain ⟨g, u, hu, oi⟩ := rp.mt a o e
            exact ⟨by rw [upd_ne (nG a o e)]; exact g, u, by rw [addO ha]; exact eN _ _ hu oi.notbl, oi.mono sG⟩
    have ca : CloAt (addM (updM M f (.fn F cl)) (cs.zip ws)) f F cs ws := ⟨⟨cl, by rw [addM_out (by rw [m2]; exact fcs)]; exact updM_same, ecs, fun y a e => by
      rw [← hcl] at e
      rcases cloFrom_mem (PySem.mem_of_lookup e) with z | ⟨z, _⟩
      · cases z
      · exact hfr2 _ z rfl⟩, ndc, frn, fun p hp => addM_in (by rw [m2]; exact ndc) hp, wl2⟩
    obtain rfl : u = Value.ref f := rv
    refine ⟨.ref f, addH H1 (cs.zip wv), I3.os, I3.bare, un2, hok2, rfl, ?_⟩
    exact kk _ _ _ _ _ (q f cs cl (rp.freeM hf) fcs (fun a ha => rp.freeM (c1 a ha).2) ca) sG rp2 (.ref f)
end
end SD
namespace SD
open PySem PySem.Spec PyProof.Rows L2 NdefX LamX

section
variable {P : Program} {w : World} {K : PySem.W.Frag} {mg : Str → Option Value} {base : Heap}
structure CloOk (P : Program) (w : World) (K : PySem.W.Frag) (mg : Str → Option Value) (base : Heap) (T : List NTab) (k : Nat) (F : CloT) (sp : List D → DSp) : Prop where
  run : ∀ (B : Hp) (f c : Addr) (cl : List (Str × Addr)) (A : Around) (outer : List Env) (s : Shared) (H : Hp) (us : List Value) (vs wv : List V) (Q : VK) (E : XK), Rm k A → Env0 P w K mg base A outer s H →
    H f = some (FnO f (NF.of F.st F.name F.qual cl c)) → H c = some (CodeO c F.qual) → CellsAt cl F.fr (wv.map some) s.heap H → Vals vs us →
    (∃ G M ds ws R RX, Rp K ⟨T, B⟩ G M H ∧ IsL K G vs ds ∧ IsL K G wv ws ∧ sp ws ds M R RX ∧ lK K ⟨T, B⟩ G R Q ∧ lX K ⟨T, B⟩ G RX E) → codeAny (model P w) A (.call (.ref f) ⟨us, []⟩) (CR (L2.CX P w) outer P w H s Q E) s
theorem CloOk.mono {T : List NTab} {j k : Nat} {F : CloT} {sp : List D → DSp} (o : CloOk P w K mg base T j F sp) (h : j ≤ k) : CloOk P w K mg base T k F sp :=
  ⟨fun B f c cl A outer s H us vs wv Q E hr => o.run B f c cl A outer s H us vs wv Q E (hr.mono h)⟩
abbrev nz (P : Program) (w : World) (K : PySem.W.Frag) (mg : Str → Option Value) (base : Heap) (N : List Str) (F : NF) (f : Addr) (A : Around) (outer : List Env) (s : Shared) (H : Hp) (E : XK) : Cx := ncx (L2.CX P w) P w K mg base N F f A outer s H E
def DrvC (P : Program) (w : World) (K : PySem.W.Frag) (mg : Str → Option Value) (base : Heap) (T : List NTab) (k : Nat) (N : List Str) (F : CloT) (rd : DW → DS) : Prop :=
  ∀ (B : Hp) (f c : Addr) (cl : List (Str × Addr)) (A : Around) (outer : List Env) (s : Shared) (H : Hp) (E : XK) (W : DW), Rm k (nz P w K mg base N (NF.of F.st F.name F.qual cl c) f A outer s H E).A → Takes (nz P w K mg base N (NF.of F.st F.name F.qual cl c) f A outer s H E) (lW K ⟨T, B⟩ W) →
    XSs (nz P w K mg base N (NF.of F.st F.name F.qual cl c) f A outer s H E) ⟨T, B⟩ (C8.fnBody F.st) (rd W)
def rhoF (N : List Str) (ds ws : List D) : DEnv := ds.map some ++ (ws.map some ++ List.replicate (N.length - ds.length - ws.length) none)
theorem Sl.startF {G : Hp} {N : List Str} {vs wv : List V} {ds ws : List D} (i : IsL K G vs ds) (j : IsL K G wv ws) : Sl K G (rhoF N ds ws) (NdefX.startF N vs (wv.map some)) := by
  have h := Sl.start (K := K) (N := N) (i.append j)
  have e1 : rhoF N ds ws = (ds ++ ws).map some ++ List.replicate (N.length - (ds ++ ws).length) none := by
    unfold rhoF
    rw [List.map_append, List.append_assoc, List.length_append, Nat.sub_add_eq]
  have e2 : NdefX.startF N vs (wv.map some) = L2.start N (vs ++ wv) := by
    unfold NdefX.startF L2.start
    rw [List.map_append, List.append_assoc, List.length_append, List.length_map, Nat.sub_add_eq]
  rw [e1, e2]
  exact h
theorem clo_by {T : List NTab} {k : Nat} {N ps : List Str} {F : CloT} {sp : List D → DSp} {rd : DW → DS} (S : NScope N ps F.fr (C8.fnScope F.st))
    (hb : ∀ (cl : List (Str × Addr)) (c : Addr) (doc pm ctv : Value) (us : List Value), us.length = ps.length → bindArgs ((NF.of F.st F.name F.qual cl c).fd doc pm ctv) ⟨us, []⟩ = pure (ps.zip us))
    (len : ∀ ws ds M R RX, sp ws ds M R RX → ds.length = ps.length) (hd : DrvC P w K mg base T k N F rd) (hr : ∀ ws ds M R RX, sp ws ds M R RX → ws.length = F.fr.length → rd (DnX RX) (ends0 R) (rhoF N ds ws) M) :
    CloOk P w K mg base T (k + 1) F sp := by
  refine ⟨fun B f c cl A outer s H us vs wv Q E hrm e0 hf hc C r ⟨G, M, ds, ws, R, RX, rp, il, iw, q, kk, x⟩ => ?_⟩
  have hl : vs.length = ps.length := il.length.trans (len _ _ _ _ _ q)
  have lim : s.heap.NoLimit := e0.mod.nolimit.keeps fun b o e => (e0.bs b o e).1
  obtain ⟨od, sl, doc, pm, ctv, ho⟩ := fnO_at e0.hok hf
  refine codeAny_call_function hrm.rm.depth ho rfl S.co S.gen rfl (codeO_at e0.hok hc) ?_
  rw [hb cl c doc pm ctv us (by rw [← r.length]; exact hl)]
  refine wpAny_pure (wpAny_newFunctionEnv S.nocell (fun y hy => S.par y.1 (List.of_mem_zip (a := y.1) (b := y.2) hy).1) (fun h₁ hns hsb => ⟨lim.fresh _ hsb, ?_⟩) S.kind)
  show codeAny _ _ (.func (C8.fnBody F.st) (envF (NF.of F.st F.name F.qual cl c) f s.heap.objs.size)) _ _
  refine codeAny_func ?_
  have kp : ∀ b o, s.heap.get? b = some o → h₁.get? b = some o := fun b o e => hsb.extBut b o (Nat.ne_of_lt (Heap.lt_size e)) (Heap.get?_push_of_some _ e)
  have I := inv_startN (CX := L2.CX P w) (E := E) (f := f) (F := NF.of F.st F.name F.qual cl c) (tk := s.toks + (ps.zip us).length) S hrm.rm.hd e0 hl r C hns kp
  have tk : Takes (nz P w K mg base N (NF.of F.st F.name F.qual cl c) f A outer s H E) (lW K ⟨T, G⟩ (DnX RX)) :=
    (takes_of (X := nz P w K mg base N (NF.of F.st F.name F.qual cl c) f A outer s H E) rfl rfl rfl rfl).imp fun cls od σ H' ⟨ρ, G', M', fs, sl, rp', xd, M2, le, rx⟩ =>
      x cls od fs M2 G' H' rx rp'.bs ((rp'.le le).rebase (T := ⟨T, G⟩) (rp.bs.trans rp'.bs)) xd
  have kk' : lK K ⟨T, G⟩ G (Dn R) Q := fun d M' v G' H' ⟨M2, le, r⟩ s' rp' i' => kk d M2 v G' H' r s' ((rp'.le le).rebase (T := ⟨T, G⟩) (rp.bs.trans rp'.bs)) i'
  have hlw : ws.length = F.fr.length := by rw [← iw.length, ← C.len, List.length_map]
  have run := (hd G f c cl A outer s H E (DnX RX) (hrm.deeper _) tk).run [] _ _ H { nx := fun _ H' => Q .non H', rt := Q } I ⟨rhoF N ds ws, G, M, ends0 R, Sl.startF il iw, rp.rebase (Same.refl G), hr _ _ _ _ _ q hlw,
    ⟨fun ρ' M' σ' G' H' r s' sl' rp' => kk' .non M' .non G' H' r s' rp' .non, kk', fun _ _ _ _ _ z _ _ _ => z.elim, fun _ _ _ _ _ z _ _ _ => z.elim⟩⟩
  refine wpAny_mono run (fun fl s' hs => ?_) fun e s' hs => hs
  cases fl with
  | ret u =>
    obtain ⟨v, σ', H', J, rv, q⟩ := hs
    exact ⟨v, H', J.os, J.bare, J.base, J.hok, rv, q⟩
  | next =>
    obtain ⟨σ', H', J, q⟩ := hs
    exact ⟨V.non, H', J.os, J.bare, J.base, J.hok, rfl, q⟩
  | brk => exact (show False from let ⟨_, _, _, q⟩ := hs; q).elim
  | cont => exact (show False from let ⟨_, _, _, q⟩ := hs; q).elim
end

theorem XdOk.ext {K : PySem.W.Frag} {G H H' : Hp} (s : Same H H') : ∀ {fs : Option (List (Str × D))} {od : Option Addr}, XdOk K G fs od H → XdOk K G fs od H'
  | none, none, _ => trivial
  | some _, some _, ⟨vs, e, i⟩ => ⟨vs, s _ _ e, i⟩
/-- what a call of such a function does: its cells are not seen while it runs -/
def rdClo (F : CloT) (sp : List D → DSp) : D → List D → Mp → DK → DX → Prop := fun g ds M R RX => ∃ f cs ws, g = .ref f ∧ CloAt M f F cs ws ∧
  sp ws ds (hideM M cs) (fun d M2 => R d (addM M2 (cs.zip ws))) fun cls fs M2 => RX cls fs (addM M2 (cs.zip ws))
section
variable {X : Cx} {T : TB} {k : Nat} {F : CloT} {sp : List D → DSp} {W : DW}
theorem run_clo (Fn : CloOk X.prog X.w X.K X.mg X.base T.tabs k F sp) (hr : Rm k X.A) (tk : Takes X (lW X.K T W)) {pins : List (Addr × Obj)} {σ : St} {H : Hp} {s : Shared} {G : Hp} {M : Mp} {ρ : DEnv} {f : Addr} {cs : List Addr} {ws ds : List D} {us : List Value} {vs : List V} {R : DK} {Q : VK}
    (I : Inv X pins σ H s) (sl : Sl X.K G ρ σ) (rp : Rp X.K T G M H) (c : CloAt M f F cs ws) (r : Vals vs us) (i : IsL X.K G vs ds)
    (h : sp ws ds (hideM M cs) (fun d M2 => R d (addM M2 (cs.zip ws))) fun cls fs M2 => W cls fs ρ (addM M2 (cs.zip ws))) (kk : lK X.K T G R Q) : wpAny (model X.prog X.w) X.A (call (.ref f) us) (EP X pins σ Q) X.xe s := by
  obtain ⟨cl, hM, hcl, hcl2⟩ := c.ex
  obtain ⟨gf, uf, hf, oi⟩ := rp.mt _ _ hM
  cases oi
  rename_i c' hc
  have hc : H c' = some (CodeO c' F.qual) := rp.sub _ _ hc
  -- the cells' values
  have cell : ∀ a ∈ cs, ∃ d v, (a, d) ∈ cs.zip ws ∧ H a = some (cellO a v) ∧ Is X.K G v d := fun a ha => by
    obtain ⟨d, hd⟩ := zip_of_mem ha c.len
    obtain ⟨_, u, hu, oi⟩ := rp.mt _ _ (c.cells _ hd)
    cases oi with
    | cell iv => exact ⟨d, _, hd, hu, iv⟩
  have vals : ∃ wv : List V, wv.length = cs.length ∧ (∀ p ∈ cs.zip wv, H p.1 = some (cellO p.1 p.2)) ∧ IsL X.K G wv ws := by
    have aux : ∀ (cs : List Addr) (ws : List D), ws.length = cs.length → (∀ p ∈ cs.zip ws, M p.1 = some (.cell p.2)) → ∃ wv : List V, wv.length = cs.length ∧ (∀ p ∈ cs.zip wv, H p.1 = some (cellO p.1 p.2)) ∧ IsL X.K G wv ws := by
      intro cs
      induction cs with
      | nil =>
        intro ws hl _
        cases ws with
        | nil => exact ⟨[], rfl, fun p hp => by simp at hp, .nil⟩
        | cons _ _ => simp at hl
      | cons a cs ih =>
        intro ws hl hp
        cases ws with
        | nil => simp at hl
        | cons d ws =>
          obtain ⟨wv, h1, h2, h3⟩ := ih ws (by simpa using hl) fun p q => hp p (List.mem_cons_of_mem _ q)
          obtain ⟨_, u, hu, oi⟩ := rp.mt _ _ (hp (a, d) List.mem_cons_self)
          cases oi with
          | cell iv =>
            rename_i v
            refine ⟨v :: wv, by simp [h1], fun p q => ?_, .cons iv h3⟩
            rcases List.mem_cons.mp (show p ∈ (a, v) :: cs.zip wv from q) with e | q
            · subst e; exact hu
            · exact h2 p q
    exact aux cs ws c.len c.cells
  obtain ⟨wv, wl, hwv, iw⟩ := vals
  have m1 := map_fst_zip (l := cs) (r := wv) wl
  have m2 := map_fst_zip (l := cs) (r := ws) c.len
  have memz : ∀ p ∈ cs.zip wv, p.1 ∈ cs := fun p hp => (List.of_mem_zip (a := p.1) (b := p.2) hp).1
  have hcs : ∀ a ∈ cs, ∃ v, H a = some (cellO a v) := fun a ha => let ⟨_, v, _, e, _⟩ := cell a ha; ⟨v, e⟩
  have fcs : f ∉ cs := fun z => by
    obtain ⟨v, e⟩ := hcs f z
    rw [hf] at e
    have e := Option.some.inj e
    exact cellO_fn (P := X.prog) (w := X.w) (v := v) I.hok (by rw [← e]; exact hf) e.symm
  have ccs : c' ∉ cs := fun z => by
    obtain ⟨v, e⟩ := hcs c' z
    rw [hc] at e
    have e := Option.some.inj e
    exact cellO_code (P := X.prog) (w := X.w) (v := v) I.hok (by rw [← e]; exact hc) e.symm
  have hGc : ∀ a ∈ cs, G a = none := fun a ha => by
    obtain ⟨d, _, hd, _⟩ := cell a ha
    exact (rp.mt _ _ (c.cells _ hd)).1
  have cap : ∀ (n : Nat) (y : Str), F.fr[n]? = some y → ∃ a v, cs[n]? = some a ∧ wv[n]? = some v ∧ cl.lookup y = some a := fun n y e => by
    have e2 : (F.fr.map fun y => cl.lookup y)[n]? = (cs.map some)[n]? := by rw [hcl]
    rw [List.getElem?_map, e, List.getElem?_map] at e2
    cases ea : cs[n]? with
    | none => rw [ea] at e2; cases e2
    | some a =>
      rw [ea] at e2
      have hl : n < wv.length := by rw [wl]; exact (List.getElem?_eq_some_iff.mp ea).1
      exact ⟨a, wv[n], rfl, List.getElem?_eq_getElem hl, Option.some.inj e2⟩
  have inCs : ∀ (y : Str) (a : Addr), cl.lookup y = some a → ∃ n : Nat, F.fr[n]? = some y ∧ cs[n]? = some a := fun y a e => by
    obtain ⟨n, hn⟩ := List.mem_iff_getElem?.mp (hcl2 y a e)
    obtain ⟨a', v, h1, h2, h3⟩ := cap n y hn
    rw [e] at h3
    cases h3
    exact ⟨n, hn, h1⟩
  -- the abstract heap without the cells
  have hokH : HOk X.prog X.w (hideH H cs) s.heap := HOk.hide (P := X.prog) (w := X.w) I.hok hcs
  have e0 := I.env0
  have e1 : Env0 X.prog X.w X.K X.mg X.base X.A X.stack s (hideH H cs) := ⟨e0.frames, e0.mod, fun b o e => ⟨(e0.bs b o e).1, by
      by_cases hb : b ∈ cs
      · exact hideH_in hb
      · rw [hideH_out hb]; exact (e0.bs b o e).2⟩, e0.bsz, e0.funs, fun b hb => by
      by_cases hb2 : b ∈ cs
      · exact hideH_in hb2
      · rw [hideH_out hb2]; exact e0.frf b hb, hokH, e0.bare⟩
  have CA : CellsAt cl F.fr (wv.map some) s.heap (hideH H cs) := by
    refine ⟨?_, fun y a e => ?_, fun x y a e1 e2 => ?_, fun n y e => ?_⟩
    · have := congrArg List.length hcl
      rw [List.length_map, List.length_map] at this
      rw [List.length_map, wl, this]
    · obtain ⟨n, _, hn⟩ := inCs y a e
      have ha := List.mem_of_getElem? hn
      obtain ⟨v, hv⟩ := hcs a ha
      obtain ⟨u, _, hu⟩ := cellO_at I.hok hv
      exact ⟨hideH_in ha, _, hu⟩
    · obtain ⟨n, hn, hn2⟩ := inCs x a e1
      obtain ⟨m, hm, hm2⟩ := inCs y a e2
      have en : n = m := (List.getElem?_inj (List.getElem?_eq_some_iff.mp hn2).1 c.nd).mp (hn2.trans hm2.symm)
      subst en
      rw [hn] at hm
      exact Option.some.inj hm
    · obtain ⟨a, v, h1, h2, h3⟩ := cap n y e
      refine ⟨a, h3, fun v' ev => ?_⟩
      rw [List.getElem?_map, h2] at ev
      cases ev
      exact cellO_at I.hok (hwv (a, v) (List.mem_iff_getElem?.mpr ⟨n, by rw [List.getElem?_zip_eq_some]; exact ⟨h1, h2⟩⟩))
  have rpH : Rp X.K T G (hideM M cs) (hideH H cs) := by
    refine ⟨fun b u e => ?_, fun a o e => ?_, fun p hp => ?_, rp.bs, rp.nt⟩
    · rw [hideH_out fun z => by rw [hGc b z] at e; cases e]
      exact rp.sub _ _ e
    · have ha : a ∉ cs := fun z => by rw [hideM_in z] at e; cases e
      rw [hideM_out ha] at e
      rw [hideH_out ha]
      exact rp.mt a o e
    · obtain ⟨ps, h1, h2, h3⟩ := rp.tab p hp
      refine ⟨ps, ?_, h2, fun pos cv hcv => ?_⟩
      · rw [hideH_out fun z => by
          obtain ⟨v, ev⟩ := hcs _ z
          rw [h1] at ev
          exact cellO_tbl (Option.some.inj ev).symm]
        exact h1
      · obtain ⟨c2, e1, e2⟩ := h3 pos cv hcv
        refine ⟨c2, e1, ?_⟩
        rw [hideH_out fun z => by
          obtain ⟨v, ev⟩ := hcs _ z
          rw [e2] at ev
          have ev := Option.some.inj ev
          exact cellO_code (P := X.prog) (w := X.w) (v := v) I.hok (by rw [← ev]; exact e2) ev.symm]
        exact e2
  -- back to the whole
  have back : ∀ {G2 H2 : Hp} {M2 : Mp}, Same G G2 → Rp X.K T G2 M2 H2 → (∀ a ∈ cs, H2 a = none) → Rp X.K T G2 (addM M2 (cs.zip ws)) (addH H2 (cs.zip wv)) := by
    intro G2 H2 M2 s2 rp2 n2
    have g2 : ∀ a ∈ cs, G2 a = none := fun a ha => rp2.freeG (n2 a ha)
    refine ⟨fun b u e => ?_, fun a o e => ?_, rp2.tab.ext (ext_addH fun p hp => n2 _ (memz p hp)), rp2.bs, rp2.nt⟩
    · rw [addH_out (by rw [m1]; exact fun z => by rw [g2 b z] at e; cases e)]
      exact rp2.sub _ _ e
    · by_cases ha : a ∈ cs
      · obtain ⟨v, hv⟩ := zip_of_mem ha wl
        obtain ⟨d, hd⟩ := zip_of_mem ha c.len
        have e1 := addM_in (M := M2) (by rw [m2]; exact c.nd) hd
        rw [e] at e1
        cases e1
        refine ⟨g2 a ha, _, addH_in (by rw [m1]; exact c.nd) hv, .cell ?_⟩
        obtain ⟨n, hn⟩ := List.mem_iff_getElem?.mp hv
        obtain ⟨n2, hn2⟩ := List.mem_iff_getElem?.mp hd
        rw [List.getElem?_zip_eq_some] at hn hn2
        have en : n = n2 := (List.getElem?_inj (List.getElem?_eq_some_iff.mp hn.1).1 c.nd).mp (hn.1.trans hn2.1.symm)
        subst en
        obtain ⟨y, ey, iy⟩ := iw.get hn2.2
        rw [hn.2] at ey
        cases ey
        exact iy.mono s2
      · rw [addM_out (by rw [m2]; exact ha)] at e
        rw [addH_out (by rw [m1]; exact ha)]
        exact rp2.mt a o e
  let E2 : XK := fun cls od H2 => lW X.K T W cls od σ (addH H2 (cs.zip wv)) ∨ ∃ a ∈ cs, H2 a ≠ none
  let Q2 : VK := fun v H2 => Q v (addH H2 (cs.zip wv)) ∨ ∃ a ∈ cs, H2 a ≠ none
  have kk2 : lK X.K T G (fun d M2 => R d (addM M2 (cs.zip ws))) Q2 := fun d M2 v G2 H2 q s2 rp2 i2 => by
    by_cases n2 : ∀ a ∈ cs, H2 a = none
    · exact .inl (kk _ _ _ _ _ q s2 (back s2 rp2 n2) i2)
    · exact .inr (Classical.byContradiction fun z => n2 fun a ha => Classical.byContradiction fun y => z ⟨a, ha, y⟩)
  have x2 : lX X.K T G (fun cls fs M2 => W cls fs ρ (addM M2 (cs.zip ws))) E2 := fun cls od fs M2 G2 H2 rx s2 rp2 xd => by
    by_cases n2 : ∀ a ∈ cs, H2 a = none
    · exact .inl ⟨ρ, G2, _, fs, sl.mono s2, back s2 rp2 n2, XdOk.ext (ext_addH fun p hp => n2 _ (memz p hp)) xd, rx⟩
    · exact .inr (Classical.byContradiction fun z => n2 fun a ha => Classical.byContradiction fun y => z ⟨a, ha, y⟩)
  have cellH : ∀ a ∈ cs, ∃ o, s.heap.get? a = some o ∧ hideH H cs a = none ∧ a ∉ frs X.stack := fun a ha => by
    obtain ⟨v, hv⟩ := hcs a ha
    obtain ⟨u, _, o, ho, hd⟩ := cellO_at I.hok hv
    exact ⟨o, ho, hideH_in ha, fun z => by rw [e0.frf a z] at hv; cases hv⟩
  have cval : ∀ p ∈ cs.zip wv, ∃ u, RelV p.2 u ∧ ∃ o, s.heap.get? p.1 = some o ∧ o.data = .cell (some u) := fun p hp => by
    obtain ⟨u, ru, o, ho, hd⟩ := cellO_at I.hok (hwv p hp)
    exact ⟨u, ru, o, ho, hd⟩
  refine wpAny_call (codeAny_mono (Fn.run T.base f c' cl X.A X.stack s (hideH H cs) us vs wv Q2 E2 hr e1 (by rw [hideH_out fcs]; exact hf) (by rw [hideH_out ccs]; exact hc) CA r ⟨G, _, ds, ws, _, _, rpH, i, iw, h, kk2, x2⟩) fun res s' hq => ?_)
  cases res with
  | error er =>
    refine passAt tk σ pins H s er s' I ?_
    obtain ⟨a, Bg, H2, cls, d, eu, fl, hok2, ub, na, os, ag, hE⟩ := hq
    have n2 : ∀ a ∈ cs, H2 a = none := fun b hb => let ⟨o, ho, n, _⟩ := cellH b hb; ub.free b o ho n
    have cB : ∀ b ∈ cs, ∃ o, s.heap.get? b = some o ∧ Bg.get? b = some o := fun b hb => let ⟨o, ho, n, nf⟩ := cellH b hb; ⟨o, ho, ub.keep b o ho n nf⟩
    have hE : lW X.K T W cls d σ (addH H2 (cs.zip wv)) := hE.resolve_right fun ⟨b, hb, z⟩ => z (n2 b hb)
    refine ⟨a, Bg, addH H2 (cs.zip wv), cls, d, eu, fl, ?_, ?_, ?_, os, ag, hE⟩
    · refine HOk.addAll hok2 (by rw [m1]; exact c.nd) fun p hp => ⟨n2 _ (memz p hp), ?_⟩
      obtain ⟨u, ru, o, ho, hd⟩ := cval p hp
      obtain ⟨o', ho', hB⟩ := cB _ (memz p hp)
      rw [ho] at ho'
      cases ho'
      exact ⟨u, ru, o, hB, hd⟩
    · refine ⟨fun b o e n hb => ub.keep b o e (by
          by_cases hb2 : b ∈ cs
          · exact hideH_in hb2
          · rw [hideH_out hb2]; exact n) hb, ub.slot, fun b o e n => ?_, ub.there, fun b xs e => ?_, fun b ob xs e => ?_, fun b ps e => ?_⟩
      · have nb : b ∉ cs := fun z => by
          obtain ⟨v, ev⟩ := hcs b z
          rw [n] at ev; cases ev
        rw [addH_out (by rw [m1]; exact nb)]
        exact ub.free b o e (by rw [hideH_out nb]; exact n)
      · have nb : b ∉ cs := fun z => by
          obtain ⟨v, ev⟩ := hcs b z
          rw [e] at ev; exact cellO_tup (Option.some.inj ev).symm
        rw [addH_out (by rw [m1]; exact nb)]
        exact ub.tups b xs (by rw [hideH_out nb]; exact e)
      · have nb : b ∉ cs := fun z => by
          obtain ⟨v, ev⟩ := hcs b z
          rw [e] at ev; exact cellO_frz (Option.some.inj ev).symm
        rw [addH_out (by rw [m1]; exact nb)]
        exact ub.frzs b ob xs (by rw [hideH_out nb]; exact e)
      · have nb : b ∉ cs := fun z => by
          obtain ⟨v, ev⟩ := hcs b z
          rw [e] at ev; exact cellO_tbl (Option.some.inj ev).symm
        rw [addH_out (by rw [m1]; exact nb)]
        exact ub.tbls b ps (by rw [hideH_out nb]; exact e)
    · rw [addH_out (by
        rw [m1]
        intro z
        obtain ⟨o, _, hB⟩ := cB a z
        rw [fl.2.1] at hB
        cases hB)]
      exact na
  | ok fl =>
    cases fl with
    | ret u =>
      obtain ⟨v, H2, os, bare, un, hok2, rv, hQ⟩ := hq
      have n2 : ∀ a ∈ cs, H2 a = none := fun b hb => let ⟨o, ho, n, _⟩ := cellH b hb; un.free b o ho n (by simp)
      have hQ : Q v (addH H2 (cs.zip wv)) := hQ.resolve_right fun ⟨b, hb, z⟩ => z (n2 b hb)
      refine I.after ⟨v, addH H2 (cs.zip wv), os, bare, ?_, ?_, rv, hQ⟩
      · have un1 : Un (frs X.stack) [] H H2 s.heap s'.heap := by
          refine ⟨fun b o e n hb hx => un.keep b o e (by
              by_cases hb2 : b ∈ cs
              · exact hideH_in hb2
              · rw [hideH_out hb2]; exact n) hb hx, fun b o e n hb hx => un.slot b o e (by
              by_cases hb2 : b ∈ cs
              · exact hideH_in hb2
              · rw [hideH_out hb2]; exact n) hb hx, fun b o e n hx => un.free b o e (by
              by_cases hb2 : b ∈ cs
              · exact hideH_in hb2
              · rw [hideH_out hb2]; exact n) hx, un.there, fun b xs e => ?_, fun b ob xs e => ?_, fun b ps e => ?_⟩
          · have nb : b ∉ cs := fun z => by
              obtain ⟨v, ev⟩ := hcs b z
              rw [e] at ev; exact cellO_tup (Option.some.inj ev).symm
            exact un.tups b xs (by rw [hideH_out nb]; exact e)
          · have nb : b ∉ cs := fun z => by
              obtain ⟨v, ev⟩ := hcs b z
              rw [e] at ev; exact cellO_frz (Option.some.inj ev).symm
            exact un.frzs b ob xs (by rw [hideH_out nb]; exact e)
          · have nb : b ∉ cs := fun z => by
              obtain ⟨v, ev⟩ := hcs b z
              rw [e] at ev; exact cellO_tbl (Option.some.inj ev).symm
            exact un.tbls b ps (by rw [hideH_out nb]; exact e)
        exact Un.addAll un1 (by rw [m1]; exact c.nd) fun p hp => ⟨n2 _ (memz p hp), .inr (by
          obtain ⟨v, ev⟩ := hcs _ (memz p hp)
          rw [ev]
          simp)⟩
      · refine HOk.addAll hok2 (by rw [m1]; exact c.nd) fun p hp => ⟨n2 _ (memz p hp), ?_⟩
        obtain ⟨u, ru, o, ho, hd⟩ := cval p hp
        obtain ⟨o', ho', n, nf⟩ := cellH _ (memz p hp)
        rw [ho] at ho'
        cases ho'
        exact ⟨u, ru, o, un.keep _ o ho n nf (by simp), hd⟩
    | next => exact False.elim hq
    | brk => exact False.elim hq
    | cont => exact False.elim hq
end
end SD
namespace SD
open PySem PySem.Spec PyProof.Rows L2 NdefX LamX

/-- what is called is a function: one made of a nested def, or one of the module -/
def IsFnD (K : PySem.W.Frag) (M : Mp) (g : D) : Prop := ∃ f, g = .ref f ∧ ((∃ F cl, M f = some (.fn F cl)) ∨ ∃ o fd, K.lookup f = some o ∧ o.data = .func fd)
structure CallV (X : Cx) (T : TB) (W : DW) (rd : D → List D → Mp → DK → DX → Prop) : Prop where
  run : ∀ (pins : List (Addr × Obj)) (s : Shared) (σ : St) (H : Hp) (ρ : DEnv) (G : Hp) (M : Mp) (f : Addr) (ds : List D) (vs : List V) (us : List Value) (R : DK) (Q : VK), Inv X pins σ H s → Sl X.K G ρ σ → Rp X.K T G M H → IsL X.K G vs ds → Vals vs us →
    rd (.ref f) ds M R (fun cls fs M' => W cls fs ρ M') → lK X.K T G R Q → wpAny (model X.prog X.w) X.A (call (.ref f) us) (EP X pins σ Q) X.xe s
theorem CallV.or {X : Cx} {T : TB} {W : DW} {rd rd' : D → List D → Mp → DK → DX → Prop} (h : CallV X T W rd) (h' : CallV X T W rd') : CallV X T W fun g ds M R RX => rd g ds M R RX ∨ rd' g ds M R RX :=
  ⟨fun pins s σ H ρ G M f ds vs us R Q I sl rp i r q k => q.elim (fun q => h.run pins s σ H ρ G M f ds vs us R Q I sl rp i r q k) fun q => h'.run pins s σ H ρ G M f ds vs us R Q I sl rp i r q k⟩
theorem CallV.clo {X : Cx} {T : TB} {k : Nat} {F : CloT} {sp : List D → DSp} {W : DW} (Fn : CloOk X.prog X.w X.K X.mg X.base T.tabs k F sp) (hr : Rm k X.A) (tk : Takes X (lW X.K T W)) : CallV X T W (rdClo F sp) :=
  ⟨fun pins s σ H ρ G M f ds vs us R Q I sl rp i r ⟨f', cs, ws, e, c, q⟩ k => by
    cases e
    exact run_clo Fn hr tk I sl rp c r i q k⟩
def rdGl (fa : Addr) (dd : List D) (sp : DSp) : D → List D → Mp → DK → DX → Prop := fun g ds M R RX => g = .ref fa ∧ sp (ds ++ dd) M R RX
theorem CallV.gl {X : Cx} {T : TB} {k : Nat} {fa : Addr} {ps : List Str} {dd : List D} {sp : DSp} {W : DW} (F : Dfn X.prog X.w X.K X.mg X.base T.tabs k fa ps dd sp) (hr : Rm k X.A) (tk : Takes X (lW X.K T W)) : CallV X T W (rdGl fa dd sp) :=
  ⟨fun pins s σ H ρ G M f ds vs us R Q I sl rp i r ⟨e, q⟩ k => by
    cases e
    obtain ⟨⟨fd, dv, dvs, F, hb, hd, hdd⟩, hk⟩ := F
    exact run_fnG (E := WE (lW X.K T W)) (F T.base) hr hb hd (passAt tk σ) I r ⟨G, M, _, _, _, rp, i.append (hdd G), q, k, lX_of sl (Same.refl G)⟩⟩
theorem fnAt_d {X : Cx} {T : TB} {pins : List (Addr × Obj)} {σ : St} {H G : Hp} {M : Mp} {s : Shared} {g : D} {v : V} (I : Inv X pins σ H s) (rp : Rp X.K T G M H) (i : Is X.K G v g) (h : IsFnD X.K M g) : ∃ f, g = .ref f ∧ v = .ref f ∧ PySem.W.FnAt f s.heap := by
  obtain ⟨f, rfl, h⟩ := h
  cases i
  refine ⟨f, rfl, rfl, ?_⟩
  rcases h with ⟨F, cl, e⟩ | ⟨o, fd, e, d⟩
  · obtain ⟨_, u, hu, oi⟩ := rp.mt _ _ e
    cases oi
    exact fnAt_of I hu
  · obtain ⟨c, dd, data, sl⟩ := o
    have d : data = .func fd := d
    subst d
    exact ⟨_, _, _, _, I.kIn _ _ e⟩

/-- o.attr(e, ..), attr an attribute of the instance -/
def dCallA (K : PySem.W.Frag) (f : Str) (rd : D → List D → Mp → DK → DX → Prop) (W : DW) (to : DE) (ta : DA) : DE := fun ρ M Q => to ρ M fun x M1 => ∃ C fs g, insOf M1 x = some (C, fs) ∧ FldOk K C f ∧ fs.lookup f = some g ∧ IsFnD K M1 g ∧
  ta ρ M1 fun ds M2 => IsFnD K M2 g ∧ rd g ds M2 Q fun cls fs M' => W cls fs ρ M'
section
variable {X : Cx} {T : TB} {W : DW} {rd : D → List D → Mp → DK → DX → Prop} {e o : Expr} {es : List Expr} {to : DE} {ta : DA} {pos apos p : Pos} {m : Str}
theorem xcallA {pl : Sem Bool} (cv : CallV X T W rd) (ho : XE X T o to) (ha : XA X T (e :: es) ta)
    (hst : starEach (e :: es) X.env = (false, eval e X.env) :: starEach es X.env := by rfl) (hpl : (backTo pos (starEach es X.env)).any (·.1) = false := by rfl)
    (ht : eval (.Call (.Attribute o m apos) (e :: es) [] pos) X.env = (do
      let ov ← eval o X.env
      standAt apos.atName
      let (f, first) ← holding [ov] (getMethod ov m pl)
      callWith pos f first (backTo pos (starEach (e :: es) X.env)) (backToKw pos (keywordEach [] X.env))) := by rfl) :
    XE X T (.Call (.Attribute o m apos) (e :: es) [] pos) (dCallA X.K m rd W to ta) := by
  refine ⟨fun pins s σ H Q I ⟨ρ, G, M, R, sl, rp, h, k⟩ => ?_⟩
  refine PySem.W.methodCall_KW (pl := pl) (thn (ho.run pins s σ H (fun x H1 => ∃ a C dx vs v g G1 M1, x = .ref a ∧ H1 a = some (.ins C dx vs) ∧ FldOk X.K C m ∧ vs.lookup m = some v ∧ Same G G1 ∧ Rp X.K T G1 M1 H1 ∧ Is X.K G1 v g ∧ IsFnD X.K M1 g ∧
      ta ρ M1 fun ds M2 => IsFnD X.K M2 g ∧ rd g ds M2 R fun cls fs M' => W cls fs ρ M') I
    ⟨ρ, G, M, _, sl, rp, h, fun x M1 v G1 H1 ⟨C, fs, g, ei, ok, el, fg, q1⟩ s1 rp1 i1 => ?_⟩) fun u s1 ⟨x, H1, I1, rx, a, C, dx, vs, v, g, G1, M1, ex, ea, ok, l, s1', rp1, ig, fg, q⟩ => ?_) ht
  · obtain ⟨a, dx, vs, rfl, ha, l⟩ := insOf_ok rp1 i1 ei
    obtain ⟨y, ey, iy⟩ := l.lookup el
    exact ⟨a, C, dx, vs, y, g, G1, M1, rfl, ha, ok, ey, s1, rp1, iy, fg, q1⟩
  · subst ex
    obtain rfl : u = Value.ref a := rx
    obtain ⟨mA, O, r, _, _, _⟩ := ins_get I1.hok ea
    obtain ⟨od, J, _⟩ := O.look
    refine PySem.W.method_usual I1.kIn J (PySem.W.plainGet_of (ok.cl.get m)).1 (PySem.W.plainGet_of (ok.cl.get m)).2 (r := none) ok.no rfl (getattr_ok I1 ea ok.cl ok.no l fun u2 s2 I2 ru => ?_)
    obtain ⟨f, rfl, rfl, fa⟩ := fnAt_d I2 rp1 ig fg
    obtain rfl : u2 = Value.ref f := ru
    refine PySem.W.callWith_F (first := []) fa (thn (ha.run pos pins s2 σ H1 (fun vs H2 => ∃ ds G2 M2, Same G G2 ∧ Rp X.K T G2 M2 H2 ∧ IsL X.K G2 vs ds ∧ IsFnD X.K M2 (.ref f) ∧ rd (.ref f) ds M2 R fun cls fs M' => W cls fs ρ M') I2
      ⟨ρ, G1, M1, _, sl.mono s1', rp1, q, fun ds M2 vs G2 H2 q2 s2 rp2 i2 => ⟨ds, G2, M2, s1'.trans s2, rp2, i2, q2.1, q2.2⟩⟩) fun us s3 ⟨vs, H2, I3, r, ds, G2, M2, s3', rp2, i2, fg2, q2⟩ => ?_) hst hpl
    obtain ⟨f2, e1, e2, fa2⟩ := fnAt_d I3 rp2 (.ref f) fg2
    cases e1
    exact ⟨fa2, cv.run pins s3 σ H2 ρ G2 M2 f ds vs us R Q I3 (sl.mono s3') rp2 i2 r q2 (k.mono s3')⟩
/-- f(e, ..), f a name of the def that holds such a value -/
def dCallN (K : PySem.W.Frag) (rd : D → List D → Mp → DK → DX → Prop) (W : DW) (to : DE) (ta : DA) : DE := fun ρ M Q => to ρ M fun g M1 => IsFnD K M1 g ∧ ta ρ M1 fun ds M2 => IsFnD K M2 g ∧ rd g ds M2 Q fun cls fs M' => W cls fs ρ M'
theorem xcallN {x : Str} (cv : CallV X T W rd) (ho : XE X T (.Name x p) to) (ha : XA X T (e :: es) ta)
    (hst : starEach (e :: es) X.env = (false, eval e X.env) :: starEach es X.env := by rfl) (hpl : (backTo pos (starEach es X.env)).any (·.1) = false := by rfl) :
    XE X T (.Call (.Name x p) (e :: es) [] pos) (dCallN X.K rd W to ta) := by
  refine ⟨fun pins s σ H Q I ⟨ρ, G, M, R, sl, rp, h, k⟩ => ?_⟩
  refine wpAny_Call_Name_kw (thn (ho.run pins s σ H (fun x H1 => ∃ g G1 M1, Same G G1 ∧ Rp X.K T G1 M1 H1 ∧ Is X.K G1 x g ∧ IsFnD X.K M1 g ∧ ta ρ M1 fun ds M2 => IsFnD X.K M2 g ∧ rd g ds M2 R fun cls fs M' => W cls fs ρ M') I
    ⟨ρ, G, M, _, sl, rp, h, fun x M1 v G1 H1 ⟨fg, q1⟩ s1 rp1 i1 => ⟨x, G1, M1, s1, rp1, i1, fg, q1⟩⟩) fun u s1 ⟨v, H1, I1, rv, g, G1, M1, s1', rp1, ig, fg, q⟩ => ?_)
  obtain ⟨f, rfl, rfl, fa⟩ := fnAt_d I1 rp1 ig fg
  obtain rfl : u = Value.ref f := rv
  refine PySem.W.callWith_F (first := []) fa (thn (ha.run pos pins s1 σ H1 (fun vs H2 => ∃ ds G2 M2, Same G G2 ∧ Rp X.K T G2 M2 H2 ∧ IsL X.K G2 vs ds ∧ IsFnD X.K M2 (.ref f) ∧ rd (.ref f) ds M2 R fun cls fs M' => W cls fs ρ M') I1
    ⟨ρ, G1, M1, _, sl.mono s1', rp1, q, fun ds M2 vs G2 H2 q2 s2 rp2 i2 => ⟨ds, G2, M2, s1'.trans s2, rp2, i2, q2.1, q2.2⟩⟩) fun us s3 ⟨vs, H2, I3, r, ds, G2, M2, s3', rp2, i2, fg2, q2⟩ => ?_) hst hpl
  obtain ⟨f2, e1, e2, fa2⟩ := fnAt_d I3 rp2 (.ref f) fg2
  cases e1
  exact ⟨fa2, cv.run pins s3 σ H2 ρ G2 M2 f ds vs us R Q I3 (sl.mono s3') rp2 i2 r q2 (k.mono s3')⟩
end

def dNdef (i : Nat) (F : CloT) : DS := fun E ρ M => ∀ f cl, M f = none → (∀ y a, List.lookup y cl = some a → False) → E.nx (ρ.set i (some (.ref f))) (updM M f (.fn F cl))
theorem CloAt.none {M : Mp} {f : Addr} {F : CloT} {cl : List (Str × Addr)} (e : M f = some (.fn F cl)) (h : ∀ y a, List.lookup y cl = some a → False) (hf : F.fr = []) : CloAt M f F [] [] :=
  ⟨⟨cl, e, by rw [hf]; rfl, fun y a z => (h y a z).elim⟩, List.nodup_nil, by rw [hf]; exact List.nodup_nil, fun p hp => by simp at hp, rfl⟩
section
variable {X : Cx} {T : TB}
theorem sndef {F : CloT} {nm : Nat → Nat → Str} {c Pt : Addr} {pos : Pos} {i : Nat} (hst : F.st = .FunctionDef F.name (C8.fnArgs F.st) (C8.fnBody F.st) [] none [] (C8.fnScope F.st) none F.name pos) (TBt : TabB X.base X.mg c Pt) (hcode : X.env.code = .ref c) (hm : (Pt, nm) ∈ T.tabs)
    (hq : X.env.qual ++ F.name = F.qual) (hn : nm pos.line pos.col = F.qual) (hu : ∀ p ∈ T.tabs, p.1 = Pt → p.2 = nm) (hfree : ∀ y ∈ (C8.fnScope F.st).names, y.2 ≠ .free) (hd0 : (C8.fnArgs F.st).defaults = []) (hk0 : (C8.fnArgs F.st).kw_defaults = []) (ha : annTrees (C8.fnArgs F.st) none X.env = [])
    (hN : X.N.Nodup) (hi : X.N[i]? = some F.name) (hx : Loc X.env.scope F.name) (hf : X.fn F.name = true ∨ X.env.scope.names.lookup F.name = some .local) : XS X T F.st (dNdef i F) := by
  refine ⟨fun pins s σ H D I ⟨ρ, G, M, E, sl, rp, h, k⟩ => ?_⟩
  have rule := ps_ndefMS (X := X) (T := T.tabs) (nm := nm) (c := c) (P := Pt) (i := i) hst TBt hcode hm (hn.trans hq.symm) hu (fun y hy e => absurd e (hfree y hy)) hd0 hk0 ha hN hi hx hf
  refine wpAny_mono (rule.run pins s σ H { nx := fun σ' H1 => ∃ f c', σ' = σ.set i (some (.ref f)) ∧ ExtN H H1 ∧ TabsN T.tabs H1 ∧ H f = none ∧ H1 f = some (FnO f (NF.of F.st F.name (X.env.qual ++ F.name) (cloFrom X.env.cells (C8.fnScope F.st).names []) c')) ∧ H1 c' = some (CodeO c' (X.env.qual ++ F.name)), rt := fun _ _ => False } I ⟨rp.tab, fun f c' H1 a b c d e g => ⟨f, c', rfl, a, c, d, e, g⟩⟩) (fun fl s2 hq2 => ?_) fun _ _ z => z
  cases fl with
  | ret v => obtain ⟨_, _, _, _, _, z⟩ := hq2; exact z.elim
  | brk => obtain ⟨_, _, _, z⟩ := hq2; exact z.elim
  | cont => obtain ⟨_, _, _, z⟩ := hq2; exact z.elim
  | next =>
    obtain ⟨σ1, H1, I1, f, c', rfl, eN, T1, hf0, hf1, hc1⟩ := hq2
    rw [hq] at hf1 hc1
    have ne_c : f ≠ c' := fun z => by
      obtain ⟨od, sl, doc, pm, ctv, ho⟩ := fnO_at I1.hok hf1
      obtain ⟨⟨oc, vs, t, h1, h2, h3⟩, _, _⟩ := I1.hok c' _ hc1
      rw [z, h1] at ho
      cases ho
      cases h2
    have nG : ∀ a o, M a = some o → a ≠ c' := fun a o e z => by
      subst z
      obtain ⟨_, u, hu, oi⟩ := rp.mt a o e
      have e1 := eN _ _ hu oi.notbl
      rw [hc1] at e1
      have e1 := Option.some.inj e1
      obtain ⟨⟨oc, vs, t, h1, h2, h3⟩, _, _⟩ := I1.hok a _ hc1
      cases oi with
      | lst _ => unfold CodeO at e1; cases e1
      | ins _ => unfold CodeO at e1; cases e1
      | dK _ => unfold CodeO at e1; cases e1
      | fn _ =>
        rw [e1] at hc1
        obtain ⟨od, sl, doc, pm, ctv, ho⟩ := fnO_at I1.hok hc1
        rw [h1] at ho
        cases ho
        cases h2
      | cell _ =>
        rw [e1] at hc1
        obtain ⟨u, _, o, ho, hd⟩ := cellO_at I1.hok hc1
        rw [h1] at ho
        cases ho
        rw [hd] at h2
        cases h2
    have sG : Same G (upd G c' (CodeO c' F.qual)) := fun b u e => by
      by_cases hb : b = c'
      · subst hb
        have e1 := eN _ _ (rp.sub _ _ e) fun ps z => rp.nt b ps (by rw [e, z])
        rw [hc1] at e1
        rw [upd_same]; exact e1
      · rw [upd_ne hb]; exact e
    have rp2 : Rp X.K T (upd G c' (CodeO c' F.qual)) (updM M f (.fn F (cloFrom X.env.cells (C8.fnScope F.st).names []))) H1 := by
      refine ⟨fun b u e => ?_, fun a o e => ?_, T1, rp.bs.trans sG, nt_upd rp.nt fun ps z => codeO_ne ps z⟩
      · by_cases hb : b = c'
        · subst hb
          rw [upd_same] at e
          cases e
          exact hc1
        · rw [upd_ne hb] at e
          exact eN _ _ (rp.sub _ _ e) fun ps z => rp.nt b ps (by rw [e, z])
      · by_cases hf2 : a = f
        · subst hf2
          rw [updM_same] at e
          cases e
          exact ⟨by rw [upd_ne ne_c]; exact rp.freeG hf0, _, hf1, .fn upd_same⟩
        · rw [updM_ne hf2] at e
          obtain ⟨g, u, hu, oi⟩ := rp.mt a o e
          exact ⟨by rw [upd_ne (nG a o e)]; exact g, u, eN _ _ hu oi.notbl, oi.mono sG⟩
    refine ⟨_, H1, I1, k.nx _ _ _ _ _ (h f _ (rp.freeM hf0) fun y a z => ?_) sG ((sl.mono sG).set i (.ref f)) rp2⟩
    rcases cloFrom_mem (PySem.mem_of_lookup z) with q | ⟨q, _⟩
    · cases q
    · exact hfree _ q rfl
end

theorem Inv.fr {X : Cx} {pins : List (Addr × Obj)} {σ : St} {H : Hp} {s : Shared} (I : Inv X pins σ H s) : ∃ m, Fr X.base X.env.locals s.heap m := by
  obtain ⟨m, hn, _⟩ := I.loc
  exact ⟨m, hn, fun b o e => (I.bs b o e).1, Nat.le_trans I.ok.bsz I.ok.above⟩
section
variable {X : Cx} {T : TB} {k : Nat} {f C : Addr} {ps : List Str} {sp : DSp} {W : DW}
/-- the class's special method -/
structure Spec (K : PySem.W.Frag) (C : Addr) (m : Str) (f : Addr) : Prop where
  at_ : PySem.W.findIn K (.ref C) m = some (some (.ref f))
  fn : PySem.W.isFn K (.ref f) = true
theorem CallR.or {g : Value} {r r' : List V → Hp → VK → Prop} (h : CallR X g r) (h' : CallR X g r') : CallR X g fun vs H Q => r vs H Q ∨ r' vs H Q := fun pins s σ H xs us Q I r q => q.elim (h pins s σ H xs us Q I r) (h' pins s σ H xs us Q I r)
theorem CallC.or {K : PySem.W.Frag} {r r' : List V → Hp → VK → Prop} {rd rd' : DC} (h : CallC K T r rd) (h' : CallC K T r' rd') : CallC K T (fun vs H Q => r vs H Q ∨ r' vs H Q) fun ds M Q => rd ds M Q ∨ rd' ds M Q :=
  fun G M H vs ds R Q rp i q k => q.imp (fun q => h G M H vs ds R Q rp i q k) fun q => h' G M H vs ds R Q rp i q k
/-- len(x), x an instance with __len__ -/
def rLenO (X : Cx) (T : TB) (C : Addr) (sp : DSp) : List V → Hp → VK → Prop := fun vs H Q => ∃ a dx fs, vs = [.ref a] ∧ H a = some (.ins C dx fs) ∧ toSp X.K T sp [.ref a] H (fun v H' => ∃ n : Int, v = .int n ∧ 0 ≤ n ∧ n < 2 ^ 63 ∧ Q v H') fun _ _ _ => False
theorem call_lenO (F : Dfn X.prog X.w X.K X.mg X.base T.tabs k f ps [] sp) (hr : Rm (k + 1) X.A) (c : Spec X.K C "__len__" f) : CallR X (.builtin "len") (rLenO X T C sp) := by
  obtain ⟨⟨fd, ds, dvs, F, hb, hd, hdd⟩, hk⟩ := F
  have hds : dvs = [] := List.length_eq_zero_iff.mp (by simpa using (hdd fun _ => none).length)
  subst hds
  cases hd
  intro pins s σ H xs us Q I r ⟨a, dx, fs, e, ea, q⟩
  subst e
  obtain rfl := Vals.ref1 r
  obtain ⟨mA, O, _⟩ := ins_get I.hok ea
  obtain ⟨od, J, _⟩ := O.look
  obtain ⟨m, Fr0⟩ := Inv.fr I
  have hl : ([Value.ref a] ++ ([] : List Value)).length = ps.length := by
    rw [← (F T.base).len _ _ _ _ q]; rfl
  refine PySem.W.len_K Fr0 I.ok.mod.kin J c.at_ c.fn (wpAny_call (codeAny_mono ((F T.base).run X.A.in1 X.stack s H ⟨[.ref a], []⟩ [.ref a] [.ref a] _ _ hr.in1 I.env0.in1 (hb s [.ref a] I.kIn hl) (.cons rfl .nil) q) fun r s' hq => ?_))
  cases r with
  | error e => exact False.elim (let ⟨_, _, _, _, _, _, _, _, _, _, _, _, z⟩ := hq; z)
  | ok fl =>
    cases fl with
    | ret u =>
      obtain ⟨v, H', I2, rv, n, e, h0, h1, q⟩ := I.after hq
      subst e
      obtain ⟨t, rfl⟩ := rv
      exact ⟨⟨h0, h1⟩, .int n, H', I2.tok _, ⟨_, rfl⟩, q⟩
    | next => exact False.elim hq
    | brk => exact False.elim hq
    | cont => exact False.elim hq
def dLenO (C : Addr) (sp : DSp) : DC := fun ds M Q => match ds with
  | [x] => ∃ fs, insOf M x = some (C, fs) ∧ sp [x] M (fun d M' => ∃ n : Int, d = .int n ∧ 0 ≤ n ∧ n < 2 ^ 63 ∧ Q d M') fun _ _ _ => False
  | _ => False
theorem cc_lenO : CallC X.K T (rLenO X T C sp) (dLenO C sp) := by
  intro G M H vs ds R Q rp i h k
  unfold dLenO at h
  split at h
  · obtain ⟨v, rfl, i1⟩ := isL1 i
    obtain ⟨fs, ei, h⟩ := h
    obtain ⟨a, dx, vs, rfl, ha, l⟩ := insOf_ok rp i1 ei
    refine ⟨a, dx, vs, rfl, ha, G, M, _, _, _, rp, .cons i1 .nil, h, fun d M' v G' H' ⟨n, e, h0, h1, q⟩ s2 rp2 i2 => ?_, fun _ _ _ _ _ _ z _ _ _ => z.elim⟩
    subst e
    cases i2
    exact ⟨n, rfl, h0, h1, k _ _ _ _ _ q s2 rp2 (.int n)⟩
  · exact h.elim
theorem xlenO {e : Expr} {ta : DA} {p pos : Pos} (F : Dfn X.prog X.w X.K X.mg X.base T.tabs k f ps [] sp) (hr : Rm (k + 1) X.A) (c : Spec X.K C "__len__" f) (hm : X.mg "len" = none) (ha : XA X T [e] ta) (hg : Gl X "len" := by rfl)
    (he : starEach (e :: []) X.env = (false, eval e X.env) :: starEach [] X.env := by rfl) (hpl : (backTo pos (starEach [] X.env)).any (·.1) = false := by rfl) : XE X T (.Call (.Name "len" p) [e] [] pos) (dCB (fun ds M Q => dLen ds M Q ∨ dLenO C sp ds M Q) ta) :=
  xcallB (CallR.or call_len (call_lenO F hr c)) (cc_len.or cc_lenO) hg hm PySem.boot_len ha (by decide) (by decide) he hpl
end
end SD
namespace SD
open PySem PySem.Spec PyProof.Rows L2 NdefX LamX

section
variable {X : Cx} {T : TB} {k : Nat} {f C : Addr} {ps : List Str} {sp : DSp} {W : DW} {pos : Pos}
def SetC (K : PySem.W.Frag) (T : TB) (r : TSet) (rd : D → D → D → Mp → (Mp → Prop) → Prop) : Prop := ∀ G M H o i v x y z (R : Mp → Prop) (Q : Hp → Prop), Rp K T G M H → Is K G o x → Is K G i y → Is K G v z → rd x y z M R → (∀ M' G' H', R M' → Same G G' → Rp K T G' M' H' → Q H') → r o i v H Q
theorem sc_list : SetC X.K T rSetL dSetL := fun G M H o i v x y z R Q rp io ii iv h k => setL_ok rp io ii iv h fun M' H' r rp' => k M' G H' r (Same.refl G) rp'
def rSetO (X : Cx) (T : TB) (C : Addr) (sp : DSp) : TSet := fun o i v H Q => ∃ a dx fs, o = .ref a ∧ H a = some (.ins C dx fs) ∧ toSp X.K T sp [.ref a, i, v] H (fun _ H' => Q H') fun _ _ _ => False
theorem set_own (F : Dfn X.prog X.w X.K X.mg X.base T.tabs k f ps [] sp) (hr : Rm k X.A) (c : Spec X.K C "__setitem__" f) (hq : PySem.W.noSeq X.K C = true) : PSet X (rSetO X T C sp) := by
  obtain ⟨⟨fd, ds, dvs, F, hb, hd, hdd⟩, hk⟩ := F
  have hds : dvs = [] := List.length_eq_zero_iff.mp (by simpa using (hdd fun _ => none).length)
  subst hds
  cases hd
  intro pins s σ H o i v ov iv u Q I ro ri rv ⟨a, dx, fs, e, ea, q⟩
  subst e
  obtain rfl : ov = Value.ref a := ro
  obtain ⟨mA, O, _⟩ := ins_get I.hok ea
  obtain ⟨od, J, _⟩ := O.look
  obtain ⟨m, Fr0⟩ := Inv.fr I
  have hl : ([Value.ref a, iv, u] ++ ([] : List Value)).length = ps.length := by
    rw [← (F T.base).len _ _ _ _ q]; rfl
  refine PySem.W.ksp_setItem Fr0 I.ok.mod.kin J hq c.at_ c.fn (wpAny_call (codeAny_mono ((F T.base).run X.A X.stack s H ⟨[.ref a, iv, u], []⟩ [.ref a, iv, u] [.ref a, i, v] _ _ hr I.env0 (hb s [.ref a, iv, u] I.kIn hl) (.cons rfl (.cons ri (.cons rv .nil))) q) fun r s' hq => ?_))
  cases r with
  | error e => exact False.elim (let ⟨_, _, _, _, _, _, _, _, _, _, _, _, z⟩ := hq; z)
  | ok fl =>
    cases fl with
    | ret u =>
      obtain ⟨v, H', I2, rv, q⟩ := I.after hq
      exact ⟨H', I2, q⟩
    | next => exact False.elim hq
    | brk => exact False.elim hq
    | cont => exact False.elim hq
def dSetO (C : Addr) (sp : DSp) : D → D → D → Mp → (Mp → Prop) → Prop := fun o i v M Q => ∃ fs, insOf M o = some (C, fs) ∧ sp [o, i, v] M (fun _ M' => Q M') fun _ _ _ => False
theorem sc_own : SetC X.K T (rSetO X T C sp) (dSetO C sp) := fun G M H o i v x y z R Q rp io ii iv ⟨fs, ei, h⟩ k => by
  obtain ⟨a, dx, vs, rfl, ha, l⟩ := insOf_ok rp io ei
  exact ⟨a, dx, vs, rfl, ha, G, M, _, _, _, rp, .cons io (.cons ii (.cons iv .nil)), h, fun d M' v G' H' q s2 rp2 _ => k M' G' H' q s2 rp2, fun _ _ _ _ _ _ z _ _ _ => z.elim⟩
def dStoR (rd : D → D → D → Mp → (Mp → Prop) → Prop) (to ti te : DE) : DS := fun E ρ M => te ρ M fun v M1 => to ρ M1 fun o M2 => ti ρ M2 fun i M3 => rd o i v M3 fun M4 => E.nx ρ M4
theorem sstoR {o i e : Expr} {to ti te : DE} {tpos : Pos} {r : TSet} {rd : D → D → D → Mp → (Mp → Prop) → Prop} (hset : PSet X r) (c : SetC X.K T r rd) (ho : XE X T o to) (hi : XE X T i ti) (he : XE X T e te)
    (ha : ∀ v, assign (.Subscript o i tpos) X.env v = (do
      let ov ← holding [v] (eval o X.env)
      let iv ← holding [v, ov] (eval i X.env)
      standAt tpos
      holding [v, ov, iv] (setItem ov iv v)
      release [v, ov, iv] []) := by intro _; rfl)
    (hs : swapsWithSole [.Subscript o i tpos] e pos.line X.env = pure false := by rfl) (hw : swappedStores [.Subscript o i tpos] e X.env = pure none := by rfl)
    (h1 : (assignEach [.Subscript o i tpos] X.env).map (·.2) = [assign (.Subscript o i tpos) X.env] := by rfl) : XS X T (.Assign [.Subscript o i tpos] e pos) (dStoR rd to ti te) :=
  (ps_asg he (pg_sub ho hi hset ha) hs hw h1).imp fun D σ H ⟨ρ, G, M, E, sl, rp, h, k⟩ => ⟨ρ, G, M, _, sl, rp, h, fun v M1 vv G1 H1 q1 s1 rp1 i1 => ⟨ρ, G1, M1, _, sl.mono s1, rp1, q1, fun x M2 xv G2 H2 q2 s2 rp2 i2 =>
    ⟨ρ, G2, M2, _, sl.mono (s1.trans s2), rp2, q2, fun y M3 yv G3 H3 q3 s3 rp3 i3 => c G3 M3 H3 _ _ _ _ _ _ _ _ rp3 (i2.mono s3) i3 (i1.mono (s2.trans s3)) q3 fun M4 G4 H4 q4 s4 rp4 => by
      have ss := s1.trans (s2.trans (s3.trans s4))
      exact k.nx _ _ _ _ _ q4 ss (sl.mono ss) rp4⟩⟩⟩

def rIaddO (X : Cx) (T : TB) (C : Addr) (sp : DSp) : TIp := fun x y H Q => ∃ a dx fs, x = .ref a ∧ H a = some (.ins C dx fs) ∧ toSp X.K T sp [.ref a, y] H Q fun _ _ _ => False
theorem ip_own (F : Dfn X.prog X.w X.K X.mg X.base T.tabs k f ps [] sp) (hr : Rm k X.A) (c : Spec X.K C "__iadd__" f) (hq : PySem.W.selfFirst X.K C = true) : PIp X .Add (rIaddO X T C sp) := by
  obtain ⟨⟨fd, ds, dvs, F, hb, hd, hdd⟩, hk⟩ := F
  have hds : dvs = [] := List.length_eq_zero_iff.mp (by simpa using (hdd fun _ => none).length)
  subst hds
  cases hd
  intro pins s σ H x y v u Q I rx ry ⟨a, dx, fs, e, ea, q⟩
  subst e
  obtain rfl : v = Value.ref a := rx
  obtain ⟨mA, O, _⟩ := ins_get I.hok ea
  obtain ⟨od, J, _⟩ := O.look
  obtain ⟨m, Fr0⟩ := Inv.fr I
  have hl : ([Value.ref a, u] ++ ([] : List Value)).length = ps.length := by
    rw [← (F T.base).len _ _ _ _ q]; rfl
  refine PySem.W.ksp_inplace (op := .Add) Fr0 I.ok.mod.kin J hq c.at_ c.fn (wpAny_call (codeAny_mono ((F T.base).run X.A X.stack s H ⟨[.ref a, u], []⟩ [.ref a, u] [.ref a, y] _ _ hr I.env0 (hb s [.ref a, u] I.kIn hl) (.cons rfl (.cons ry .nil)) q) fun r s' hq => ?_))
  cases r with
  | error e => exact False.elim (let ⟨_, _, _, _, _, _, _, _, _, _, _, _, z⟩ := hq; z)
  | ok fl =>
    cases fl with
    | ret u =>
      obtain ⟨v, H', I2, rv, q⟩ := I.after hq
      cases v with
      | non => cases rv; exact ⟨.non, H', I2, rfl, q⟩
      | bl b => cases rv; exact ⟨.bl b, H', I2, rfl, q⟩
      | int i => obtain ⟨t, rfl⟩ := rv; exact ⟨.int i, H', I2, ⟨t, rfl⟩, q⟩
      | str i => obtain ⟨t, rfl⟩ := rv; exact ⟨.str i, H', I2, ⟨t, rfl⟩, q⟩
      | byt i => obtain ⟨t, rfl⟩ := rv; exact ⟨.byt i, H', I2, ⟨t, rfl⟩, q⟩
      | flt i => obtain ⟨t, rfl⟩ := rv; exact ⟨.flt i, H', I2, ⟨t, rfl⟩, q⟩
      | ref b => cases rv; exact ⟨.ref b, H', I2, rfl, q⟩
      | ty n => cases rv; exact ⟨.ty n, H', I2, rfl, q⟩
    | next => exact False.elim hq
    | brk => exact False.elim hq
    | cont => exact False.elim hq
def dIaddO (C : Addr) (sp : DSp) : D2 := fun x y M Q => ∃ fs, insOf M x = some (C, fs) ∧ sp [x, y] M Q fun _ _ _ => False
theorem oc_iaddO : OpC X.K T (rIaddO X T C sp) (dIaddO C sp) := fun G M H v u x y R Q rp i j ⟨fs, ei, h⟩ k => by
  obtain ⟨a, dx, vs, rfl, ha, l⟩ := insOf_ok rp i ei
  exact ⟨a, dx, vs, rfl, ha, G, M, _, _, _, rp, .cons i (.cons j .nil), h, k, fun _ _ _ _ _ _ z _ _ _ => z.elim⟩

/-- the class is told by its place alone -/
structure NoEq (K : PySem.W.Frag) (C : Addr) : Prop where
  eq : PySem.W.findIn K (.ref C) "__eq__" = some (some (.builtin "object.__eq__"))
  obj : PySem.W.mroIn K C (.type "object") = some true
theorem isSame_inst {M : Model} {A : Around} {E : Value → Shared → Prop} {s : Shared} {x y : Addr} {ox oy : Obj} {od od' : Option Obj} {R : Bool → Shared → Prop} (I : PySem.W.InstAt s.heap x ox C od) (J : PySem.W.InstAt s.heap y oy C od') (h : R (decide (x = y)) s) : wpAny M A (isSame (.ref x) (.ref y)) R E s := by
  unfold isSame
  by_cases e : x = y
  · subst e
    rw [decide_eq_true rfl] at h
    have q : (x == x) = true := beq_self_eq_true x
    simp only [q, if_true]
    exact wpAny_pure h
  · rw [decide_eq_false e] at h
    have q : ¬ (x == y) = true := fun z => e (beq_iff_eq.mp z)
    simp only [q, if_false]
    refine wpAny_bind (wpAny_load I.at_ (wpAny_bind (wpAny_load J.at_ ?_)))
    rw [I.cls]
    exact wpAny_pure h
theorem objEq_entry {M : Model} {A : Around} {E : Value → Shared → Prop} {s : Shared} {x y : Addr} {ox oy : Obj} {od od' : Option Obj} {Q : Fin → Shared → Prop} (I : PySem.W.InstAt s.heap x ox C od) (J : PySem.W.InstAt s.heap y oy C od')
    (h : Q (.done (.ret (if x = y then .bool true else .notImplemented))) s) : wpAny M A (Builtin.«object.__eq__» ⟨[.ref x, .ref y], []⟩) Q E s := by
  unfold Builtin.«object.__eq__»
  refine wpAny_bind (wpAny_pure ?_)
  refine wpAny_bind (isSame_inst I J ?_)
  by_cases e : x = y
  · rw [decide_eq_true e, if_pos rfl]
    rw [if_pos e] at h
    exact wpAny_pure h
  · rw [decide_eq_false e, if_neg Bool.false_ne_true]
    rw [if_neg e] at h
    exact wpAny_pure h
theorem objEq_call {prog : Program} {w : World} {A : Around} {E : Value → Shared → Prop} {s : Shared} {K : PySem.W.Frag} {x y : Addr} {ox oy : Obj} {od od' : Option Obj} {Q : Value → Shared → Prop} (Y : K.In s.heap) (n : NoEq K C) (I : PySem.W.InstAt s.heap x ox C od) (J : PySem.W.InstAt s.heap y oy C od')
    (h : Q (if x = y then .bool true else .notImplemented) s) : wpAny (model prog w) A (call (.builtin "object.__eq__") [.ref x, .ref y]) Q E s :=
  wpAny_call (codeAny_call_builtin F.cmp_object.eq.plain F.cmpEntry_eq (PySem.W.check_slot F.cmpKind_eq F.cmpSplit_eq (I.type.andThen (PySem.W.looks_mroIn Y n.obj)) (F.cmpArgs_eq _ _) (objEq_entry I J h)))
theorem objEq_try {prog : Program} {w : World} {A : Around} {E : Value → Shared → Prop} {s : Shared} {K : PySem.W.Frag} {x y : Addr} {ox oy : Obj} {od od' : Option Obj} {Q : Option Value → Shared → Prop} (Y : K.In s.heap) (n : NoEq K C) (I : PySem.W.InstAt s.heap x ox C od) (J : PySem.W.InstAt s.heap y oy C od')
    (h : Q (if x = y then some (.bool true) else none) s) : wpAny (model prog w) A (tryCompare (.ref x) "__eq__" (.ref y)) Q E s := by
  unfold tryCompare
  refine wpAny_bind (HN.ifBound_objEq Y I n.eq (objEq_call Y n I J ?_))
  by_cases e : x = y
  · rw [if_pos e] at h ⊢
    exact wpAny_pure h
  · rw [if_neg e] at h ⊢
    exact wpAny_pure h
def rEqR (K : PySem.W.Frag) : R2 := fun x y H Q => ∃ a b C dx dy fs gs, x = .ref a ∧ y = .ref b ∧ H a = some (.ins C dx fs) ∧ H b = some (.ins C dy gs) ∧ NoEq K C ∧ Q (.bl (decide (a = b))) H
theorem op_eqR (hu : X.A.units < cLine) : OpR X (compareOp .Eq) (rEqR X.K) := by
  intro pins s σ H x y v u Q I rx ry ⟨a, b, C, dx, dy, fs, gs, e1, e2, ha, hb, n, q⟩
  subst e1 e2
  obtain rfl : v = Value.ref a := rx
  obtain rfl : u = Value.ref b := ry
  obtain ⟨mA, O, _⟩ := ins_get I.hok ha
  obtain ⟨od, J, _⟩ := O.look
  obtain ⟨mB, O', _⟩ := ins_get I.hok hb
  obtain ⟨od', J', _⟩ := O'.look
  have fin : EP X pins σ Q (.bool (decide (a = b))) s := ⟨.bl (decide (a = b)), H, I, rfl, q⟩
  show wpAny _ _ (richCompare .Eq (.ref a) (.ref b)) _ _ _
  simp only [richCompare, cmpInfo_Eq, oneThing_ref]
  refine wpAny_holding (wpAny_bind (wpAny_cRoomFor hu ?_))
  refine wpAny_bind (J.type.here ?_)
  refine wpAny_bind (J'.type.here ?_)
  rw [if_neg (by simp)]
  refine wpAny_bind (wpAny_pure ?_)
  rw [if_neg Bool.false_ne_true]
  refine wpAny_bind (m := tryCompare (.ref a) "__eq__" (.ref b)) (objEq_try I.kIn n J J' ?_)
  by_cases e : a = b
  · subst e
    rw [if_pos rfl]
    rw [decide_eq_true rfl] at fin
    exact wpAny_pure fin
  · rw [if_neg e]
    rw [decide_eq_false e] at fin
    dsimp only
    rw [if_pos (by rfl)]
    refine wpAny_bind (m := tryCompare (.ref b) "__eq__" (.ref a)) (objEq_try I.kIn n J' J ?_)
    rw [if_neg (fun z => e z.symm)]
    refine wpAny_bind (wpAny_rule (wpAny_bind (isSame_inst J J' ?_)))
    rw [decide_eq_false e]
    exact wpAny_pure fin
end
end SD
namespace SD
open PySem PySem.Spec PyProof.Rows L2 NdefX LamX

section
variable {X : Cx} {T : TB} {W : DW} {pos p : Pos} {e : Expr} {te : DE}
def dEqR (K : PySem.W.Frag) : D2 := fun x y M Q => ∃ a b C fs gs, x = .ref a ∧ y = .ref b ∧ M a = some (.ins C fs) ∧ M b = some (.ins C gs) ∧ NoEq K C ∧ Q (.bl (decide (a = b))) M
theorem oc_eqR : OpC X.K T (rEqR X.K) (dEqR X.K) := fun G M H v u x y R Q rp i j ⟨a, b, C, fs, gs, e1, e2, ha, hb, n, h⟩ k => by
  subst e1 e2
  obtain ⟨a', dx, vs, ea, ha', _⟩ := insOf_ok rp i (show insOf M (.ref a) = some (C, fs) by simp [insOf, ha])
  obtain ⟨b', dy, ws, eb, hb', _⟩ := insOf_ok rp j (show insOf M (.ref b) = some (C, gs) by simp [insOf, hb])
  cases i
  cases j
  cases ea
  cases eb
  exact ⟨a, b, C, dx, dy, vs, ws, rfl, rfl, ha', hb', n, k.now rp (.bl _) h⟩
theorem OpR.or' {f : Value → Value → Sem Value} {r r' : R2} (h : OpR X f r) (h' : OpR X f r') : OpR X f (rOr r r') := h.or h'
theorem OpC.or {r r' : R2} {rd rd' : D2} (h : OpC X.K T r rd) (h' : OpC X.K T r' rd') : OpC X.K T (rOr r r') fun x y M Q => rd x y M Q ∨ rd' x y M Q :=
  fun G M H v u x y R Q rp i j q k => q.imp (fun q => h G M H v u x y R Q rp i j q k) fun q => h' G M H v u x y R Q rp i j q k

end
section
variable {prog : Program} {w : World} {A : Around} {E : Value → Shared → Prop} {s : Shared}
theorem bounds_cut {a c n : Nat} (hac : a ≤ c) (ha : a ≤ n) : sliceBounds (some (a : Int)) (some (c : Int)) none n = ((a : Int), ((min c n : Nat) : Int), 1) := by
  have h1 : ¬ ((a : Int) < 0) := by omega
  have h2 : ¬ ((c : Int) < 0) := by omega
  simp only [sliceBounds, Option.getD_none, h1, h2, if_false, show (1 : Int) > 0 by decide, if_true]
  congr 1
  · omega
  · congr 1
    omega
set_option maxRecDepth 100000 in
/-- a slice from a to c is stored, c behind the list's end or not -/
theorem store_cut {l b sl : Addr} {old new : Array Value} {n n2 : Nat} {vl vu : Value} {a c : Nat} {Q : Unit → Shared → Prop} (e : s.heap.get? l = some { cls := .type "list", data := .seq old n }) (e2 : s.heap.get? b = some { cls := .type "list", data := .seq new n2 }) (hne : l ≠ b)
    (hs : s.heap.IsSliceOf sl vl vu .none) (pl : IsPart vl (some (a : Int))) (pu : IsPart vu (some (c : Int))) (hac : a ≤ c) (ha : a ≤ old.size) (hsz : old.size + new.size ≤ sizeLine)
    (h : Q () { s with heap := s.heap.update l (Obj.mapSeq fun xs => xs.extract 0 a ++ new ++ xs.extract (min c old.size) xs.size) }) : wpAny (model prog w) A (setItem (.ref l) (.ref sl) (.ref b)) Q E s := by
  have tl := (PySem.IsL.isList e).typeIs
  have tb := (PySem.IsL.isList e2).typeIs
  obtain ⟨os, hos, hcs, hds⟩ := id hs
  have ts : s.TypeIs (.ref sl) "slice" := ⟨os, hos, hcs⟩
  have dif : Builtin.List.listSameRef (.ref l) (.ref b) = false := by
    unfold Builtin.List.listSameRef
    exact beq_eq_false_iff_ne.mpr hne
  have top : (max (a : Int) ((min c old.size : Nat) : Int)).toNat = min c old.size := by omega
  have fits : ((fun xs : Array Value => xs.extract 0 a ++ new ++ xs.extract (min c old.size) xs.size) old).size ≤ sizeLine + 1 := by
    simp only [Array.size_append, Array.size_extract]
    omega
  unfold setItem
  refine wpAny_holding ?_
  refine wpAny_bind (wpAny_sequenceKey tl (by decide) ?_)
  refine wpAny_bind (wpAny_callSpecial?_slot (name := Str.ofString "__setitem__") tl slot_list_setitem (wpAny_call_entry slot_list_setitem tl entry_list_setitem ?_ (args_list_setitem _ _ _)))
  show wpAny _ _ (Builtin.List.listSubscript? (.ref sl) >>= _) _ _ s
  unfold Builtin.List.listSubscript?
  refine wpAny_bind (wpAny_bind (wpAny_specialOf ts slice_no_index ?_))
  simp only [Option.isNone_none, if_true]
  refine wpAny_pure ?_
  show wpAny _ _ (typeOf (.ref sl) >>= _) _ _ s
  refine wpAny_bind (wpAny_typeOf ts ?_)
  rw [if_neg (by decide), listSliceParts_eq]
  refine wpAny_bind (wpAny_bind (wpAny_field hos hds (x := .none) rfl (wpAny_bind (wpAny_listPart .none ?_))))
  rw [if_neg (show ¬ ((rawPart none == rawInt 0) = true) from Bool.false_ne_true)]
  refine wpAny_bind (wpAny_field hos hds (x := vl) rfl (wpAny_bind (wpAny_listPart pl ?_)))
  refine wpAny_bind (wpAny_field hos hds (x := vu) rfl (wpAny_bind (wpAny_listPart pu (wpAny_pure ?_))))
  first
    | simp only [dif, Bool.false_eq_true, if_false]
    | refine PySem.W.KFB.if_not dif ?_
  refine wpAny_bind (m := Builtin.List.listAllItems (.ref b) "must assign iterable to extended slice") ?_
  unfold Builtin.List.listAllItems
  refine wpAny_bind (wpAny_typeOf tb ?_)
  first
    | refine PySem.W.KFB.if_so (by decide) ?_
    | rw [if_pos (by decide)]
  unfold Builtin.List.listItems
  refine wpAny_bind (wpAny_seqItems e2 rfl (wpAny_pure (wpAny_bind (wpAny_bind (wpAny_seqItems e rfl (wpAny_pure ?_))))))
  refine wpAny_bind (wpAny_of_eq ((sliceIndices_raw (some (a : Int)) (some (c : Int)) none old.size (by simp)).trans (congrArg (pure : Int × Int × Int → Sem (Int × Int × Int)) (bounds_cut hac ha))) ?_)
  show wpAny _ _ (if ((1 : Int) == 1) = true then _ else _) _ _ s
  rw [if_pos (by decide)]
  refine wpAny_bind (wpAny_rule ?_)
  first
    | simp only [notLongL hsz, Bool.false_eq_true, if_false]
    | refine PySem.W.KFB.if_not (notLongL hsz) ?_
  first | refine wpAny_bind (wpAny_pure ?_) | skip
  show wpAny _ _ (updateSeq l (fun xs => xs.extract 0 ((a : Int)).toNat ++ new ++ xs.extract (max (a : Int) ((min c old.size : Nat) : Int)).toNat xs.size) >>= _) _ _ s
  rw [top, Int.toNat_natCast]
  refine wpAny_bind (wpAny_updateSeq (hz := Nat.le_trans (Nat.le_add_right _ _) hsz) (_hz' := fits) e rfl (wpAny_bind (wpAny_letGo ?_)))
  first
    | exact wpAny_bind (wpAny_pure (wpAny_pure ⟨.none, rfl, wpAny_pure h⟩))
    | exact wpAny_pure ⟨.none, rfl, wpAny_pure h⟩
end
section
variable {X : Cx} {T : TB} {W : DW} {pos p : Pos} {e : Expr} {te : DE}
theorem set_cut {pins : List (Addr × Obj)} {s : Shared} {σ : St} {H : Hp} {l b sl : Addr} {xs ys : List V} {a c : Int} {vl vu : Value} {Q : Unit → Shared → Prop} (I : Inv X pins σ H s) (hH : H l = some (.lst xs)) (hB : H b = some (.lst ys)) (hne : l ≠ b)
    (hs : s.heap.IsSliceOf sl vl vu .none) (ra : RelV (.int a) vl) (rc : RelV (.int c) vu) (h0 : 0 ≤ a) (hac : a ≤ c) (ha : a ≤ xs.length) (hz : xs.length + ys.length ≤ sizeLine)
    (h : ∀ s', Inv X pins σ (upd H l (.lst (xs.take a.toNat ++ ys ++ xs.drop c.toNat))) s' → Q () s') : wpAny (model X.prog X.w) X.A (setItem (.ref l) (.ref sl) (.ref b)) Q X.xe s := by
  obtain ⟨ta, rfl⟩ := ra
  obtain ⟨tc, rfl⟩ := rc
  obtain ⟨z, its, n, r, hl, e⟩ := I.lstM hH
  obtain ⟨z2, its2, n2, r2, hl2, e2⟩ := I.lstM hB
  obtain ⟨a', rfl⟩ := Int.eq_ofNat_of_zero_le h0
  obtain ⟨c', rfl⟩ := Int.eq_ofNat_of_zero_le (Int.le_trans h0 hac)
  simp only [Int.toNat_natCast] at h
  refine store_cut (a := a') (c := c') e e2 hne hs (.int _ _) (.int _ _) (by omega) (by rw [List.size_toArray]; omega) (by rw [List.size_toArray, List.size_toArray]; omega) (h _ ?_)
  have ed : xs.drop c' = xs.drop (min c' its.length) := by
    rw [← hl]
    by_cases q : c' ≤ xs.length
    · rw [Nat.min_eq_left q]
    · rw [Nat.min_eq_right (by omega), List.drop_eq_nil_of_le (by omega), List.drop_eq_nil_of_le (Nat.le_refl _)]
  rw [ed]
  refine I.lset (its' := its.take a' ++ its2 ++ its.drop (min c' its.length)) (t' := s.toks) hH e ?_ (Vals.append (Vals.append (r.take _) r2) (r.drop _)) ?_
  · have := splice_eq its its2 a' (min c' its.length)
    rw [List.size_toArray] at this ⊢
    exact this
  · rw [List.length_append, List.length_append, List.length_take, List.length_drop]
    omega
def dSlS (to tl th te : DE) : DS := fun E ρ M => te ρ M fun v M1 => to ρ M1 fun o M2 => tl ρ M2 fun lo M3 => th ρ M3 fun hi M4 => ∃ l xs ys a c, o = .ref l ∧ M4 l = some (.lst xs) ∧ lstOf M4 v = some ys ∧ v ≠ .ref l ∧ lo = .int a ∧ hi = .int c ∧ 0 ≤ a ∧ a ≤ c ∧ a ≤ xs.length ∧
  xs.length + ys.length ≤ sizeLine ∧ E.nx ρ (updM M4 l (.lst (xs.take a.toNat ++ ys ++ xs.drop c.toNat)))
theorem sslS {o lo hi : Expr} {to tl th : DE} {tpos p2 : Pos} (ho : XE X T o to) (hl : XE X T lo tl) (hh : XE X T hi th) (he : XE X T e te)
    (ha : ∀ v, assign (.Subscript o (.Slice (some lo) (some hi) none p2) tpos) X.env v = (do
      let ov ← holding [v] (eval o X.env)
      let iv ← holding [v, ov] (eval (.Slice (some lo) (some hi) none p2) X.env)
      standAt tpos
      holding [v, ov, iv] (setItem ov iv v)
      release [iv, v, ov] []) := by intro _; rfl)
    (hs : swapsWithSole [.Subscript o (.Slice (some lo) (some hi) none p2) tpos] e pos.line X.env = pure false := by rfl) (hw : swappedStores [.Subscript o (.Slice (some lo) (some hi) none p2) tpos] e X.env = pure none := by rfl)
    (h1 : (assignEach [.Subscript o (.Slice (some lo) (some hi) none p2) tpos] X.env).map (·.2) = [assign (.Subscript o (.Slice (some lo) (some hi) none p2) tpos) X.env] := by rfl) :
    XS X T (.Assign [.Subscript o (.Slice (some lo) (some hi) none p2) tpos] e pos) (dSlS to tl th te) := by
  have pg : PG X (.Subscript o (.Slice (some lo) (some hi) none p2) tpos) fun v σ H Q => lE X.K T to σ H fun x H1 => lE X.K T tl σ H1 fun y H2 => lE X.K T th σ H2 fun z H3 => ∃ l b xs ys a c, x = .ref l ∧ v = .ref b ∧ y = .int a ∧ z = .int c ∧ H3 l = some (.lst xs) ∧ H3 b = some (.lst ys) ∧
      l ≠ b ∧ 0 ≤ a ∧ a ≤ c ∧ a ≤ xs.length ∧ xs.length + ys.length ≤ sizeLine ∧ Q σ (upd H3 l (.lst (xs.take a.toNat ++ ys ++ xs.drop c.toNat))) := by
    refine ⟨fun pins s σ H v u Q I r h => ?_⟩
    rw [ha]
    refine wpAny_bind (wpAny_holding (thn (ho.run pins s σ H _ I h) fun ov s1 ⟨x, H1, I1, r1, q1⟩ => ?_))
    refine wpAny_bind (wpAny_holding (wpAny_Slice (thn (hl.run pins s1 σ H1 _ I1 q1) fun lv s2 ⟨y, H2, I2, r2, q2⟩ => thn (hh.run pins s2 σ H2 _ I2 q2) fun hv s3 ⟨z, H3, I3, r3, q3⟩ => ?_)))
    rw [evalPart_none]
    refine wpAny_pure ?_
    obtain ⟨l, b, xs, ys, a, c, ex, ev, ey, ez, hL, hB, ne, h0, hac, hc, hz, q⟩ := q3
    subst ex ev ey ez
    have I4 : Inv X pins σ H3 { s3 with heap := s3.heap.push { cls := .type "slice", data := .fields #[lv, hv, .none] } } := I3.kept (t' := s3.toks) fun b ob q => Heap.get?_push_of_some _ q
    obtain rfl : ov = Value.ref l := r1
    obtain rfl : u = Value.ref b := r
    refine wpAny_bind (wpAny_standAt (wpAny_bind (wpAny_holding (set_cut I4 hL hB ne (Heap.IsSliceOf.new ..) r2 r3 h0 hac hc hz fun s5 I5 => ?_))))
    exact wpAny_release ⟨σ, _, I5, q⟩
  refine (ps_asg he pg hs hw h1).imp fun D σ H ⟨ρ, G, M, E, sl, rp, h, k⟩ => ⟨ρ, G, M, _, sl, rp, h, fun v M1 vv G1 H1 q1 s1 rp1 i1 => ⟨ρ, G1, M1, _, sl.mono s1, rp1, q1, fun x M2 xv G2 H2 q2 s2 rp2 i2 =>
    ⟨ρ, G2, M2, _, sl.mono (s1.trans s2), rp2, q2, fun y M3 yv G3 H3 q3 s3 rp3 i3 => ⟨ρ, G3, M3, _, sl.mono (s1.trans (s2.trans s3)), rp3, q3, fun z M4 zv G4 H4 q4 s4 rp4 i4 => ?_⟩⟩⟩⟩
  obtain ⟨l, xs, ys, a, c, rfl, hM, hv, hne, rfl, rfl, h0, hac, hc, hz, q⟩ := q4
  obtain ⟨l', xv', e1, e2, lx⟩ := lstOf_ok rp4 (i2.mono (s3.trans s4)) (show lstOf M4 (.ref l) = some xs by simp [lstOf, hM])
  cases i2
  cases e1
  have i1' := i1.mono (s2.trans (s3.trans s4))
  obtain ⟨b, yv', e3, e4, ly⟩ := lstOf_ok rp4 i1' hv
  subst e3
  have ne : l ≠ b := fun z => by
    subst z
    cases i1' with
    | lst g _ =>
      have := (rp4.mt _ _ hM).1
      rw [g] at this
      cases this
    | ref _ => exact hne rfl
    | _ => simp [lstOf] at hv
  cases i3
  cases i4
  have ss := s1.trans (s2.trans (s3.trans s4))
  exact ⟨l, b, xv', yv', a, c, rfl, rfl, rfl, rfl, e2, e4, ne, h0, hac, by rw [lx.length]; exact hc, by rw [lx.length, ly.length]; exact hz, k.nx _ _ _ _ _ q ss (sl.mono ss) (putL_ok rp4 hM (((lx.take _).append ly).append (lx.drop _)))⟩

theorem xty {x : Str} {n : String} (hg : Gl X x) (hm : X.mg x = none) (hv : bootBuiltins x = some (.type n)) (hn : x ≠ "__name__" := by decide) (hdb : (x == ("__debug__" : Str)) = false := by decide) : XE X T (.Name x pos) (dC (.ty n)) :=
  xc (v := .ty n) ⟨fun pins s σ H Q I h => ld_blt I hg hm hv ⟨.ty n, H, I, rfl, h⟩ hn hdb⟩ fun _ => .ty _
theorem xglo {x : Str} {a : Addr} (hg : Gl X x) (hm : X.mg x = some (.ref a)) (hd : (x == ("__debug__" : Str)) = false := by decide) : XE X T (.Name x pos) (dC (.ref a)) := xc (pe_glob (v := .ref a) hg hm rfl hd) fun _ => .ref _

/-- x is None, x is not None -/
def dIsN : D2 := fun x y M Q => match y with
  | .non => Q (.bl (isNon x)) M
  | _ => False
def dNotN : D2 := fun x y M Q => match y with
  | .non => Q (.bl (!isNon x)) M
  | _ => False
theorem op_inA (hu : X.A.units + 65 < cLine) : OpR X (compareOp .In) (rOr (fun x y H Q => ∃ i j, x = .str i ∧ y = .str j ∧ Q (.bl (!(Builtin.Str.occurrences j i 0 j.length 1).isEmpty)) H) (rInD X.K)) := op_in_str.or (op_inD hu)
theorem op_ninA (hu : X.A.units + 65 < cLine) : OpR X (compareOp .NotIn) (rOr (fun x y H Q => ∃ i j, x = .str i ∧ y = .str j ∧ Q (.bl (!(!(Builtin.Str.occurrences j i 0 j.length 1).isEmpty))) H) (rNotInD X.K)) := op_notin_str.or (op_notInD hu)
theorem Rm.u65 {k : Nat} {A : Around} (r : Rm k A) : A.units + 65 < cLine := by
  have := r.rm.un
  omega

/-- what an own class must have to be asked for -/
structure IsiC (K : PySem.W.Frag) (C : Addr) : Prop where
  cl : Cls K C
  ha : PySem.W.findIn K (.ref C) "__class__" = some (some (.builtin "object.__class__"))
  hn : PySem.W.specialIn K (.builtin "object.__class__") "__get__" = some (some (.builtin "getset_descriptor.__get__"))
  htk : PySem.W.takesIn K (.builtin "object.__class__") = some true
  hm : PySem.W.mroIn K C (.type "object") = some true
inductive TyD (K : PySem.W.Frag) (M : Mp) : D → Value → Prop where
  | non : TyD K M .non (.type "NoneType")
  | bl (b : Bool) : TyD K M (.bl b) (.type "bool")
  | int (i : Int) : TyD K M (.int i) (.type "int")
  | str (x : Str) : TyD K M (.str x) (.type "str")
  | tup (ds : List D) : TyD K M (.tup ds) (.type "tuple")
  | lst (ds : List D) : TyD K M (.lst ds) (.type "list")
  | dK (ds : List (Key × D)) : TyD K M (.dK ds) (.type "dict")
  | refL {a : Addr} {ds : List D} (e : M a = some (.lst ds)) : TyD K M (.ref a) (.type "list")
  | refD {a : Addr} {ds : List (Key × D)} (e : M a = some (.dK ds)) : TyD K M (.ref a) (.type "dict")
  | refI {a C : Addr} {fs : List (Str × D)} (e : M a = some (.ins C fs)) (c : IsiC K C) : TyD K M (.ref a) (.ref C)
  | ins {C : Addr} {fs : List (Str × D)} (c : IsiC K C) : TyD K M (.ins C fs) (.ref C)
theorem tyD_ok {G H : Hp} {M : Mp} {x : D} {v : V} {t : Value} (rp : Rp X.K T G M H) (i : Is X.K G v x) (h : TyD X.K M x t) : TyX X.K H v t := by
  cases h with
  | non => cases i; exact .base .non
  | bl b => cases i; exact .base (.bl b)
  | int b => cases i; exact .base (.int b)
  | str b => cases i; exact .base (.str b)
  | tup ds =>
    cases i with
    | tup g l =>
      rcases g with (g | ⟨o, g⟩) | ⟨o, its, n, hk, hc, _⟩
      · exact .base (.tup (rp.sub _ _ g))
      · exact .fTuple (rp.sub _ _ g)
      · exact .kTuple hk hc
  | lst ds => cases i with | lst g l => exact .base (.lst (rp.sub _ _ g))
  | dK ds => cases i with | dK g l => exact .base (.dK (rp.sub _ _ g))
  | refL e =>
    obtain ⟨a', xs, e1, e2, _⟩ := lstOf_ok rp i (show lstOf M (.ref _) = some _ by unfold lstOf; dsimp only; rw [e])
    subst e1
    exact .base (.lst e2)
  | refD e =>
    cases i
    obtain ⟨_, u, hu, j⟩ := rp.mt _ _ e
    cases j with
    | dK l => exact .base (.dK hu)
  | refI e c =>
    obtain ⟨a', dx, vs, e1, e2, _⟩ := insOf_ok rp i (show insOf M (.ref _) = some _ by unfold insOf; dsimp only; rw [e])
    subst e1
    exact .base (.ins e2 c.cl c.ha c.hn c.htk c.hm)
  | ins c =>
    obtain ⟨a', dx, vs, e1, e2, _⟩ := insOf_ok rp i (show insOf M (.ins _ _) = some _ from rfl)
    subst e1
    exact .base (.ins e2 c.cl c.ha c.hn c.htk c.hm)
inductive ClsD : D → Value → Prop where
  | ty (n : String) : ClsD (.ty n) (.type n)
  | own (C : Addr) : ClsD (.ref C) (.ref C)
inductive ClsDs : List D → List Value → Prop where
  | nil : ClsDs [] []
  | cons {d : D} {u : Value} {ds : List D} {us : List Value} : ClsD d u → ClsDs ds us → ClsDs (d :: ds) (u :: us)
theorem clsD_ok {G : Hp} {d : D} {v : V} {u : Value} (i : Is X.K G v d) (c : ClsD d u) : ClsV v u := by
  cases c with
  | ty n => cases i; exact .ty n
  | own C => cases i; exact .own C
theorem clsDs_ok {G : Hp} : ∀ {ds : List D} {vs : List V} {us : List Value}, IsL X.K G vs ds → ClsDs ds us → Paired ClsV vs us
  | _, _, _, .nil, .nil => .nil
  | _, _, _, .cons i l, .cons c k => .cons (clsD_ok i c) (clsDs_ok l k)
def rIsiS (K : PySem.W.Frag) : List V → Hp → VK → Prop := fun xs H Q => ∃ (x : V) (tp : Addr) (cs : List V) (t : Value) (us : List Value) (b : Bool), xs = [x, .ref tp] ∧ SqT K H tp cs ∧ Paired ClsV cs us ∧ TyX K H x t ∧ PySem.W.kitAny K t us = some b ∧ Q (.bl b) H
theorem call_isiS : CallR X (.builtin "isinstance") (rIsiS X.K) := by
  intro pins s σ H xs us Q I r h
  obtain ⟨x, tp, cs, t, ws, b, rfl, hT, k, ty, e, q⟩ := h
  obtain ⟨u1, u2, rfl, r1, r2⟩ := vals2 r
  cases (show u2 = Value.ref tp from r2)
  obtain ⟨P, Z, p, hx⟩ := kit_of I r1 ty
  obtain ⟨its, rv, ⟨o, h1, h2, n, h3⟩, hz⟩ := I.tuple hT
  have e3 := ClsV.all k rv
  subst e3
  obtain ⟨oc, od, dt, sl⟩ := o
  simp only at h2 h3
  subst h2 h3
  exact PySem.W.kia_tup Z I.kIn p h1 e hx fun tk => ⟨.bl b, H, I.tok tk, rfl, q⟩
def dIsi (K : PySem.W.Frag) : DC := fun ds M Q => match ds with
  | [x, .tup cs] => ∃ t us b, TyD K M x t ∧ ClsDs cs us ∧ PySem.W.kitAny K t us = some b ∧ Q (.bl b) M
  | [x, c] => ∃ t u b, TyD K M x t ∧ ClsD c u ∧ PySem.W.kitOne K t u = some b ∧ Q (.bl b) M
  | _ => False
theorem cc_isi : CallC X.K T (fun vs H Q => rIsi X.K vs H Q ∨ rIsiS X.K vs H Q) (dIsi X.K) := by
  intro G M H vs ds R Q rp i h k
  unfold dIsi at h
  split at h
  · obtain ⟨t, us, b, ty, cd, e, h⟩ := h
    obtain ⟨v, v', rfl, i1, i2⟩ := isL2 i
    obtain ⟨a, xs, rfl, h1, g1, l1⟩ := isT_inv rp i2
    exact .inr ⟨v, a, xs, t, us, b, rfl, h1, clsDs_ok l1 cd, tyD_ok rp i1 ty, e, k.now rp (.bl _) h⟩
  · obtain ⟨t, u, b, ty, cd, e, h⟩ := h
    obtain ⟨v, v', rfl, i1, i2⟩ := isL2 i
    exact .inl ⟨v, v', t, u, b, rfl, clsD_ok i2 cd, tyD_ok rp i1 ty, e, k.now rp (.bl _) h⟩
  · exact h.elim
theorem boot_isinstance : bootBuiltins "isinstance" = some (.builtin "isinstance") := by decide +kernel
theorem xisi {e2 : Expr} {ta : DA} (hm : X.mg "isinstance" = none) (ha : XA X T [e, e2] ta) (hg : Gl X "isinstance" := by rfl) (he : starEach (e :: [e2]) X.env = (false, eval e X.env) :: starEach [e2] X.env := by rfl) (hpl : (backTo pos (starEach [e2] X.env)).any (·.1) = false := by rfl) :
    XE X T (.Call (.Name "isinstance" p) [e, e2] [] pos) (dCB (dIsi X.K) ta) := xcallB (CallR.or call_isi call_isiS) cc_isi hg hm boot_isinstance ha (by decide) (by decide) he hpl
end
end SD
namespace SD
open PySem PySem.Spec PyProof.Rows L2 NdefX LamX
section
variable {X : Cx} {T : TB} {a b c e : Expr} {ta tb tc te : DE} {tA : DA} {rest : List Expr} {pos p : Pos}
def dAndV (ta tb : DE) : DE := fun ρ M Q => ta ρ M fun x M1 => match x with
  | .bl true => tb ρ M1 Q
  | .bl false => Q (.bl false) M1
  | _ => False
def dOrV (ta tb : DE) : DE := fun ρ M Q => ta ρ M fun x M1 => match x with
  | .bl true => Q (.bl true) M1
  | .bl false => tb ρ M1 Q
  | _ => False
def dNotV (ta : DE) : DE := fun ρ M Q => ta ρ M fun x M1 => match x with
  | .bl b => Q (.bl (!b)) M1
  | _ => False
theorem vone {op} (h : XE X T a ta) : XE X T (.BoolOp op [a] pos) ta := pe_one h
theorem vand (ha : XE X T a ta) (hb : XE X T (.BoolOp .And (b :: rest) pos) tb) : XE X T (.BoolOp .And (a :: b :: rest) pos) (dAndV ta tb) :=
  (pe_and ha hb).imp fun σ H Q ⟨ρ, G, M, R, sl, rp, h, k⟩ => ⟨ρ, G, M, _, sl, rp, h, fun x M1 v G1 H1 q s rp1 i1 => by
    split at q
    · cases i1; exact ⟨true, rfl, by rw [if_pos rfl]; exact ⟨ρ, G1, M1, R, sl.mono s, rp1, q, k.mono s⟩⟩
    · cases i1; exact ⟨false, rfl, by rw [if_neg Bool.false_ne_true]; exact (k.mono s).now rp1 (.bl _) q⟩
    · exact q.elim⟩
theorem vor (ha : XE X T a ta) (hb : XE X T (.BoolOp .Or (b :: rest) pos) tb) : XE X T (.BoolOp .Or (a :: b :: rest) pos) (dOrV ta tb) :=
  (pe_or ha hb).imp fun σ H Q ⟨ρ, G, M, R, sl, rp, h, k⟩ => ⟨ρ, G, M, _, sl, rp, h, fun x M1 v G1 H1 q s rp1 i1 => by
    split at q
    · cases i1; exact ⟨true, rfl, by rw [if_pos rfl]; exact (k.mono s).now rp1 (.bl _) q⟩
    · cases i1; exact ⟨false, rfl, by rw [if_neg Bool.false_ne_true]; exact ⟨ρ, G1, M1, R, sl.mono s, rp1, q, k.mono s⟩⟩
    · exact q.elim⟩
theorem vnot (ha : XE X T a ta) : XE X T (.UnaryOp .Not a pos) (dNotV ta) :=
  (pe_not ha).imp fun σ H Q ⟨ρ, G, M, R, sl, rp, h, k⟩ => ⟨ρ, G, M, _, sl, rp, h, fun x M1 v G1 H1 q s rp1 i1 => by
    split at q
    · cases i1; exact ⟨_, rfl, (k.mono s).now rp1 (.bl _) q⟩
    · exact q.elim⟩
/-- a op b op' c -/
def dChain (rd rd' : D2) (ta tb tc : DE) : DE := fun ρ M Q => ta ρ M fun x M1 => tb ρ M1 fun y M2 => rd x y M2 fun z M3 => match z with
  | .bl true => tc ρ M3 fun w M4 => rd' y w M4 Q
  | .bl false => Q (.bl false) M3
  | _ => False
theorem lChain {r r' : R2} {rd rd' : D2} (c1 : OpC X.K T r rd) (c2 : OpC X.K T r' rd') {σ : St} {H : Hp} {Q : VK} (h : lE X.K T (dChain rd rd' ta tb tc) σ H Q) : tChain r r' (lE X.K T ta) (lE X.K T tb) (lE X.K T tc) σ H Q := by
  obtain ⟨ρ, G, M, R, sl, rp, h, k⟩ := h
  refine ⟨ρ, G, M, _, sl, rp, h, fun x M1 v G1 H1 q1 s1 rp1 i1 => ⟨ρ, G1, M1, _, sl.mono s1, rp1, q1, fun y M2 u G2 H2 q2 s2 rp2 i2 => c1 G2 M2 H2 v u x y _ _ rp2 (i1.mono s2) i2 q2 fun z M3 zv G3 H3 q3 s3 rp3 i3 => ?_⟩⟩
  have ss := s1.trans (s2.trans s3)
  split at q3
  · cases i3
    exact ⟨true, rfl, by rw [if_pos rfl]; exact ⟨ρ, G3, M3, _, sl.mono ss, rp3, q3, fun w M4 wv G4 H4 q4 s4 rp4 i4 => c2 G4 M4 H4 u wv y w _ _ rp4 (i2.mono (s3.trans s4)) i4 q4 (k.mono (ss.trans s4))⟩⟩
  · cases i3
    exact ⟨false, rfl, by rw [if_neg Bool.false_ne_true]; exact (k.mono ss).now rp3 (.bl _) q3⟩
  · exact q3.elim
theorem xchain {op op' : CmpOp} {r r' : R2} {rd rd' : D2} (ho : OpR X (compareOp op) r) (ho' : OpR X (compareOp op') r') (c1 : OpC X.K T r rd) (c2 : OpC X.K T r' rd') (ha : XE X T a ta) (hb : XE X T b tb) (hc : XE X T c tc)
    (hm : lastMarks [op, op'] [b, c] = false := by with_unfolding_all rfl) : XE X T (.Compare a [op, op'] [b, c] pos) (dChain rd rd' ta tb tc) := (pe_chain ho ho' ha hb hc hm).imp fun σ H Q h => lChain c1 c2 h
theorem tchain {op op' : CmpOp} {r r' : R2} {rd rd' : D2} (ho : OpR X (compareOp op) r) (ho' : OpR X (compareOp op') r') (c1 : OpC X.K T r rd) (c2 : OpC X.K T r' rd') (ha : XE X T a ta) (hb : XE X T b tb) (hc : XE X T c tc)
    (hm : lastMarks [op, op'] [b, c] = false := by with_unfolding_all rfl) : XT X T (.Compare a [op, op'] [b, c] pos) (dB (dChain rd rd' ta tb tc)) :=
  (pt_chain ho ho' ha hb hc hm).imp fun σ H Q ⟨ρ, G, M, R, sl, rp, h, k⟩ => lChain (ta := ta) (tb := tb) (tc := tc) c1 c2 ⟨ρ, G, M, _, sl, rp, h, fun x M1 v G1 H1 q1 s1 rp1 i1 => by
    split at q1
    · cases i1
      exact ⟨_, rfl, k _ _ _ _ q1 s1 rp1⟩
    · exact q1.elim⟩
def bls : List D → Option (List Bool)
  | [] => some []
  | .bl b :: r => (bls r).map (b :: ·)
  | _ :: _ => none
theorem bls_ok {K : PySem.W.Frag} {G : Hp} : ∀ {ds : List D} {vs : List V} {bs : List Bool}, IsL K G vs ds → bls ds = some bs → vs = bs.map V.bl
  | [], _, bs, .nil, e => by cases e; rfl
  | .bl b :: ds, _, bs, .cons i l, e => by
    cases i
    cases h : bls ds with
    | none => simp [bls, h] at e
    | some r =>
      simp [bls, h] at e
      subst e
      rw [List.map_cons, ← bls_ok l h]
  | .non :: _, _, _, .cons _ _, e => by simp [bls] at e
  | .int _ :: _, _, _, .cons _ _, e => by simp [bls] at e
  | .str _ :: _, _, _, .cons _ _, e => by simp [bls] at e
  | .ty _ :: _, _, _, .cons _ _, e => by simp [bls] at e
  | .tup _ :: _, _, _, .cons _ _, e => by simp [bls] at e
  | .lst _ :: _, _, _, .cons _ _, e => by simp [bls] at e
  | .ref _ :: _, _, _, .cons _ _, e => by simp [bls] at e
  | .dK _ :: _, _, _, .cons _ _, e => by simp [bls] at e
  | .ins _ _ :: _, _, _, .cons _ _, e => by simp [bls] at e
  | .scr _ :: _, _, _, .cons _ _, e => by simp [bls] at e
def dAll : DC := fun ds M Q => match ds with
  | [x] => ∃ xs bs, lstOf M x = some xs ∧ bls xs = some bs ∧ Q (.bl (bs.all id)) M
  | _ => False
def dAny : DC := fun ds M Q => match ds with
  | [x] => ∃ xs bs, lstOf M x = some xs ∧ bls xs = some bs ∧ Q (.bl (bs.any id)) M
  | _ => False
theorem cc_all : CallC X.K T (rAll X.K) dAll := by
  intro G M H vs ds R Q rp i h k
  unfold dAll at h
  split at h
  · obtain ⟨xs, bs, ex, eb, h⟩ := h
    obtain ⟨v, rfl, i1⟩ := isL1 i
    obtain ⟨a, ys, rfl, e1, l⟩ := lstOf_ok rp i1 ex
    exact ⟨a, bs, rfl, .inl (.inl (by rw [e1, bls_ok l eb])), k.now rp (.bl _) h⟩
  · exact h.elim
theorem cc_any : CallC X.K T (rAny X.K) dAny := by
  intro G M H vs ds R Q rp i h k
  unfold dAny at h
  split at h
  · obtain ⟨xs, bs, ex, eb, h⟩ := h
    obtain ⟨v, rfl, i1⟩ := isL1 i
    obtain ⟨a, ys, rfl, e1, l⟩ := lstOf_ok rp i1 ex
    exact ⟨a, bs, rfl, .inl (.inl (by rw [e1, bls_ok l eb])), k.now rp (.bl _) h⟩
  · exact h.elim
theorem boot_all : bootBuiltins "all" = some (.builtin "all") := by decide +kernel
theorem boot_any : bootBuiltins "any" = some (.builtin "any") := by decide +kernel
theorem xall (hc : X.calm = true) (hm : X.mg "all" = none) (ha : XA X T [e] tA) (hg : Gl X "all" := by rfl) (he : starEach (e :: []) X.env = (false, eval e X.env) :: starEach [] X.env := by rfl) (hpl : (backTo pos (starEach [] X.env)).any (·.1) = false := by rfl) :
    XE X T (.Call (.Name "all" p) [e] [] pos) (dCB dAll tA) := xcallB (cr_all hc) cc_all hg hm boot_all ha (by decide) (by decide) he hpl
theorem xany (hc : X.calm = true) (hm : X.mg "any" = none) (ha : XA X T [e] tA) (hg : Gl X "any" := by rfl) (he : starEach (e :: []) X.env = (false, eval e X.env) :: starEach [] X.env := by rfl) (hpl : (backTo pos (starEach [] X.env)).any (·.1) = false := by rfl) :
    XE X T (.Call (.Name "any" p) [e] [] pos) (dCB dAny tA) := xcallB (cr_any hc) cc_any hg hm boot_any ha (by decide) (by decide) he hpl
/-- x == y: ints at once; else what is seen of them -/
def dEqA : D2 := fun x y M Q => match x, y with
  | .int i, .int j => Q (.bl (decide (i = j))) M
  | x, y => dEq x y M Q
def dNeA : D2 := fun x y M Q => match x, y with
  | .int i, .int j => Q (.bl (!decide (i = j))) M
  | x, y => dNe x y M Q
theorem eqv_int {i j : Int} : PyData.eqv (.int i) (.int j) = decide (i = j) := by
  show (i == j) = _
  by_cases h : i = j <;> simp [h]
theorem oc_eqA : OpC X.K T (rEqD X.K) dEqA := fun G M H v u x y R Q rp i j h k => by
  unfold dEqA at h
  split at h
  · rename_i i1 j1
    exact oc_eq G M H v u _ _ R Q rp i j ⟨_, _, .int _, .int _, rfl, rfl, by rw [eqv_int]; exact h⟩ k
  · exact oc_eq G M H v u _ _ R Q rp i j h k
theorem oc_neA : OpC X.K T (rNeD X.K) dNeA := fun G M H v u x y R Q rp i j h k => by
  unfold dNeA at h
  split at h
  · rename_i i1 j1
    exact oc_ne G M H v u _ _ R Q rp i j ⟨_, _, .int _, .int _, rfl, rfl, by rw [eqv_int]; exact h⟩ k
  · exact oc_ne G M H v u _ _ R Q rp i j h k
end
end SD
namespace SD
open PySem PySem.Spec PyProof.Rows L2

mutual
def py : D → PyData
  | .non => .none
  | .bl b => .bool b
  | .int i => .int i
  | .str x => .str x
  | .lst ds => .list (pys ds)
  | .tup ds => .tuple (pys ds)
  | .ty _ => .none
  | .ref _ => .none
  | .dK _ => .none
  | .ins _ _ => .none
  | .scr _ => .none
def pys : List D → List PyData
  | [] => []
  | d :: ds => py d :: pys ds
end
mutual
/-- ints, truths, None, lists and tuples of such -/
def numD : D → Bool
  | .non => true
  | .bl _ => true
  | .int _ => true
  | .lst ds => numDs ds
  | .tup ds => numDs ds
  | _ => false
def numDs : List D → Bool
  | [] => true
  | d :: ds => numD d && numDs ds
end
mutual
theorem see_num {M : Mp} : ∀ {d : D}, numD d = true → See M d (py d)
  | .non, _ => .non
  | .bl b, _ => .bl b
  | .int i, _ => .int i
  | .lst ds, h => .lst (sees_num (by simpa [numD] using h))
  | .tup ds, h => .tup (sees_num (by simpa [numD] using h))
  | .str _, h => by simp [numD] at h
  | .ty _, h => by simp [numD] at h
  | .ref _, h => by simp [numD] at h
  | .dK _, h => by simp [numD] at h
  | .ins _ _, h => by simp [numD] at h
  | .scr _, h => by simp [numD] at h
theorem sees_num {M : Mp} : ∀ {d : List D}, numDs d = true → SeeL M d (pys d)
  | [], _ => .nil
  | d :: ds, h => by
    simp only [numDs, Bool.and_eq_true] at h
    exact .cons (see_num h.1) (sees_num h.2)
end
mutual
theorem lay_num : ∀ {d : D}, numD d = true → (py d).canLay0 = true
  | .non, _ => rfl
  | .bl b, _ => rfl
  | .int i, _ => rfl
  | .lst ds, h => by
    show PyData.canLayAll0 (pys ds) = true
    exact lays_num (by simpa [numD] using h)
  | .tup ds, h => by
    show PyData.canLayAll0 (pys ds) = true
    exact lays_num (by simpa [numD] using h)
  | .str _, h => by simp [numD] at h
  | .ty _, h => by simp [numD] at h
  | .ref _, h => by simp [numD] at h
  | .dK _, h => by simp [numD] at h
  | .ins _ _, h => by simp [numD] at h
  | .scr _, h => by simp [numD] at h
theorem lays_num : ∀ {d : List D}, numDs d = true → PyData.canLayAll0 (pys d) = true
  | [], _ => rfl
  | d :: ds, h => by
    simp only [numDs, Bool.and_eq_true] at h
    show ((py d).canLay0 && PyData.canLayAll0 (pys ds)) = true
    rw [lay_num h.1, lays_num h.2]; rfl
end
mutual
theorem eqv_self : ∀ p : PyData, p.canLay0 = true → PyData.eqv p p = true
  | .none, _ => rfl
  | .bool b, _ => by simp [PyData.eqv]
  | .int i, _ => by simp [PyData.eqv]
  | .str x, _ => by simp [PyData.eqv]
  | .list xs, h => by
    show PyData.eqvAll xs xs = true
    exact eqvs_self xs h
  | .tuple xs, h => by
    show PyData.eqvAll xs xs = true
    exact eqvs_self xs h
  | .dict _, h => by cases h
theorem eqvs_self : ∀ p : List PyData, PyData.canLayAll0 p = true → PyData.eqvAll p p = true
  | [], _ => rfl
  | x :: xs, h => by
    have h : (x.canLay0 && PyData.canLayAll0 xs) = true := h
    rw [Bool.and_eq_true] at h
    show (PyData.eqv x x && PyData.eqvAll xs xs) = true
    rw [eqv_self x h.1, eqvs_self xs h.2]; rfl
end
mutual
def dep : D → Nat
  | .lst ds => deps ds + 1
  | .tup ds => deps ds + 1
  | _ => 0
def deps : List D → Nat
  | [] => 0
  | d :: ds => max (dep d) (deps ds)
end
mutual
theorem dep_py : ∀ d : D, (py d).depth = dep d
  | .non => rfl
  | .bl _ => rfl
  | .int _ => rfl
  | .str _ => rfl
  | .ty _ => rfl
  | .ref _ => rfl
  | .dK _ => rfl
  | .ins _ _ => rfl
  | .scr _ => rfl
  | .lst ds => by
    show PyData.depthAll (pys ds) + 1 = deps ds + 1
    rw [deps_py ds]
  | .tup ds => by
    show PyData.depthAll (pys ds) + 1 = deps ds + 1
    rw [deps_py ds]
theorem deps_py : ∀ d : List D, PyData.depthAll (pys d) = deps d
  | [] => rfl
  | d :: ds => by
    show max (py d).depth (PyData.depthAll (pys ds)) = max (dep d) (deps ds)
    rw [dep_py d, deps_py ds]
end
theorem shaped_num {d : D} (h : numD d = true) (hd : dep d ≤ 64) : SeqAt.shaped (py d) = true := by
  unfold SeqAt.shaped
  rw [lay_num h, dep_py]
  simpa using hd
theorem deps_le {n : Nat} : ∀ {ds : List D}, (∀ d ∈ ds, dep d ≤ n) → deps ds ≤ n
  | [], _ => Nat.zero_le _
  | d :: ds, h => by
    show max (dep d) (deps ds) ≤ n
    exact Nat.max_le.mpr ⟨h d List.mem_cons_self, deps_le fun x hx => h x (List.mem_cons_of_mem _ hx)⟩
theorem numDs_of {ds : List D} (h : ∀ d ∈ ds, numD d = true) : numDs ds = true := by
  induction ds with
  | nil => rfl
  | cons d ds ih =>
    show (numD d && numDs ds) = true
    rw [h d List.mem_cons_self, ih fun x hx => h x (List.mem_cons_of_mem _ hx)]; rfl
theorem dEqA_of {x y : D} {M : Mp} {Q : DK} (h : dEq x y M Q) : dEqA x y M Q := by
  unfold dEqA
  split
  · obtain ⟨p, q, s1, s2, _, _, h⟩ := h
    cases s1
    cases s2
    rw [eqv_int] at h
    exact h
  · exact h
theorem dNeA_of {x y : D} {M : Mp} {Q : DK} (h : dNe x y M Q) : dNeA x y M Q := by
  unfold dNeA
  split
  · obtain ⟨p, q, s1, s2, _, _, h⟩ := h
    cases s1
    cases s2
    rw [eqv_int] at h
    exact h
  · exact h
/-- the two are seen as the same plain data -/
theorem dEq_same {x y : D} {p : PyData} {M : Mp} {Q : DK} (s1 : See M x p) (s2 : See M y p) (h : SeqAt.shaped p = true) (q : Q (.bl true) M) : dEqA x y M Q :=
  dEqA_of ⟨p, p, s1, s2, h, h, by rw [eqv_self p (SeqAt.canLay_of_shaped h)]; exact q⟩
theorem dNe_same {x y : D} {p : PyData} {M : Mp} {Q : DK} (s1 : See M x p) (s2 : See M y p) (h : SeqAt.shaped p = true) (q : Q (.bl false) M) : dNeA x y M Q :=
  dNeA_of ⟨p, p, s1, s2, h, h, by rw [eqv_self p (SeqAt.canLay_of_shaped h)]; exact q⟩

abbrev il (xs : List Int) : List D := xs.map D.int
theorem num_il {xs : List Int} : numDs (il xs) = true := numDs_of fun d h => by
  obtain ⟨i, _, rfl⟩ := List.mem_map.mp h
  rfl
theorem dep_il {xs : List Int} : deps (il xs) ≤ 0 := deps_le fun d h => by
  obtain ⟨i, _, rfl⟩ := List.mem_map.mp h
  exact Nat.le_refl _

theorem delM_updM {M : Mp} {p : Addr} {o : DO} (h : M p = none) : delM (updM M p o) p = M := by
  funext b
  unfold delM updM
  by_cases e : b = p
  · rw [if_pos e, e, h]
  · rw [if_neg e, if_neg e]
theorem lcEnd_val {M : Mp} {p : Addr} {Q : DK} {ds : List D} (h : M p = none) (q : Q (.lst ds) M) : lcEnd false p Q (updM M p (.lst ds)) :=
  ⟨ds, updM_same, by rw [delM_updM h]; exact q⟩
theorem lc_go {chk : Mp → Prop} {g : DG} {tt : DT} {te : DE} {ρ0 : DEnv} {p : Addr} {R : Mp → Prop} {M : Mp} {b : D → Bool} {f : D → D} (hc : ∀ acc, chk (updM M p (.lst acc))) : ∀ (xs acc : List D), acc.length + xs.length ≤ sizeLine →
    (∀ x ∈ xs, ∀ acc (Q1 : Mp → Prop) (Q : DK), (b x = false → Q1 (updM M p (.lst acc))) → (b x = true → Q (f x) (updM M p (.lst acc))) → g x ρ0 fun ρ1 => tt ρ1 (updM M p (.lst acc)) fun c M1 => match c with
      | true => te ρ1 M1 Q
      | false => Q1 M1) → R (updM M p (.lst (acc ++ (xs.filter b).map f))) → dLc chk g tt te ρ0 p R xs (updM M p (.lst acc))
  | [], acc, _, _, hR => ⟨hc acc, by rw [List.filter_nil, List.map_nil, List.append_nil] at hR; exact hR⟩
  | x :: xs, acc, hl, hx, hR => by
    have hl : acc.length + (xs.length + 1) ≤ sizeLine := hl
    have hx' := fun y hy => hx y (List.mem_cons_of_mem _ hy)
    refine ⟨hc acc, hx x List.mem_cons_self acc (dLc chk g tt te ρ0 p R xs) (fun y M2 => ∃ acc', M2 p = some (.lst acc') ∧ acc'.length < sizeLine ∧ dLc chk g tt te ρ0 p R xs (updM M2 p (.lst (acc' ++ [y])))) (fun e => ?_) fun e => ?_⟩
    · rw [List.filter_cons_of_neg (by rw [e]; exact Bool.false_ne_true)] at hR
      exact lc_go hc xs acc (by omega) hx' hR
    · rw [List.filter_cons_of_pos e, List.map_cons] at hR
      refine ⟨acc, updM_same, by omega, ?_⟩
      rw [updM_updM]
      refine lc_go hc xs (acc ++ [f x]) (by rw [List.length_append, List.length_singleton]; omega) hx' ?_
      rw [List.append_assoc]
      exact hR
/-- [f x for x in xs], nothing is changed -/
theorem lc_map {chk : Mp → Prop} {g : DG} {te : DE} {ρ0 : DEnv} {p : Addr} {Q : DK} {M : Mp} (f : D → D) {xs : List D} (hp : M p = none) (hl : xs.length ≤ sizeLine) (hc : ∀ acc, chk (updM M p (.lst acc)))
    (hx : ∀ x ∈ xs, ∀ acc (Q : DK), Q (f x) (updM M p (.lst acc)) → g x ρ0 fun ρ1 => te ρ1 (updM M p (.lst acc)) Q) (q : Q (.lst (xs.map f)) M) : dLc chk g dYes te ρ0 p (lcEnd false p Q) xs (updM M p (.lst [])) := by
  have ef : ∀ l : List D, l.filter (fun _ => true) = l := fun l => List.filter_eq_self.mpr fun _ _ => rfl
  refine lc_go (b := fun _ => true) (f := f) hc xs [] (by simpa using hl) (fun x h acc Q1 Q' _ h2 => hx x h acc Q' (h2 rfl)) ?_
  rw [ef, List.nil_append]
  exact lcEnd_val hp q
theorem lc_filter {chk : Mp → Prop} {g : DG} {tt : DT} {te : DE} {ρ0 : DEnv} {p : Addr} {Q : DK} {M : Mp} (b : D → Bool) (f : D → D) {xs : List D} (hp : M p = none) (hl : xs.length ≤ sizeLine) (hc : ∀ acc, chk (updM M p (.lst acc)))
    (hx : ∀ x ∈ xs, ∀ acc (Q1 : Mp → Prop) (Q : DK), (b x = false → Q1 (updM M p (.lst acc))) → (b x = true → Q (f x) (updM M p (.lst acc))) → g x ρ0 fun ρ1 => tt ρ1 (updM M p (.lst acc)) fun c M1 => match c with
      | true => te ρ1 M1 Q
      | false => Q1 M1) (q : Q (.lst ((xs.filter b).map f)) M) : dLc chk g tt te ρ0 p (lcEnd false p Q) xs (updM M p (.lst [])) := by
  refine lc_go (b := b) (f := f) hc xs [] (by simpa using hl) hx ?_
  rw [List.nil_append]
  exact lcEnd_val hp q
/-- all that is known stays, but for what stands at S -/
def Kp (S : List Addr) (M M' : Mp) : Prop := ∀ b o, M b = some o → b ∉ S → M' b = some o
theorem Kp.refl {S : List Addr} {M : Mp} : Kp S M M := fun _ _ h _ => h
theorem Kp.trans {S S' : List Addr} {M M1 M2 : Mp} (a : Kp S M M1) (b : Kp S' M1 M2) : Kp (S ++ S') M M2 := fun c o h n => b c o (a c o h fun z => n (List.mem_append_left _ z)) fun z => n (List.mem_append_right _ z)
theorem Kp.trans0 {S : List Addr} {M M1 M2 : Mp} (a : Kp S M M1) (b : Kp S M1 M2) : Kp S M M2 := fun c o h n => b c o (a c o h n) n
theorem Kp.new {S : List Addr} {M : Mp} {p : Addr} {o : DO} (h : M p = none) : Kp S M (updM M p o) := fun b u e _ => by rw [updM_ne (neM e h)]; exact e
theorem Kp.put {M : Mp} {p : Addr} {o : DO} : Kp [p] M (updM M p o) := fun b u e n => by rw [updM_ne (by simpa using n)]; exact e
theorem Kp.weak {S S' : List Addr} {M M' : Mp} (a : Kp S M M') (h : ∀ b ∈ S, b ∈ S') : Kp S' M M' := fun b o e n => a b o e fun z => n (h b z)
/-- what was written was new -/
theorem Kp.off {S : List Addr} {p : Addr} {M M1 M2 : Mp} (h : M p = none) (a : Kp S M M1) (b : Kp (p :: S) M1 M2) : Kp S M M2 := fun c o e n => b c o (a c o e n) fun z => by
  rcases List.mem_cons.mp z with z | z
  · rw [z, h] at e; cases e
  · exact n z
end SD
namespace SD
open PySem PySem.Spec PyProof.Rows L2 NdefX LamX
/-- what the law's promise is begun on: the script alone (where the written part of the heap does not hold it), and empty tables -/
def H0 (K : PySem.W.Frag) (a : Addr) (u : HO) (ts : List Addr) : Hp := fun b => if b = a ∧ (K.lookup a).isNone = true then some u else if b ∈ ts then some (.tbl #[]) else none
theorem H0_some {K : PySem.W.Frag} {a b : Addr} {u o : HO} {ts : List Addr} (h : H0 K a u ts b = some o) : (b = a ∧ K.lookup a = none ∧ o = u) ∨ (b ∈ ts ∧ o = .tbl #[]) := by
  unfold H0 at h
  by_cases h1 : b = a ∧ (K.lookup a).isNone = true
  · rw [if_pos h1] at h; cases h; exact .inl ⟨h1.1, Option.isNone_iff_eq_none.mp h1.2, rfl⟩
  · rw [if_neg h1] at h
    by_cases h2 : b ∈ ts
    · rw [if_pos h2] at h; cases h; exact .inr ⟨h2, rfl⟩
    · rw [if_neg h2] at h; cases h
theorem H0_tab {K : PySem.W.Frag} {a b : Addr} {u : HO} {ts : List Addr} (h : b ∈ ts) (n : a ∉ ts) : H0 K a u ts b = some (.tbl #[]) := by
  unfold H0
  rw [if_neg (fun z => n (by rw [← z.1]; exact h)), if_pos h]
theorem law_callG {P : Program} {w : World} {K : PySem.W.Frag} {mg mb : Str → Option Value} {k : Nat} {fa a : Addr} {cs : List (Addr × Addr)} {T : List NTab} {x : Str} {sp : DSp} {s : Shared} {vs : List Value} {ns : List Int}
    (KX : K.In s.heap) (hns : s.heap.Ns mainGlobals mg) (hb : s.heap.Ns builtinsNs mb) (hbb : ∀ x : Str, x ≠ "__name__" → mb x = bootBuiltins x) (hlim : s.heap.NoLimit) (hg : s.gens = #[])
    (hT : ∀ p ∈ cs, s.heap.get? p.2 = some { cls := .none, data := .fields #[] }) (nT : ∀ p ∈ cs, K.lookup p.2 = none) (C : ∀ p ∈ cs, PySem.W.CodeHd s.heap p.1 p.2) (eT : ∀ p ∈ T, ∃ c, (c, p.1) ∈ cs)
    (hbm : ∃ (bm : Addr) (ob : Obj), mg "__builtins__" = some (.ref bm) ∧ bm ≠ builtinsNs ∧ s.heap.get? bm = some ob ∧ ob.cls = .type "module" ∧ ob.dict = some builtinsNs ∧ ob.data = .plain)
    (ha : s.heap.get? a = some { cls := .type "list", data := .seq vs.toArray }) (hi : IntsAre vs ns) (hl : ns.length ≤ sizeLine) (hr : Rm k callerA)
    (F : ∀ base : Heap, K.In base → base.Ns mainGlobals mg → (∀ p ∈ cs, TabB base mg p.1 p.2) → Dfn P w K mg base T k fa [x] [] sp)
    (hsp : ∀ M, sp [.scr (il ns)] M (fun d _ => d = .bl true) fun _ _ _ => False) :
    codeAny (model P w) callerA (.call (.ref fa) ⟨[.ref a], []⟩) (fun r s' => r = .ok (.ret (.bool true)) ∧ OldK s.heap s'.heap ∧ s'.os = s.os ∧ AllBare s'.gens) s := by
  let ts := cs.map (·.2)
  let ob : Obj := { cls := .type "list", data := .seq vs.toArray }
  let H := H0 K a (.frz ob (.lst (ns.map V.int))) ts
  have lenV := hi.length
  have rv := vals_ints hi
  have atT : ∀ b ∈ ts, s.heap.get? b = some { cls := .none, data := .fields #[] } ∧ K.lookup b = none := fun b hb => by
    obtain ⟨p, hp, rfl⟩ := List.mem_map.mp hb
    exact ⟨hT p hp, nT p hp⟩
  have aT : a ∉ ts := fun z => by
    have := (atT a z).1
    rw [ha] at this
    have z' : Data.seq vs.toArray _ = Data.fields #[] := congrArg Obj.data (Option.some.inj this)
    cases z'
  -- an object that is neither a sequence nor a table is not tracked
  have out : ∀ {b : Addr} {o : Obj}, s.heap.get? b = some o → (∀ ys n, o.data ≠ .seq ys n) → o.data ≠ .fields #[] → H b = none := fun {b o} e h1 h2 => by
    cases q : H b with
    | none => rfl
    | some u =>
      rcases H0_some q with ⟨rfl, _, _⟩ | ⟨hb, _⟩
      · rw [ha] at e; cases e; exact (h1 _ _ rfl).elim
      · rw [(atT b hb).1] at e; cases e; exact (h2 rfl).elim
  have outK : ∀ {b : Addr} {o : Obj}, K.lookup b = some o → H b = none := fun {b o} e => by
    cases q : H b with
    | none => rfl
    | some u =>
      rcases H0_some q with ⟨rfl, n, _⟩ | ⟨hb, _⟩
      · rw [n] at e; cases e
      · rw [(atT b hb).2] at e; cases e
  have seen : ∀ {b : Addr} {o : Obj}, s.heap.get? b = some o → (∀ ys n, o.data ≠ .seq ys n) → o.data ≠ .fields #[] → (hidT s.heap H).get? b = some o := fun {b o} e h1 h2 => hidT_get e (out e h1 h2)
  have nsK : ∀ {b : Addr} {m : Str → Option Value}, s.heap.Ns b m → (hidT s.heap H).Ns b m := fun {b m} ⟨o, es, ep, e, d, r⟩ => ⟨o, es, ep, seen e (fun _ _ z => by rw [d] at z; cases z) (fun z => by rw [d] at z; cases z), d, r⟩
  have kb : K.In (hidT s.heap H) := fun b o e => hidT_get (KX b o e) (outK e)
  have tb : ∀ p ∈ cs, TabB (hidT s.heap H) mg p.1 p.2 := fun p hp => by
    refine ⟨?_, ?_, fun z => ?_⟩
    · obtain ⟨o, us, f1, f2, f3, f4, f5, f6, f7, e1, r1, r2, r3, r4⟩ := C p hp
      refine ⟨o, us, f1, f2, f3, f4, f5, f6, f7, seen e1 (fun _ _ z => by rw [r2] at z; cases z) (fun z => ?_), r1, r2, r3, r4⟩
      rw [r2] at z
      cases z
      simp at r3
    · obtain ⟨bm, o, b1, b2, b3, b4, b5, b6⟩ := hbm
      have pl : ∀ ys n, o.data ≠ .seq ys n := fun _ _ z => by rw [b6] at z; cases z
      have pf : o.data ≠ .fields #[] := fun z => by rw [b6] at z; cases z
      refine ⟨bm, o, b1, b2, fun q => ?_, fun q => ?_, seen b3 pl pf, b4, b5, b6⟩
      · obtain ⟨o2, es, ep, e, hd, _⟩ := hns
        rw [← q, b3] at e
        cases e
        rw [b6] at hd; cases hd
      · rw [q, hT p hp] at b3
        cases b3
        cases b6
    · obtain ⟨o, es, ep, e, hd, _⟩ := hns
      rw [z, hT p hp] at e
      cases e
      cases hd
  have hok : HOk P w H s.heap := fun b u q => by
    rcases H0_some q with ⟨rfl, n, rfl⟩ | ⟨hb, rfl⟩
    · exact ⟨ha, by rw [List.length_map]; exact hl, vs, _, rv, ha⟩
    · exact (atT b hb).1
  have hM : L2.Mod K mg (hidT s.heap H) := ⟨kb, nsK hns, ⟨mb, nsK hb, hbb⟩, let ⟨mc, h1, h2⟩ := hlim; ⟨mc, nsK h1, h2⟩⟩
  have e0 : Env0 P w K mg (hidT s.heap H) callerA [] s H := ⟨rfl, hM, fun b o e => of_hidT e, Nat.le_of_eq (hidT_size _ _), trivial, fun b hb => absurd (show b ∈ ([] : List Addr) from hb) (by simp), hok, .of_eq hg⟩
  -- the data: the script
  let G : Hp := fun b => if b = a ∧ (K.lookup a).isNone = true then some (.frz ob (.lst (ns.map V.int))) else none
  have gH : Same G H := fun b u e => by
    have e : (if b = a ∧ (K.lookup a).isNone = true then some (HO.frz ob (.lst (ns.map V.int))) else none) = some u := e
    show (if b = a ∧ (K.lookup a).isNone = true then some (HO.frz ob (.lst (ns.map V.int))) else if b ∈ ts then some (.tbl #[]) else none) = some u
    by_cases h1 : b = a ∧ (K.lookup a).isNone = true
    · rw [if_pos h1] at e ⊢; exact e
    · rw [if_neg h1] at e; cases e
  have rp : Rp K ⟨T, G⟩ G (fun _ => none) H := by
    refine ⟨gH, fun _ _ z => (by cases z), fun p hp => ?_, Same.refl _, fun b ps z => ?_⟩
    · obtain ⟨c, hc⟩ := eT p hp
      refine ⟨#[], H0_tab (List.mem_map.mpr ⟨_, hc, rfl⟩) aT, ?_, ?_⟩
      · first | exact trivial | simp [TriplesOk] | (show TriplesOk []; constructor)
      · intro pos cv hcv
        first | cases hcv | simp [codeAmong] at hcv
    · have z : (if b = a ∧ (K.lookup a).isNone = true then some (HO.frz ob (.lst (ns.map V.int))) else none) = some (.tbl ps) := z
      by_cases h1 : b = a ∧ (K.lookup a).isNone = true
      · rw [if_pos h1] at z; cases z
      · rw [if_neg h1] at z; cases z
  have sq : SqL K G a (ns.map V.int) := by
    cases hk : K.lookup a with
    | some o =>
      have e := KX a o hk
      rw [ha] at e
      cases e
      exact .inr ⟨_, vs.toArray, _, hk, rfl, rfl, rfl, by rw [List.size_toArray, lenV]; exact hl, by simpa using rv⟩
    | none => exact .inl (.inr ⟨ob, if_pos ⟨rfl, by rw [hk]; rfl⟩⟩)
  have isI : ∀ ns : List Int, IsL K G (ns.map V.int) (il ns) := fun ns => by
    induction ns with
    | nil => exact .nil
    | cons i r ih => exact .cons (.int i) ih
  have isS : IsL K G [.ref a] [.scr (il ns)] := .cons (.scr sq (isI ns)) .nil
  obtain ⟨fd, ds, dvs, FG, bn, dv, iv⟩ := (F _ kb (nsK hns) tb).ex
  have ed : dvs = [] := by
    have := iv G
    cases this
    rfl
  subst ed
  have edd : ds = [] := by cases dv; rfl
  subst edd
  have bt : BindsTo s fd ⟨[.ref a], []⟩ ([x].zip ([.ref a] ++ [])) := bn s [.ref a] KX rfl
  refine codeAny_mono ((FG G).run callerA [] s H ⟨[.ref a], []⟩ [.ref a] [.ref a] (fun v _ => v = .bl true) (fun _ _ _ => False) hr e0 bt (.cons rfl .nil) ⟨G, _, _, _, _, rp, isS, hsp _, fun d M' v G' H' e _ _ i => by
    rw [e] at i
    cases i
    rfl, fun _ _ _ _ _ _ z _ _ _ => z.elim⟩) fun r s' h => ?_
  cases r with
  | error e =>
    obtain ⟨_, _, _, _, _, _, _, _, _, _, _, _, z⟩ := h
    exact z.elim
  | ok fl =>
    cases fl with
    | next => exact False.elim h
    | brk => exact False.elim h
    | cont => exact False.elim h
    | ret u =>
      obtain ⟨v, H', os, bare, un, hok', r', q⟩ := h
      have q' : v = .bl true := q
      subst q'
      obtain rfl : u = Value.bool true := r'
      have key : ∀ b o, b ∉ ts → s.heap.get? b = some o → s'.heap.get? b = some o := fun b o nb e => by
        cases q : H b with
        | none => exact un.keep b o e q (by intro z; exact absurd (show b ∈ ([] : List Addr) from z) (by simp)) (by simp)
        | some u =>
          rcases H0_some q with ⟨rfl, _, rfl⟩ | ⟨hb, _⟩
          · rw [ha] at e
            cases e
            exact (hok' _ _ (un.frzs _ _ _ q)).1
          · exact absurd hb nb
      have grown : ∀ b ∈ ts, ∃ more : Array Value, s'.heap.get? b = some { cls := .none, data := .fields more } := fun b hb => by
        obtain ⟨more, z⟩ := un.tbls b #[] (H0_tab hb aT)
        exact ⟨_, hok' b _ z⟩
      refine ⟨rfl, ⟨fun b o e => ?_, fun b o e => ?_⟩, os, bare⟩
      · by_cases hb : b ∈ ts
        · obtain ⟨p, hp, ep⟩ := List.mem_map.mp hb
          obtain ⟨more, hm⟩ := grown b hb
          have hTb := (atT b hb).1
          rw [hTb] at e
          cases e
          subst ep
          exact .inr (.inl ⟨((C p hp).tab (hT p hp)).isCodeTable, rfl, #[], more, rfl, by rw [Array.empty_append]; exact hm⟩)
        · exact .inl (key b o hb e)
      · by_cases hb : b ∈ ts
        · obtain ⟨more, hm⟩ := grown b hb
          exact ⟨_, hm⟩
        · exact ⟨o, key b o hb e⟩
end SD
namespace SD
open PySem PySem.Spec PyProof.Rows L2 NdefX LamX
/-- what is known of the law at the head's heap h -/
def LawD (l : PySem.W.OpenLaw) (w : World) (K : PySem.W.Frag) (k n : Nat) (x : Str) (mg : Str → Option Value) (fa : Addr) (h : Heap) : Prop :=
  ∃ (cs : List (Addr × Addr)) (T : List NTab) (sp : DSp), (∀ p ∈ cs, h.get? p.2 = some { cls := .none, data := .fields #[] }) ∧ (∀ p ∈ cs, K.lookup p.2 = none) ∧ (∀ p ∈ cs, PySem.W.CodeHd h p.1 p.2) ∧ (∀ p ∈ T, ∃ c, (c, p.1) ∈ cs) ∧
    (∀ (ns : List Int) (M : Mp), ns.length ≤ n → (∀ z ∈ ns, Builtin.Int.intBits z ≤ 1048576) → sp [.scr (il ns)] M (fun d _ => d = .bl true) fun _ _ _ => False) ∧
    ∀ base : Heap, K.In base → base.Ns mainGlobals mg → (∀ p ∈ cs, TabB base mg p.1 p.2) → Dfn l.prog w K mg base T k fa [x] [] sp
theorem walk_sd {l : PySem.W.OpenLaw} {n k : Nat} {q : Program} {loose : List Str} {XP : (Str → Option Value) → Heap → Prop} {YP : World → Heap → Prop} {d : DefRec} {K : Params → PySem.W.Frag} {x : Str}
    (hn : l.most = some n) (hn2 : n ≤ sizeLine) (hdf : d.params.defaults = []) (hr : Rm k callerA) (hY : ∀ (w : World) (h : Heap), YP w h → (K w.params).In h)
    (F : ∀ (w : World) (mg : Str → Option Value) (fa : Addr) (h : Heap), YP w h → (K w.params).In h → h.Ns mainGlobals mg → mg d.name = some (.ref fa) → LawD l w (K w.params) k n x mg fa h) :
    PySem.W.WalkO q loose XP YP l.row.toRowW d [] (fun f vs => PySem.call f vs) := by
  refine Att.attach_callB hn hdf fun w s₀ s₁ mg mb fa o pm cd doc a vs ns G Y ho hd hcd hmg hobj hints hlen hbits hg => ?_
  have KX := hY w _ Y
  obtain ⟨cs, T, sp, hT, nT, C, eT, hsp, hF⟩ := F w mg fa _ Y KX G.T.g hmg
  exact law_callG KX G.T.g G.T.b G.T.builtins G.T.nolimit hg hT nT C eT G.T.bmain hobj hints (Nat.le_trans hlen hn2) hr hF fun M => hsp ns M hlen hbits
end SD
namespace Q
open PySem PySem.Spec PyProof.Rows L2 SD
def top (i : Nat) : Stmt := PySem.Challenge.pw_sparetails_k28_rules_called.main.body.getD i (.Pass ⟨0, 0, 0, 0⟩)
abbrev st_is_integer : Stmt := top 6
abbrev st_are_marks : Stmt := top 8
abbrev st_Array___init__ : Stmt := inClass (top 9) 0
abbrev st_Window___init__ : Stmt := inClass (top 10) 0
abbrev st_Window___len__ : Stmt := inClass (top 10) 1
abbrev st_Window_need_cell : Stmt := inClass (top 10) 2
abbrev st_Window___setitem__ : Stmt := inClass (top 10) 4
abbrev st_Window_marks : Stmt := inClass (top 10) 8
abbrev st_Window_room : Stmt := inClass (top 10) 9
abbrev st_Window_spare : Stmt := inClass (top 10) 10
abbrev st_Window_shares : Stmt := inClass (top 10) 11
abbrev st_Window_cut : Stmt := inClass (top 10) 12
abbrev st_Window_copied : Stmt := inClass (top 10) 13
abbrev st_Window_new_room : Stmt := inClass (top 10) 14
abbrev st_Window_put : Stmt := inClass (top 10) 15
abbrev st_Window___iadd__ : Stmt := inClass (top 10) 16
abbrev st_window_on : Stmt := top 11
abbrev st__law_bag : Stmt := top 13
abbrev st__law_take : Stmt := top 14
abbrev st__law_grown : Stmt := top 15
abbrev st__law_other : Stmt := top 16
abbrev st__law_side : Stmt := top 17
abbrev st__law_side___law_rule : Stmt := (defBody (top 17)).getD 0 (.Pass ⟨0, 0, 0, 0⟩)
abbrev st__law_far_right : Stmt := top 18
abbrev st__law_far_right___law_rule : Stmt := (defBody (top 18)).getD 0 (.Pass ⟨0, 0, 0, 0⟩)
abbrev st_law : Stmt := top 19
abbrev N_is_integer : List Str := ["thing"]
theorem nd_is_integer : (N_is_integer).Nodup := by decide +kernel
theorem sc_is_integer : FnScope N_is_integer ["thing"] (defScope st_is_integer) := ⟨rfl, rfl, rfl, nd_is_integer, rfl, by decide +kernel, by decide +kernel⟩
abbrev N_are_marks : List Str := ["thing", "mark"]
theorem nd_are_marks : (N_are_marks).Nodup := by decide +kernel
theorem sc_are_marks : FnScope N_are_marks ["thing"] (defScope st_are_marks) := ⟨rfl, rfl, rfl, nd_are_marks, rfl, by decide +kernel, by decide +kernel⟩
abbrev N_Array___init__ : List Str := ["self", "marks", "room"]
theorem nd_Array___init__ : (N_Array___init__).Nodup := by decide +kernel
theorem sc_Array___init__ : FnScope N_Array___init__ ["self", "marks", "room"] (defScope st_Array___init__) := ⟨rfl, rfl, rfl, nd_Array___init__, rfl, by decide +kernel, by decide +kernel⟩
abbrev N_Window___init__ : List Str := ["self", "marks", "rule"]
theorem nd_Window___init__ : (N_Window___init__).Nodup := by decide +kernel
theorem sc_Window___init__ : FnScope N_Window___init__ ["self", "marks", "rule"] (defScope st_Window___init__) := ⟨rfl, rfl, rfl, nd_Window___init__, rfl, by decide +kernel, by decide +kernel⟩
abbrev N_Window___len__ : List Str := ["self"]
theorem nd_Window___len__ : (N_Window___len__).Nodup := by decide +kernel
theorem sc_Window___len__ : FnScope N_Window___len__ ["self"] (defScope st_Window___len__) := ⟨rfl, rfl, rfl, nd_Window___len__, rfl, by decide +kernel, by decide +kernel⟩
abbrev N_Window_need_cell : List Str := ["self", "at"]
theorem nd_Window_need_cell : (N_Window_need_cell).Nodup := by decide +kernel
theorem sc_Window_need_cell : FnScope N_Window_need_cell ["self", "at"] (defScope st_Window_need_cell) := ⟨rfl, rfl, rfl, nd_Window_need_cell, rfl, by decide +kernel, by decide +kernel⟩
abbrev N_Window___setitem__ : List Str := ["self", "at", "mark"]
theorem nd_Window___setitem__ : (N_Window___setitem__).Nodup := by decide +kernel
theorem sc_Window___setitem__ : FnScope N_Window___setitem__ ["self", "at", "mark"] (defScope st_Window___setitem__) := ⟨rfl, rfl, rfl, nd_Window___setitem__, rfl, by decide +kernel, by decide +kernel⟩
abbrev N_Window_marks : List Str := ["self"]
theorem nd_Window_marks : (N_Window_marks).Nodup := by decide +kernel
theorem sc_Window_marks : FnScope N_Window_marks ["self"] (defScope st_Window_marks) := ⟨rfl, rfl, rfl, nd_Window_marks, rfl, by decide +kernel, by decide +kernel⟩
abbrev N_Window_room : List Str := ["self"]
theorem nd_Window_room : (N_Window_room).Nodup := by decide +kernel
theorem sc_Window_room : FnScope N_Window_room ["self"] (defScope st_Window_room) := ⟨rfl, rfl, rfl, nd_Window_room, rfl, by decide +kernel, by decide +kernel⟩
abbrev N_Window_spare : List Str := ["self"]
theorem nd_Window_spare : (N_Window_spare).Nodup := by decide +kernel
theorem sc_Window_spare : FnScope N_Window_spare ["self"] (defScope st_Window_spare) := ⟨rfl, rfl, rfl, nd_Window_spare, rfl, by decide +kernel, by decide +kernel⟩
abbrev N_Window_shares : List Str := ["self", "other"]
theorem nd_Window_shares : (N_Window_shares).Nodup := by decide +kernel
theorem sc_Window_shares : FnScope N_Window_shares ["self", "other"] (defScope st_Window_shares) := ⟨rfl, rfl, rfl, nd_Window_shares, rfl, by decide +kernel, by decide +kernel⟩
abbrev N_Window_cut : List Str := ["self", "many"]
theorem nd_Window_cut : (N_Window_cut).Nodup := by decide +kernel
theorem sc_Window_cut : FnScope N_Window_cut ["self", "many"] (defScope st_Window_cut) := ⟨rfl, rfl, rfl, nd_Window_cut, rfl, by decide +kernel, by decide +kernel⟩
abbrev N_Window_copied : List Str := ["self"]
theorem nd_Window_copied : (N_Window_copied).Nodup := by decide +kernel
theorem sc_Window_copied : FnScope N_Window_copied ["self"] (defScope st_Window_copied) := ⟨rfl, rfl, rfl, nd_Window_copied, rfl, by decide +kernel, by decide +kernel⟩
abbrev N_Window_new_room : List Str := ["self", "needed", "room"]
theorem nd_Window_new_room : (N_Window_new_room).Nodup := by decide +kernel
theorem sc_Window_new_room : FnScope N_Window_new_room ["self", "needed"] (defScope st_Window_new_room) := ⟨rfl, rfl, rfl, nd_Window_new_room, rfl, by decide +kernel, by decide +kernel⟩
abbrev N_Window_put : List Str := ["self", "marks", "length"]
theorem nd_Window_put : (N_Window_put).Nodup := by decide +kernel
theorem sc_Window_put : FnScope N_Window_put ["self", "marks"] (defScope st_Window_put) := ⟨rfl, rfl, rfl, nd_Window_put, rfl, by decide +kernel, by decide +kernel⟩
abbrev N_Window___iadd__ : List Str := ["self", "marks"]
theorem nd_Window___iadd__ : (N_Window___iadd__).Nodup := by decide +kernel
theorem sc_Window___iadd__ : FnScope N_Window___iadd__ ["self", "marks"] (defScope st_Window___iadd__) := ⟨rfl, rfl, rfl, nd_Window___iadd__, rfl, by decide +kernel, by decide +kernel⟩
abbrev N_window_on : List Str := ["array", "length", "rule", "found"]
theorem nd_window_on : (N_window_on).Nodup := by decide +kernel
theorem sc_window_on : FnScope N_window_on ["array", "length", "rule"] (defScope st_window_on) := ⟨rfl, rfl, rfl, nd_window_on, rfl, by decide +kernel, by decide +kernel⟩
abbrev N__law_bag : List Str := ["_law_script", "_law_cell"]
theorem nd__law_bag : (N__law_bag).Nodup := by decide +kernel
theorem sc__law_bag : FnScope N__law_bag ["_law_script"] (defScope st__law_bag) := ⟨rfl, rfl, rfl, nd__law_bag, rfl, by decide +kernel, by decide +kernel⟩
abbrev N__law_take : List Str := ["_law_bag_here", "_law_many", "_law_cell", "_law_mixed", "_law_value", "_law_begin", "_law_second"]
theorem nd__law_take : (N__law_take).Nodup := by decide +kernel
theorem sc__law_take : FnScope N__law_take ["_law_bag_here", "_law_many"] (defScope st__law_take) := ⟨rfl, rfl, rfl, nd__law_take, rfl, by decide +kernel, by decide +kernel⟩
abbrev N__law_grown : List Str := ["_law_bag_here", "_law_windows", "_law_spots", "_law_calls", "_law_notes", "_law_at", "_law_window", "_law_marks", "_law_before", "_law_needed", "_law_moves", "_law_one"]
theorem nd__law_grown : (N__law_grown).Nodup := by decide +kernel
theorem sc__law_grown : FnScope N__law_grown ["_law_bag_here", "_law_windows", "_law_spots", "_law_calls", "_law_notes"] (defScope st__law_grown) := ⟨rfl, rfl, rfl, nd__law_grown, rfl, by decide +kernel, by decide +kernel⟩
abbrev N__law_other : List Str := ["_law_bag_here", "_law_windows", "_law_spots", "_law_at", "_law_way", "_law_window"]
theorem nd__law_other : (N__law_other).Nodup := by decide +kernel
theorem sc__law_other : FnScope N__law_other ["_law_bag_here", "_law_windows", "_law_spots"] (defScope st__law_other) := ⟨rfl, rfl, rfl, nd__law_other, rfl, by decide +kernel, by decide +kernel⟩
abbrev N__law_side : List Str := ["_law_side_here", "_law_windows", "_law_notes", "_law_rule"]
theorem nd__law_side : (N__law_side).Nodup := by decide +kernel
theorem sc__law_side : FnScope N__law_side ["_law_side_here", "_law_windows", "_law_notes"] (defScope st__law_side) := ⟨rfl, rfl, rfl, nd__law_side, rfl, by decide +kernel, by decide +kernel⟩
abbrev N__law_side___law_rule : List Str := ["_law_elder", "_law_least", "_law_side_here", "_law_notes", "_law_windows", "_law_one"]
theorem nd__law_side___law_rule : (N__law_side___law_rule).Nodup := by decide +kernel
abbrev ct__law_side___law_rule : CloT := ⟨st__law_side___law_rule, "_law_rule", "_law_side.<locals>._law_rule", ["_law_side_here", "_law_notes", "_law_windows"]⟩
theorem sc__law_side___law_rule : NdefX.NScope N__law_side___law_rule ["_law_elder", "_law_least"] ["_law_side_here", "_law_notes", "_law_windows"] (C8.fnScope st__law_side___law_rule) := NdefX.nscope_by (by decide +kernel)
abbrev N__law_far_right : List Str := ["_law_rule", "_law_window", "_law_longer", "_law_both", "_law_told"]
theorem nd__law_far_right : (N__law_far_right).Nodup := by decide +kernel
theorem sc__law_far_right : FnScope N__law_far_right [] (defScope st__law_far_right) := ⟨rfl, rfl, rfl, nd__law_far_right, rfl, by decide +kernel, by decide +kernel⟩
abbrev N__law_far_right___law_rule : List Str := ["_law_room", "_law_needed"]
theorem nd__law_far_right___law_rule : (N__law_far_right___law_rule).Nodup := by decide +kernel
abbrev ct__law_far_right___law_rule : CloT := ⟨st__law_far_right___law_rule, "_law_rule", "_law_far_right.<locals>._law_rule", []⟩
theorem sc__law_far_right___law_rule : NdefX.NScope N__law_far_right___law_rule ["_law_room", "_law_needed"] [] (C8.fnScope st__law_far_right___law_rule) := NdefX.nscope_by (by decide +kernel)
abbrev N_law : List Str := ["_law_script", "_law_bag_here", "_law_turn", "_law_asked", "_law_calls", "_law_notes", "_law_sides", "_law_rooms", "_law_k", "_law_one_rule", "_law_step", "_law_plain", "_law_side_here", "_law_one"]
theorem nd_law : (N_law).Nodup := by decide +kernel
theorem sc_law : FnScope N_law ["_law_script"] (defScope st_law) := ⟨rfl, rfl, rfl, nd_law, rfl, by decide +kernel, by decide +kernel⟩
/-- where the classes and the defs stand -/
structure Ad where
  c_TailError : Addr
  c_Wrong : Addr
  c_NoCell : Addr
  c_BadRoom : Addr
  c_Array : Addr
  c_Window : Addr
  f_is_integer : Addr
  f_are_marks : Addr
  m_Array___init__ : Addr
  m_Window___init__ : Addr
  m_Window___len__ : Addr
  m_Window_need_cell : Addr
  m_Window___setitem__ : Addr
  m_Window_marks : Addr
  m_Window_room : Addr
  p_Window_room : Addr
  m_Window_spare : Addr
  p_Window_spare : Addr
  m_Window_shares : Addr
  m_Window_cut : Addr
  m_Window_copied : Addr
  m_Window_new_room : Addr
  m_Window_put : Addr
  m_Window___iadd__ : Addr
  f_window_on : Addr
  f__law_bag : Addr
  f__law_take : Addr
  f__law_grown : Addr
  f__law_other : Addr
  f__law_side : Addr
  f__law_far_right : Addr
  f_law : Addr
/-- what the module holds -/
structure Tx (K : PySem.W.Frag) (mg : Str → Option Value) (a : Ad) : Prop where
  cl_Window : Cls K a.c_Window
  g_Array : mg "Array" = some (.ref a.c_Array)
  g_Window : mg "Window" = some (.ref a.c_Window)
  g__law_bag : mg "_law_bag" = some (.ref a.f__law_bag)
  g__law_far_right : mg "_law_far_right" = some (.ref a.f__law_far_right)
  g__law_grown : mg "_law_grown" = some (.ref a.f__law_grown)
  g__law_other : mg "_law_other" = some (.ref a.f__law_other)
  g__law_side : mg "_law_side" = some (.ref a.f__law_side)
  g__law_take : mg "_law_take" = some (.ref a.f__law_take)
  g_are_marks : mg "are_marks" = some (.ref a.f_are_marks)
  g_is_integer : mg "is_integer" = some (.ref a.f_is_integer)
  g_window_on : mg "window_on" = some (.ref a.f_window_on)
  me_Window_copied : Meth K a.c_Window "copied" a.m_Window_copied
  me_Window_cut : Meth K a.c_Window "cut" a.m_Window_cut
  me_Window_marks : Meth K a.c_Window "marks" a.m_Window_marks
  me_Window_need_cell : Meth K a.c_Window "need_cell" a.m_Window_need_cell
  me_Window_new_room : Meth K a.c_Window "new_room" a.m_Window_new_room
  me_Window_put : Meth K a.c_Window "put" a.m_Window_put
  me_Window_shares : Meth K a.c_Window "shares" a.m_Window_shares
  mk_Array : Mk K a.c_Array a.m_Array___init__
  mk_Window : Mk K a.c_Window a.m_Window___init__
  n_abs : mg "abs" = none
  n_all : mg "all" = none
  n_bool : mg "bool" = none
  n_int : mg "int" = none
  n_isinstance : mg "isinstance" = none
  n_len : mg "len" = none
  n_list : mg "list" = none
  n_range : mg "range" = none
  ne_Array : NoEq K a.c_Array
  ns_Window : PySem.W.noSeq K a.c_Window = true
  pr_Window_room : PropOf K a.c_Window "room" a.p_Window_room a.m_Window_room
  pr_Window_spare : PropOf K a.c_Window "spare" a.p_Window_spare a.m_Window_spare
  sf_Window : PySem.W.selfFirst K a.c_Window = true
  sp_Window___iadd__ : Spec K a.c_Window "__iadd__" a.m_Window___iadd__
  sp_Window___len__ : Spec K a.c_Window "__len__" a.m_Window___len__
  sp_Window___setitem__ : Spec K a.c_Window "__setitem__" a.m_Window___setitem__
  fo_Array_held : FldOk K a.c_Array "held"
  fo_Array_limit : FldOk K a.c_Array "limit"
  fo_Window_its_array : FldOk K a.c_Window "its_array"
  fo_Window_its_length : FldOk K a.c_Window "its_length"
  fo_Window_its_rule : FldOk K a.c_Window "its_rule"
end Q
namespace Q
open PySem PySem.Spec PyProof.Rows L2 SD
def winF (A : Addr) (n : Int) (r : D) : List (Str × D) := [("its_array", .ref A), ("its_length", .int n), ("its_rule", r)]
def arrF (h : Addr) (l : Int) : List (Str × D) := [("held", .ref h), ("limit", .int l)]
/-- a window at x on the array at A, whose cells are held at h -/
structure WinAt (a : Ad) (M : Mp) (x A h : Addr) (n : Nat) (lim : Int) (r : D) (xs : List Int) : Prop where
  win : M x = some (.ins a.c_Window (winF A n r))
  arr : M A = some (.ins a.c_Array (arrF h lim))
  lst : M h = some (.lst (il xs))
/-- the rule that a window may have -/
def rule (K : PySem.W.Frag) (a : Ad) (s1 s2 : List D → DSp) : D → List D → Mp → DK → DX → Prop := fun g ds M R RX => rdClo ct__law_side___law_rule s1 g ds M R RX ∨ rdClo ct__law_far_right___law_rule s2 g ds M R RX

def sp_is_integer (K : PySem.W.Frag) (a : Ad) : DSp := fun ds M R _ => ∃ i, ds = [.int i] ∧ R (.bl true) M
def sp_are_marks (K : PySem.W.Frag) (a : Ad) : DSp := fun ds M R _ => ∃ x xs, ds = [x] ∧ lstOf M x = some (il xs) ∧ xs ≠ [] ∧ xs.length ≤ sizeLine ∧ R (.bl true) M
def sp_Array___init__ (K : PySem.W.Frag) (a : Ad) : DSp := fun ds M R _ => ∃ s x ys l, ds = [.ref s, x, .int l] ∧ M s = some (.ins a.c_Array []) ∧ lstOf M x = some ys ∧
  ∀ h M', M h = none → Kp [s] M M' → M' h = some (.lst ys) → M' s = some (.ins a.c_Array (arrF h l)) → R .non M'
def sp_Window___init__ (K : PySem.W.Frag) (a : Ad) : DSp := fun ds M R _ => ∃ s x xs r, ds = [.ref s, x, r] ∧ M s = some (.ins a.c_Window []) ∧ lstOf M x = some (il xs) ∧ xs ≠ [] ∧ xs.length ≤ sizeLine ∧ x ≠ .ref s ∧
  ∀ A h M', M A = none → M h = none → A ≠ h → Kp [s] M M' → WinAt a M' s A h xs.length xs.length r xs → R .non M'
def sp_Window___len__ (K : PySem.W.Frag) (a : Ad) : DSp := fun ds M R _ => ∃ x A h n lim r xs, ds = [.ref x] ∧ WinAt a M x A h n lim r xs ∧ n ≤ xs.length ∧ R (.int n) M
def sp_Window_need_cell (K : PySem.W.Frag) (a : Ad) : DSp := fun ds M R _ => ∃ x A h n lim r xs i, ds = [.ref x, .int i] ∧ WinAt a M x A h n lim r xs ∧ 0 ≤ i ∧ i < n ∧ R .non M
def sp_Window___setitem__ (K : PySem.W.Frag) (a : Ad) : DSp := fun ds M R _ => ∃ x A h n lim r xs i v, ds = [.ref x, .int i, .int v] ∧ WinAt a M x A h n lim r xs ∧ n ≤ xs.length ∧ 0 ≤ i ∧ i < n ∧ R .non (updM M h (.lst (il (xs.set i.toNat v))))
def sp_Window_marks (K : PySem.W.Frag) (a : Ad) : DSp := fun ds M R _ => ∃ x A h n lim r xs, ds = [.ref x] ∧ WinAt a M x A h n lim r xs ∧ n ≤ xs.length ∧ R (.lst (il (xs.take n))) M
def sp_Window_room (K : PySem.W.Frag) (a : Ad) : DSp := fun ds M R _ => ∃ x A h n lim r xs, ds = [.ref x] ∧ WinAt a M x A h n lim r xs ∧ R (.int lim) M
def sp_Window_spare (K : PySem.W.Frag) (a : Ad) : DSp := fun ds M R _ => ∃ x A h n lim r xs, ds = [.ref x] ∧ WinAt a M x A h n lim r xs ∧ R (.int (lim - n)) M
def sp_Window_shares (K : PySem.W.Frag) (a : Ad) : DSp := fun ds M R _ => ∃ x y A B n m r q h g l k, ds = [.ref x, .ref y] ∧ M x = some (.ins a.c_Window (winF A n r)) ∧ M y = some (.ins a.c_Window (winF B m q)) ∧ M A = some (.ins a.c_Array (arrF h l)) ∧ M B = some (.ins a.c_Array (arrF g k)) ∧ R (.bl (decide (A = B))) M
def sp_window_on (K : PySem.W.Frag) (a : Ad) : DSp := fun ds M R _ => ∃ A n r, ds = [.ref A, .int n, r] ∧ ∀ z M', M z = none → Kp [] M M' → M' z = some (.ins a.c_Window (winF A n r)) → R (.ref z) M'
def sp_Window_cut (K : PySem.W.Frag) (a : Ad) : DSp := fun ds M R _ => ∃ x A h n lim r xs m, ds = [.ref x, .int m] ∧ WinAt a M x A h n lim r xs ∧ 1 ≤ m ∧ m ≤ n ∧ ∀ z M', M z = none → Kp [] M M' → M' z = some (.ins a.c_Window (winF A m r)) → R (.ref z) M'
def sp_Window_copied (K : PySem.W.Frag) (a : Ad) : DSp := fun ds M R _ => ∃ x A h n lim r xs, ds = [.ref x] ∧ WinAt a M x A h n lim r xs ∧ 1 ≤ n ∧ n ≤ xs.length ∧ xs.length ≤ sizeLine ∧
  ∀ z A' h' M', M z = none → M A' = none → M h' = none → A' ≠ h' → Kp [] M M' → WinAt a M' z A' h' n n r (xs.take n) → R (.ref z) M'
def sp__law_side___law_rule (K : PySem.W.Frag) (a : Ad) : List D → DSp := fun ws ds M R _ => ∃ (sa na wa : Addr) (calls notes : List D) (wins : List Addr) (elder least : Int), ws = [.ref sa, .ref na, .ref wa] ∧ ds = [.int elder, .int least] ∧ M sa = some (.lst calls) ∧ M na = some (.lst notes) ∧ M wa = some (.lst (wins.map D.ref)) ∧
  sa ≠ na ∧ sa ≠ wa ∧ na ≠ wa ∧ calls.length < sizeLine ∧ notes.length < sizeLine ∧ wins.length ≤ sizeLine ∧ ∃ mk : Addr → D, (∀ x ∈ wins, ∃ A h n lim r xs, WinAt a M x A h n lim r xs ∧ n ≤ xs.length ∧ h ≠ sa ∧ mk x = .lst (il (xs.take n))) ∧
  R (.int (least + ((calls.length + 1 : Nat) : Int) % 3)) (updM (updM M sa (.lst (calls ++ [.tup [.int elder, .int least]]))) na (.lst (notes ++ [.lst (wins.map mk)])))
def sp__law_far_right___law_rule (K : PySem.W.Frag) (a : Ad) : List D → DSp := fun ws ds M R _ => ∃ x y, ds = [x, y] ∧ R (.int (10 ^ 39)) M
def sp_Window_new_room (K : PySem.W.Frag) (a : Ad) : DSp := fun ds M R RX => ∃ x A h n lim r xs needed, ds = [.ref x, .int needed] ∧ WinAt a M x A h n lim r xs ∧
  ((r = .non ∧ R (.int needed) M) ∨ (isNon r = false ∧ IsFnD K M r ∧ rule K a (sp__law_side___law_rule K a) (sp__law_far_right___law_rule K a) r [.int lim, .int needed] M (fun d M' => ∃ room, d = .int room ∧ needed ≤ room ∧ R d M') fun _ _ _ => False))
def sp_Window_put (K : PySem.W.Frag) (a : Ad) : DSp := fun ds M R RX => ∃ x y A h n lim r xs ys, ds = [.ref x, y] ∧ WinAt a M x A h n lim r xs ∧ lstOf M y = some (il ys) ∧ y ≠ .ref h ∧ n ≤ xs.length ∧ xs.length + ys.length ≤ sizeLine ∧
  (lim < ((n + ys.length : Nat) : Int) → (let go := fun (room : Int) (M1 : Mp) => M1 x = some (.ins a.c_Window (winF A n r)) ∧ ∀ z A' h' M2, M1 z = none → M1 A' = none → M1 h' = none → A' ≠ h' → z ≠ A' → Kp [] M1 M2 → WinAt a M2 z A' h' (n + ys.length) room r (xs.take n ++ ys) → R (.ref z) M2
    (r = .non ∧ go (n + ys.length : Nat) M) ∨ (isNon r = false ∧ IsFnD K M r ∧ rule K a (sp__law_side___law_rule K a) (sp__law_far_right___law_rule K a) r [.int lim, .int ((n + ys.length : Nat) : Int)] M (fun d M' => ∃ room, d = .int room ∧ ((n + ys.length : Nat) : Int) ≤ room ∧ go room M') fun _ _ _ => False))) ∧
  (((n + ys.length : Nat) : Int) ≤ lim → ∀ z M2, M z = none → Kp [h] M M2 → WinAt a M2 z A h (n + ys.length) lim r (xs.take n ++ ys ++ xs.drop (n + ys.length)) → R (.ref z) M2)
def sp_Window___iadd__ (K : PySem.W.Frag) (a : Ad) : DSp := sp_Window_put K a
/-- the bag: what is left, the seed, how many are taken, the cells -/
def bagD (l s : Int) (t : Nat) (cells : List Int) : List D := [.int l, .int s, .int t, .lst (il cells)]
def BagOk (M : Mp) (b : Addr) : Prop := ∃ l s t cells, M b = some (.lst (bagD l s t cells)) ∧ 0 ≤ l ∧ 0 ≤ s ∧ s < 2147483647 ∧ cells.length ≤ sizeLine
def sp__law_bag (K : PySem.W.Frag) (a : Ad) : DSp := fun ds M R _ => ∃ ns, ds = [.scr (il ns)] ∧ ns.length ≤ sizeLine ∧ ∀ b M', M b = none → Kp [] M M' → BagOk M' b → R (.ref b) M'
def sp__law_take (K : PySem.W.Frag) (a : Ad) : DSp := fun ds M R _ => ∃ b m, ds = [.ref b, .int m] ∧ BagOk M b ∧ 0 < m ∧ m < 1073741824 ∧ ∀ i M', 0 ≤ i → i < m → Kp [b] M M' → BagOk M' b → R (.int i) M'

/-- one of the two sides: its lists, the rule and its cells -/
structure Sd where
  ask : Addr
  call : Addr
  note : Addr
  win : Addr
  room : Addr
  f : Addr
  cs : List Addr
def Sd.own (S : Sd) : List Addr := [S.ask, S.call, S.note, S.win, S.room]
/-- a window of a side: it sees at least one cell, at most B are written; its cells are held at one of hs -/
def Wok (a : Ad) (M : Mp) (f : Addr) (B : Nat) (hs : List Addr) (x : Addr) (lim : Int) : Prop := ∃ A h n xs, WinAt a M x A h n lim (.ref f) xs ∧ 1 ≤ n ∧ n ≤ xs.length ∧ xs.length ≤ B ∧ h ∈ hs
inductive Woks (a : Ad) (M : Mp) (f : Addr) (B : Nat) (hs : List Addr) : List Addr → List Int → Prop
  | nil : Woks a M f B hs [] []
  | cons {x : Addr} {lim : Int} {xs : List Addr} {ls : List Int} : Wok a M f B hs x lim → Woks a M f B hs xs ls → Woks a M f B hs (x :: xs) (lim :: ls)
/-- what the law and the rule have written down of a call; a note -/
def CallD (d : D) : Prop := ∃ i j, d = .tup [.int i, .int j]
structure SideOk (a : Ad) (M : Mp) (S : Sd) (B : Nat) (calls notes : List D) (ws : List Addr) (ls : List Int) (hs : List Addr) : Prop where
  ask : M S.ask = some (.lst calls)
  call : M S.call = some (.lst calls)
  note : M S.note = some (.lst notes)
  win : M S.win = some (.lst (ws.map D.ref))
  room : M S.room = some (.lst (il ls))
  clo : CloAt M S.f ct__law_side___law_rule S.cs [.ref S.ask, .ref S.note, .ref S.win]
  woks : Woks a M S.f B hs ws ls
  ne : ws ≠ []
  nd : S.own.Nodup
  hsL : ∀ h ∈ hs, h ∉ S.own ∧ ∃ xs : List Int, M h = some (.lst (il xs))
  cd : ∀ d ∈ calls, CallD d
  b1 : calls.length ≤ B
  b2 : notes.length ≤ B
  b3 : ws.length ≤ B
def lim0 : Nat := 1000
def sp__law_grown (K : PySem.W.Frag) (a : Ad) : DSp := fun ds M R _ => ∃ b S B calls notes ws ls hs, ds = [.ref b, .ref S.win, .ref S.room, .ref S.call, .ref S.note] ∧ SideOk a M S B calls notes ws ls hs ∧ BagOk M b ∧ b ∉ S.own ∧ b ∉ hs ∧ B ≤ lim0 ∧
  ∀ M' calls' notes' ws' ls' hs', SideOk a M' S (B + 3) calls' notes' ws' ls' hs' → BagOk M' b → Kp (b :: (S.own ++ hs)) M M' → (∀ h ∈ hs', h ∈ hs ∨ M h = none) → R (.bl true) M'
def sp__law_other (K : PySem.W.Frag) (a : Ad) : DSp := fun ds M R _ => ∃ b S B calls notes ws ls hs, ds = [.ref b, .ref S.win, .ref S.room] ∧ SideOk a M S B calls notes ws ls hs ∧ BagOk M b ∧ b ∉ S.own ∧ b ∉ hs ∧ B ≤ lim0 ∧
  ∀ M' ws' ls' hs', SideOk a M' S (B + 3) calls notes ws' ls' hs' → BagOk M' b → Kp (b :: (S.own ++ hs)) M M' → (∀ h ∈ hs', h ∈ hs ∨ M h = none) → R .non M'
def sp__law_side (K : PySem.W.Frag) (a : Ad) : DSp := spMk ct__law_side___law_rule 3 [0, 2, 1]
def sp__law_far_right (K : PySem.W.Frag) (a : Ad) : DSp := fun ds M R _ => ds = [] ∧ ∀ M', R (.bl true) M'
def sp_law (K : PySem.W.Frag) (a : Ad) : DSp := fun ds M R _ => ∃ ns, ds = [.scr (il ns)] ∧ ns.length ≤ 63 ∧ ∀ M', R (.bl true) M'
end Q
namespace Q
open PySem PySem.Spec PyProof.Rows L2 SD
def rd_is_integer (K : PySem.W.Frag) (a : Ad) (W : DW) : DS :=
  dRet (dAndV (dCB (dIsi K) (dCons (dV 0) (dCons (dC (.ty "int")) (dNil)))) (dNotV (dCB (dIsi K) (dCons (dV 0) (dCons (dC (.ty "bool")) (dNil))))))
def rd_are_marks (K : PySem.W.Frag) (a : Ad) (W : DW) : DS :=
  dRet (dAndV (dCB (dIsi K) (dCons (dV 0) (dCons (dC (.ty "list")) (dNil)))) (dAndV (dOp dNeA (dV 0) (dLst false (dNil))) (dCB dAll (dCons (dComp false (iSeq (dV 0)) (gN 1) (dYes) (dCall (sp_is_integer K a) [] W0 (dCons (dV 1) (dNil))) [1]) (dNil)))))
def rd_Array___init__ (K : PySem.W.Frag) (a : Ad) (W : DW) : DS :=
  dSeq (dSto K "held" (dV 0) (dCB (dList true) (dCons (dV 1) (dNil))))
  (dSto K "limit" (dV 0) (dV 2))
def rd_Window___init__ (K : PySem.W.Frag) (a : Ad) (W : DW) : DS :=
  dSeq (dIfS (dNotT (dTru (dCall (sp_are_marks K a) [] W (dCons (dV 1) (dNil)))))
  (dNever)
  (dNext))
  (dSeq (dSto K "its_array" (dV 0) (dMake a.c_Array (sp_Array___init__ K a) [] W (dCons (dV 1) (dCons (dCB dLen (dCons (dV 1) (dNil))) (dNil)))))
  (dSeq (dSto K "its_length" (dV 0) (dCB dLen (dCons (dV 1) (dNil))))
  (dSto K "its_rule" (dV 0) (dV 2))))
def rd_Window___len__ (K : PySem.W.Frag) (a : Ad) (W : DW) : DS :=
  dRet (dCB dLen (dCons (dSl false (dFld K (dFld K (dV 0) "its_array") "held") (dNo) (dSo (dFld K (dV 0) "its_length"))) (dNil)))
def rd_Window_need_cell (K : PySem.W.Frag) (a : Ad) (W : DW) : DS :=
  dIfS (dOrT (dNotT (dTru (dCall (sp_is_integer K a) [] W (dCons (dV 1) (dNil))))) (dNotT (dB (dChain (dI0 fun i j => .bl (decide (i ≤ j))) (dI0 fun i j => .bl (decide (i < j))) (dC (.int 0)) (dV 1) (dFld K (dV 0) "its_length")))))
  (dNever)
  (dNext)
def rd_Window___setitem__ (K : PySem.W.Frag) (a : Ad) (W : DW) : DS :=
  dSeq (dDrop (dMeth a.c_Window "need_cell" (sp_Window_need_cell K a) [] W (dV 0) (dCons (dV 1) (dNil))))
  (dStoI (dFld K (dFld K (dV 0) "its_array") "held") (dV 1) (dV 2))
def rd_Window_marks (K : PySem.W.Frag) (a : Ad) (W : DW) : DS :=
  dRet (dSl false (dFld K (dFld K (dV 0) "its_array") "held") (dNo) (dSo (dFld K (dV 0) "its_length")))
def rd_Window_room (K : PySem.W.Frag) (a : Ad) (W : DW) : DS :=
  dRet (dFld K (dFld K (dV 0) "its_array") "limit")
def rd_Window_spare (K : PySem.W.Frag) (a : Ad) (W : DW) : DS :=
  dRet (dOp (dI0 fun i j => .int (i - j)) (dFld K (dFld K (dV 0) "its_array") "limit") (dFld K (dV 0) "its_length"))
def rd_Window_shares (K : PySem.W.Frag) (a : Ad) (W : DW) : DS :=
  dRet (dOp (dEqR K) (dFld K (dV 0) "its_array") (dFld K (dV 1) "its_array"))
def rd_Window_cut (K : PySem.W.Frag) (a : Ad) (W : DW) : DS :=
  dSeq (dIfS (dOrT (dNotT (dTru (dCall (sp_is_integer K a) [] W (dCons (dV 1) (dNil))))) (dNotT (dB (dChain (dI0 fun i j => .bl (decide (i ≤ j))) (dI0 fun i j => .bl (decide (i ≤ j))) (dC (.int 1)) (dV 1) (dFld K (dV 0) "its_length")))))
  (dNever)
  (dNext))
  (dRet (dCall (sp_window_on K a) [] W (dCons (dFld K (dV 0) "its_array") (dCons (dV 1) (dCons (dFld K (dV 0) "its_rule") (dNil))))))
def rd_Window_copied (K : PySem.W.Frag) (a : Ad) (W : DW) : DS :=
  dRet (dMakeK a.c_Window 1 1 (sp_Window___init__ K a) (fun vs zs => vs ++ zs) W (dCons (dMeth a.c_Window "marks" (sp_Window_marks K a) [] W (dV 0) dNil) (dNil)) (dCons (dFld K (dV 0) "its_rule") (dNil)))
def rd_Window_new_room (K : PySem.W.Frag) (a : Ad) (W : DW) : DS :=
  dSeq (dIfS (dB (dOp dIsN (dFld K (dV 0) "its_rule") (dC .non)))
  (dRet (dV 1))
  (dNext))
  (dSeq (dSet 2 (dCallA K "its_rule" ((fun g ds M R RX => rdClo ct__law_side___law_rule (sp__law_side___law_rule K a) g ds M R RX ∨ rdClo ct__law_far_right___law_rule (sp__law_far_right___law_rule K a) g ds M R RX)) W (dV 0) (dCons (dFld K (dFld K (dV 0) "its_array") "limit") (dCons (dV 1) (dNil)))))
  (dSeq (dIfS (dOrT (dNotT (dTru (dCall (sp_is_integer K a) [] W (dCons (dV 2) (dNil))))) (dB (dOp (dI0 fun i j => .bl (decide (i < j))) (dV 2) (dV 1))))
  (dNever)
  (dNext))
  (dRet (dV 2))))
def rd_Window_put (K : PySem.W.Frag) (a : Ad) (W : DW) : DS :=
  dSeq (dSet 2 (dOp (dAdd false) (dFld K (dV 0) "its_length") (dCB dLen (dCons (dV 1) (dNil)))))
  (dSeq (dIfS (dB (dOp (dI0 fun i j => .bl (decide (j < i))) (dV 2) (dFld K (dFld K (dV 0) "its_array") "limit")))
  (dRet (dCall (sp_window_on K a) [] W (dCons (dMake a.c_Array (sp_Array___init__ K a) [] W (dCons (dOp (dAdd false) (dMeth a.c_Window "marks" (sp_Window_marks K a) [] W (dV 0) dNil) (dCB (dList false) (dCons (dV 1) (dNil)))) (dCons (dMeth a.c_Window "new_room" (sp_Window_new_room K a) [] W (dV 0) (dCons (dV 2) (dNil))) (dNil)))) (dCons (dV 2) (dCons (dFld K (dV 0) "its_rule") (dNil))))))
  (dNext))
  (dSeq (dSlS (dFld K (dFld K (dV 0) "its_array") "held") (dFld K (dV 0) "its_length") (dV 2) (dCB (dList false) (dCons (dV 1) (dNil))))
  (dRet (dCall (sp_window_on K a) [] W (dCons (dFld K (dV 0) "its_array") (dCons (dV 2) (dCons (dFld K (dV 0) "its_rule") (dNil))))))))
def rd_Window___iadd__ (K : PySem.W.Frag) (a : Ad) (W : DW) : DS :=
  dRet (dMeth a.c_Window "put" (sp_Window_put K a) [] W (dV 0) (dCons (dV 1) (dNil)))
def rd_window_on (K : PySem.W.Frag) (a : Ad) (W : DW) : DS :=
  dSeq (dSet 3 (dMakeK a.c_Window 1 1 (sp_Window___init__ K a) (fun vs zs => vs ++ zs) W (dCons (dLst false (dCons (dC (.int 0)) (dNil))) (dNil)) (dCons (dV 2) (dNil))))
  (dSeq (dSto K "its_array" (dV 3) (dV 0))
  (dSeq (dSto K "its_length" (dV 3) (dV 1))
  (dRet (dV 3))))
def rd__law_bag (K : PySem.W.Frag) (a : Ad) (W : DW) : DS :=
  dRet (dLst true (dCons (dC (.int 0)) (dCons (dC (.int 1234567891)) (dCons (dC (.int 0)) (dCons (dComp false (iSeq (dSl false (dV 0) (dNo) (dSo (dC (.int 63))))) (gN 1) (dYes) (dCB dAbs (dCons (dV 1) (dNil))) [1]) (dNil))))))
def rd__law_take (K : PySem.W.Frag) (a : Ad) (W : DW) : DS :=
  dSeq (dIfS (dB (dOp dEqA (dOp dIx (dV 0) (dC (.int 0))) (dC (.int 0))))
  (dSeq (dSet 2 (dC (.int 0)))
  (dSeq (dIfS (dB (dOp (dI0 fun i j => .bl (decide (i < j))) (dOp dIx (dV 0) (dC (.int 2))) (dCB dLen (dCons (dOp dIx (dV 0) (dC (.int 3))) (dNil)))))
  (dSet 2 (dOp dIx (dOp dIx (dV 0) (dC (.int 3))) (dOp dIx (dV 0) (dC (.int 2)))))
  (dNext))
  (dSeq (dAugI (dV 0) (dC (.int 2)) (dC (.int 1)) (dI0 fun i j => .int (i + j)))
  (dSeq (dIfS (dB (dOp (dI0 fun i j => .bl (decide (j ≤ i))) (dV 2) (dC (.int 1000000000000000000))))
  (dStoI (dV 0) (dC (.int 0)) (dV 2))
  (dNext))
  (dSeq (dSet 3 (dOp (dAdd false) (dOp (dAdd false) (dOp (dMul false) (dOp dIx (dV 0) (dC (.int 1))) (dC (.int 48271))) (dOp (dI (fun _ j => 0 < j) fun i j => .int (i % j)) (dCB dInt (dCons (dV 2) (dNil))) (dC (.int 2147483647)))) (dOp (dMul false) (dC (.int 7919)) (dOp dIx (dV 0) (dC (.int 2))))))
  (dStoI (dV 0) (dC (.int 1)) (dOp (dI (fun _ j => 0 < j) fun i j => .int (i % j)) (dCB dInt (dCons (dV 3) (dNil))) (dC (.int 2147483647)))))))))
  (dNext))
  (dSeq (dIfS (dB (dOp (dI0 fun i j => .bl (decide (j < i))) (dOp dIx (dV 0) (dC (.int 0))) (dC (.int 0))))
  (dSeq (dSet 4 (dOp (dI (fun _ j => 0 < j) fun i j => .int (i % j)) (dCB dInt (dCons (dOp dIx (dV 0) (dC (.int 0))) (dNil))) (dV 1)))
  (dSeq (dStoI (dV 0) (dC (.int 0)) (dOp (dI CDiv fun i j => .int (i / j)) (dOp dIx (dV 0) (dC (.int 0))) (dV 1)))
  (dRet (dV 4))))
  (dNext))
  (dSeq (dSet 5 (dOp (dI (fun _ j => 0 < j) fun i j => .int (i % j)) (dCB dInt (dCons (dOp (dMul false) (dOp (dAdd false) (dOp dIx (dV 0) (dC (.int 1))) (dC (.int 1))) (dC (.int 39373))) (dNil))) (dC (.int 1000000007))))
  (dSeq (dSet 6 (dOp (dI (fun _ j => 0 < j) fun i j => .int (i % j)) (dCB dInt (dCons (dOp (dMul false) (dOp (dI (fun _ j => 0 < j) fun i j => .int (i % j)) (dCB dInt (dCons (dOp (dMul false) (dV 5) (dV 5)) (dNil))) (dC (.int 998244353))) (dC (.int 30011))) (dNil))) (dC (.int 998244353))))
  (dSeq (dIfS (dB (dOp (dI0 fun i j => .bl (decide (j < i))) (dV 1) (dC (.int 1000000))))
  (dRet (dOp (dI (fun _ j => 0 < j) fun i j => .int (i % j)) (dCB dInt (dCons (dOp (dAdd false) (dOp (dMul false) (dV 6) (dC (.int 1000000007))) (dV 5)) (dNil))) (dV 1)))
  (dNext))
  (dRet (dOp (dI (fun _ j => 0 < j) fun i j => .int (i % j)) (dCB dInt (dCons (dOp (dI CDiv fun i j => .int (i / j)) (dV 6) (dC (.int 7))) (dNil))) (dV 1)))))))
def rd__law_grown (K : PySem.W.Frag) (a : Ad) (W : DW) : DS :=
  dSeq (dSet 5 (dCall (sp__law_take K a) [] W (dCons (dV 0) (dCons (dCB (fun ds M Q => dLen ds M Q ∨ dLenO a.c_Window (sp_Window___len__ K a) ds M Q) (dCons (dV 1) (dNil))) (dNil)))))
  (dSeq (dPar [6, 7, 8] (dCons (dOp dIx (dV 1) (dV 5)) (dCons (dOp (dMul false) (dLst false (dCons (dC (.int 5)) (dNil))) (dOp (dAdd false) (dC (.int 1)) (dCall (sp__law_take K a) [] W (dCons (dV 0) (dCons (dC (.int 3)) (dNil)))))) (dCons (dComp false (iSeq (dV 1)) (gN 11) (dYes) (dMeth a.c_Window "marks" (sp_Window_marks K a) [] W0 (dV 11) dNil) [11]) (dNil)))))
  (dSeq (dSet 9 (dOp (dAdd false) (dCB (fun ds M Q => dLen ds M Q ∨ dLenO a.c_Window (sp_Window___len__ K a) ds M Q) (dCons (dV 6) (dNil))) (dCB (fun ds M Q => dLen ds M Q ∨ dLenO a.c_Window (sp_Window___len__ K a) ds M Q) (dCons (dV 7) (dNil)))))
  (dSeq (dSet 10 (dOp (dI0 fun i j => .bl (decide (j < i))) (dV 9) (dProp a.c_Window (sp_Window_room K a) (dV 6))))
  (dSeq (dIfS (dTru (dV 10))
  (dSeq (dDrop (dML dAppend (dV 3) (dCons (dTup (dCons (dProp a.c_Window (sp_Window_room K a) (dV 6)) (dCons (dV 9) (dNil)))) dNil)))
  (dDrop (dML dAppend (dV 2) (dCons (dOp (dAdd false) (dV 9) (dOp (dI (fun _ j => 0 < j) fun i j => .int (i % j)) (dCB dInt (dCons (dCB (fun ds M Q => dLen ds M Q ∨ dLenO a.c_Window (sp_Window___len__ K a) ds M Q) (dCons (dV 3) (dNil))) (dNil))) (dC (.int 3)))) dNil))))
  (dDrop (dML dAppend (dV 2) (dCons (dProp a.c_Window (sp_Window_room K a) (dV 6)) dNil))))
  (dSeq (dIfS (dB (dOp dEqA (dCall (sp__law_take K a) [] W (dCons (dV 0) (dCons (dC (.int 2)) (dNil)))) (dC (.int 0))))
  (dSeq (dAug 6 (dV 7) (dIaddO a.c_Window (sp_Window___iadd__ K a)))
  (dDrop (dML dAppend (dV 1) (dCons (dV 6) dNil))))
  (dDrop (dML dAppend (dV 1) (dCons (dMeth a.c_Window "put" (sp_Window_put K a) [] W (dV 6) (dCons (dV 7) (dNil))) dNil))))
  (dRet (dOrV (dNotV (dV 10)) (dOp dEqA (dOp dIx (dV 4) (dNeg (dC (.int 1)))) (dV 8)))))))))
def rd__law_other (K : PySem.W.Frag) (a : Ad) (W : DW) : DS :=
  dSeq (dPar [3, 4] (dCons (dCall (sp__law_take K a) [] W (dCons (dV 0) (dCons (dCB (fun ds M Q => dLen ds M Q ∨ dLenO a.c_Window (sp_Window___len__ K a) ds M Q) (dCons (dV 1) (dNil))) (dNil)))) (dCons (dCall (sp__law_take K a) [] W (dCons (dV 0) (dCons (dC (.int 3)) (dNil)))) (dNil))))
  (dSeq (dSet 5 (dOp dIx (dV 1) (dV 3)))
  (dIfS (dB (dOp dEqA (dV 4) (dC (.int 0))))
  (dSeq (dDrop (dML dAppend (dV 1) (dCons (dMeth a.c_Window "cut" (sp_Window_cut K a) [] W (dV 5) (dCons (dOp (dAdd false) (dC (.int 1)) (dCall (sp__law_take K a) [] W (dCons (dV 0) (dCons (dCB (fun ds M Q => dLen ds M Q ∨ dLenO a.c_Window (sp_Window___len__ K a) ds M Q) (dCons (dV 5) (dNil))) (dNil))))) (dNil))) dNil)))
  (dDrop (dML dAppend (dV 2) (dCons (dProp a.c_Window (sp_Window_room K a) (dV 5)) dNil))))
  (dIfS (dB (dOp dEqA (dV 4) (dC (.int 1))))
  (dSeq (dDrop (dML dAppend (dV 1) (dCons (dMeth a.c_Window "copied" (sp_Window_copied K a) [] W (dV 5) dNil) dNil)))
  (dDrop (dML dAppend (dV 2) (dCons (dCB (fun ds M Q => dLen ds M Q ∨ dLenO a.c_Window (sp_Window___len__ K a) ds M Q) (dCons (dV 5) (dNil))) dNil))))
  (dStoR (dSetO a.c_Window (sp_Window___setitem__ K a)) (dV 5) (dCall (sp__law_take K a) [] W (dCons (dV 0) (dCons (dCB (fun ds M Q => dLen ds M Q ∨ dLenO a.c_Window (sp_Window___len__ K a) ds M Q) (dCons (dV 5) (dNil))) (dNil)))) (dC (.int 3))))))
def rd__law_side___law_rule (K : PySem.W.Frag) (a : Ad) (W : DW) : DS :=
  dSeq (dDrop (dML dAppend (dV 2) (dCons (dTup (dCons (dV 0) (dCons (dV 1) (dNil)))) dNil)))
  (dSeq (dDrop (dML dAppend (dV 3) (dCons (dComp false (iSeq (dV 4)) (gN 5) (dYes) (dMeth a.c_Window "marks" (sp_Window_marks K a) [] W0 (dV 5) dNil) [5]) dNil)))
  (dRet (dOp (dAdd false) (dV 1) (dOp (dI (fun _ j => 0 < j) fun i j => .int (i % j)) (dCB dInt (dCons (dCB dLen (dCons (dV 2) (dNil))) (dNil))) (dC (.int 3))))))
def rd__law_far_right (K : PySem.W.Frag) (a : Ad) (W : DW) : DS :=
  dSeq (dNdef 0 ct__law_far_right___law_rule)
  (dSeq (dSet 1 (dMakeK a.c_Window 1 1 (sp_Window___init__ K a) (fun vs zs => vs ++ zs) W (dCons (dLst false (dCons (dC (.int 1)) (dCons (dC (.int 2)) (dNil)))) (dNil)) (dCons (dV 0) (dNil))))
  (dSeq (dSet 2 (dMeth a.c_Window "put" (sp_Window_put K a) [] W (dV 1) (dCons (dLst false (dCons (dC (.int 3)) (dNil))) (dNil))))
  (dSeq (dSet 3 (dMeth a.c_Window "put" (sp_Window_put K a) [] W (dMeth a.c_Window "cut" (sp_Window_cut K a) [] W (dV 2) (dCons (dC (.int 1)) (dNil))) (dCons (dLst false (dCons (dC (.int 4)) (dNil))) (dNil))))
  (dSeq (dSet 4 (dLst false (dCons (dProp a.c_Window (sp_Window_room K a) (dV 2)) (dCons (dProp a.c_Window (sp_Window_spare K a) (dV 2)) (dCons (dMeth a.c_Window "marks" (sp_Window_marks K a) [] W (dV 2) dNil) (dCons (dMeth a.c_Window "marks" (sp_Window_marks K a) [] W (dV 3) dNil) (dCons (dMeth a.c_Window "shares" (sp_Window_shares K a) [] W (dV 3) (dCons (dV 2) (dNil))) (dCons (dProp a.c_Window (sp_Window_room K a) (dMeth a.c_Window "copied" (sp_Window_copied K a) [] W (dV 2) dNil)) (dNil)))))))))
  (dRet (dOp dEqA (dV 4) (dLst false (dCons (dOp (dI CPow fun i j => .int (i ^ j.toNat)) (dC (.int 10)) (dC (.int 39))) (dCons (dOp (dI0 fun i j => .int (i - j)) (dOp (dI CPow fun i j => .int (i ^ j.toNat)) (dC (.int 10)) (dC (.int 39))) (dC (.int 3))) (dCons (dLst false (dCons (dC (.int 1)) (dCons (dC (.int 4)) (dCons (dC (.int 3)) (dNil))))) (dCons (dLst false (dCons (dC (.int 1)) (dCons (dC (.int 4)) (dNil)))) (dCons (dC (.bl true)) (dCons (dC (.int 3)) (dNil))))))))))))))
def rd__law_far_right___law_rule (K : PySem.W.Frag) (a : Ad) (W : DW) : DS :=
  dRet (dOp (dI CPow fun i j => .int (i ^ j.toNat)) (dC (.int 10)) (dC (.int 39)))
def rd_law (K : PySem.W.Frag) (a : Ad) (W : DW) : DS :=
  dSeq (dSet 1 (dCall (sp__law_bag K a) [] W (dCons (dV 0) (dNil))))
  (dSeq (dFor (iR1 (dCons (dC (.int 3)) dNil)) (gN 2)
  (dSeq (dAsg (dTup (dCons (dLst false (dCons (dLst true (dNil)) (dCons (dLst true (dNil)) (dNil)))) (dCons (dLst false (dCons (dLst true (dNil)) (dCons (dLst true (dNil)) (dNil)))) (dCons (dLst false (dCons (dLst true (dNil)) (dCons (dLst true (dNil)) (dNil)))) (dCons (dLst false (dCons (dLst true (dNil)) (dCons (dLst true (dNil)) (dNil)))) (dCons (dLst true (dNil)) (dNil))))))) (gT (gsC (gN 3) (gsC (gN 4) (gsC (gN 5) (gsC (gN 6) (gsC (gN 7) (gsN))))))))
  (dSeq (dFor (iR1 (dCons (dC (.int 2)) dNil)) (gN 8)
  (dSeq (dSet 9 (dCall (sp__law_side K a) [] W (dCons (dOp dIx (dV 3) (dV 8)) (dCons (dOp dIx (dV 6) (dV 8)) (dCons (dOp dIx (dV 5) (dV 8)) (dNil))))))
  (dSeq (dDrop (dML dAppend (dOp dIx (dV 6) (dV 8)) (dCons (dMakeK a.c_Window 1 1 (sp_Window___init__ K a) (fun vs zs => vs ++ zs) W (dCons (dOp (dMul false) (dLst false (dCons (dC (.int 1)) (dNil))) (dOp (dAdd false) (dC (.int 1)) (dCall (sp__law_take K a) [] W (dCons (dV 1) (dCons (dC (.int 3)) (dNil)))))) (dNil)) (dCons (dV 9) (dNil))) dNil)))
  (dDrop (dML dAppend (dV 7) (dCons (dLst true (dCons (dCB (fun ds M Q => dLen ds M Q ∨ dLenO a.c_Window (sp_Window___len__ K a) ds M Q) (dCons (dOp dIx (dOp dIx (dV 6) (dV 8)) (dC (.int 0))) (dNil))) (dNil))) dNil))))))
  (dSeq (dFor (iR1 (dCons (dC (.int 14)) dNil)) (gN 10)
  (dSeq (dSet 8 (dCall (sp__law_take K a) [] W (dCons (dV 1) (dCons (dC (.int 2)) (dNil)))))
  (dSeq (dIfS (dB (dOp dEqA (dCall (sp__law_take K a) [] W (dCons (dV 1) (dCons (dC (.int 2)) (dNil)))) (dC (.int 0))))
  (dIfS (dNotT (dTru (dCall (sp__law_grown K a) [] W (dCons (dV 1) (dCons (dOp dIx (dV 6) (dV 8)) (dCons (dOp dIx (dV 7) (dV 8)) (dCons (dOp dIx (dV 4) (dV 8)) (dCons (dOp dIx (dV 5) (dV 8)) (dNil)))))))))
  (dRet (dC (.bl false)))
  (dNext))
  (dDrop (dCall (sp__law_other K a) [] W (dCons (dV 1) (dCons (dOp dIx (dV 6) (dV 8)) (dCons (dOp dIx (dV 7) (dV 8)) (dNil)))))))
  (dIfS (dOrT (dB (dOp dNeA (dV 3) (dV 4))) (dB (dOp dNeA (dComp false (iSeq (dV 6)) (gN 12) (dYes) (dComp false (iSeq (dV 12)) (gN 13) (dYes) (dProp a.c_Window (sp_Window_room K a) (dV 13)) [13]) [12]) (dV 7))))
  (dRet (dC (.bl false)))
  (dNext)))))
  (dSeq (dSet 11 (dMake a.c_Window (sp_Window___init__ K a) [.non] W (dCons (dLst false (dCons (dC (.int 1)) (dCons (dC (.int 2)) (dNil)))) (dNil))))
  (dIfS (dB (dOp dNeA (dLst false (dCons (dProp a.c_Window (sp_Window_room K a) (dMeth a.c_Window "put" (sp_Window_put K a) [] W (dV 11) (dCons (dLst false (dCons (dC (.int 3)) (dNil))) (dNil)))) (dCons (dProp a.c_Window (sp_Window_room K a) (dMeth a.c_Window "put" (sp_Window_put K a) [] W (dMeth a.c_Window "cut" (sp_Window_cut K a) [] W (dV 11) (dCons (dC (.int 1)) (dNil))) (dCons (dLst false (dCons (dC (.int 3)) (dNil))) (dNil)))) (dCons (dProp a.c_Window (sp_Window_room K a) (dMeth a.c_Window "put" (sp_Window_put K a) [] W (dMeth a.c_Window "copied" (sp_Window_copied K a) [] W (dV 11) dNil) (dCons (dLst false (dCons (dC (.int 3)) (dCons (dC (.int 4)) (dNil)))) (dNil)))) (dNil))))) (dLst false (dCons (dC (.int 3)) (dCons (dC (.int 2)) (dCons (dC (.int 4)) (dNil)))))))
  (dRet (dC (.bl false)))
  (dNext)))))))
  (dRet (dCall (sp__law_far_right K a) [] W dNil)))
end Q
namespace Q
open PySem PySem.Spec PyProof.Rows L2 SD
section
variable {P : Program} {w : World} {K : PySem.W.Frag} {mg : Str → Option Value} {base : Heap} {T : List NdefX.NTab} {a : Ad}
theorem d_is_integer (Y : Tx K mg a)  : Drv P w K mg base T 0 a.f_is_integer N_is_integer "is_integer" (defScope st_is_integer) (defBody st_is_integer) (fun W => rd_is_integer K a W) := fun B cd A outer s H E W hr tk =>
   (sone (sret (vand (xisi Y.n_isinstance (ac (xv 0) (ac (xty (by rfl) Y.n_int (by decide +kernel)) (an)))) (vone (vnot (xisi Y.n_isinstance (ac (xv 0) (ac (xty (by rfl) Y.n_bool (by decide +kernel)) (an)))))))))
theorem d_are_marks (Y : Tx K mg a) (D_is_integer : Dfn P w K mg base T 1 a.f_is_integer ["thing"] [] (sp_is_integer K a)) : Drv P w K mg base T 2 a.f_are_marks N_are_marks "are_marks" (defScope st_are_marks) (defBody st_are_marks) (fun W => rd_are_marks K a W) := fun B cd A outer s H E W hr tk =>
   (sone (sret (vand (xisi Y.n_isinstance (ac (xv 0) (ac (xty (by rfl) Y.n_list (by decide +kernel)) (an)))) (vand (xcmp (op_neD hr.rm.units) oc_neA (xv 0) (xlst false (an)) (nomark _)) (vone (xall rfl Y.n_all (ac (xlc false [("mark", 1)] rfl nd_are_marks (blkOk_by (by rfl)) (iseq (xv 0)) (fun _ _ _ _ _ => tn nd_are_marks) (fun _ _ _ _ _ => ts0) (fun _ _ _ _ _ => xcall (D_is_integer.mono (by decide)) hr (by rfl) Y.g_is_integer takes0 (ac (xv 1) (an)))) (an))))))))
theorem d_Array___init__ (Y : Tx K mg a)  : Drv P w K mg base T 0 a.m_Array___init__ N_Array___init__ "Array.__init__" (defScope st_Array___init__) (defBody st_Array___init__) (fun W => rd_Array___init__ K a W) := fun B cd A outer s H E W hr tk =>
   (scons (ssto (xv 0) (xlist true Y.n_list (ac (xv 1) (an))))
    (sone (ssto (xv 0) (xv 2))))
theorem d_Window___init__ (Y : Tx K mg a) (D_are_marks : Dfn P w K mg base T 3 a.f_are_marks ["thing"] [] (sp_are_marks K a)) (D_Array___init__ : Dfn P w K mg base T 1 a.m_Array___init__ ["self", "marks", "room"] [] (sp_Array___init__ K a)) : Drv P w K mg base T 4 a.m_Window___init__ N_Window___init__ "Window.__init__" (defScope st_Window___init__) (defBody st_Window___init__) (fun W => rd_Window___init__ K a W) := fun B cd A outer s H E W hr tk =>
   (scons (sif (tnot (ttru (xcall (D_are_marks.mono (by decide)) hr (by rfl) Y.g_are_marks tk (ac (xv 1) (an)))))
    (sone (snever))
    (snil))
    (scons (ssto (xv 0) (xmake Y.mk_Array (D_Array___init__.mono (by decide)) hr (by rfl) Y.g_Array tk (ac (xv 1) (ac (xlen Y.n_len (ac (xv 1) (an))) (an)))))
    (scons (ssto (xv 0) (xlen Y.n_len (ac (xv 1) (an))))
    (sone (ssto (xv 0) (xv 2))))))
theorem d_Window___len__ (Y : Tx K mg a)  : Drv P w K mg base T 0 a.m_Window___len__ N_Window___len__ "Window.__len__" (defScope st_Window___len__) (defBody st_Window___len__) (fun W => rd_Window___len__ K a W) := fun B cd A outer s H E W hr tk =>
   (sone (sret (xlen Y.n_len (ac (xsl false (xfld (xfld (xv 0))) (sno) (sso (xfld (xv 0)))) (an)))))
theorem d_Window_need_cell (Y : Tx K mg a) (D_is_integer : Dfn P w K mg base T 1 a.f_is_integer ["thing"] [] (sp_is_integer K a)) : Drv P w K mg base T 2 a.m_Window_need_cell N_Window_need_cell "Window.need_cell" (defScope st_Window_need_cell) (defBody st_Window_need_cell) (fun W => rd_Window_need_cell K a W) := fun B cd A outer s H E W hr tk =>
   (sone (sif (PW.pt (wor (tnot (ttru (xcall (D_is_integer.mono (by decide)) hr (by rfl) Y.g_is_integer tk (ac (xv 1) (an))))) (wor1 (tnot (tchain op_le op_lt oc_B0 oc_B0 (xint) (xv 1) (xfld (xv 0)))))))
    (sone (snever))
    (snil)))
theorem d_Window___setitem__ (Y : Tx K mg a) (D_Window_need_cell : Dfn P w K mg base T 3 a.m_Window_need_cell ["self", "at"] [] (sp_Window_need_cell K a)) : Drv P w K mg base T 4 a.m_Window___setitem__ N_Window___setitem__ "Window.__setitem__" (defScope st_Window___setitem__) (defBody st_Window___setitem__) (fun W => rd_Window___setitem__ K a W) := fun B cd A outer s H E W hr tk =>
   (scons (sexpr (xmeth (D_Window_need_cell.mono (by decide)) hr Y.cl_Window Y.me_Window_need_cell tk (xv 0) (ac (xv 1) (an))))
    (sone (sstoI (xfld (xfld (xv 0))) (xv 1) (xv 2))))
theorem d_Window_marks (Y : Tx K mg a)  : Drv P w K mg base T 0 a.m_Window_marks N_Window_marks "Window.marks" (defScope st_Window_marks) (defBody st_Window_marks) (fun W => rd_Window_marks K a W) := fun B cd A outer s H E W hr tk =>
   (sone (sret (xsl false (xfld (xfld (xv 0))) (sno) (sso (xfld (xv 0))))))
theorem d_Window_room (Y : Tx K mg a)  : Drv P w K mg base T 0 a.m_Window_room N_Window_room "Window.room" (defScope st_Window_room) (defBody st_Window_room) (fun W => rd_Window_room K a W) := fun B cd A outer s H E W hr tk =>
   (sone (sret (xfld (xfld (xv 0)))))
theorem d_Window_spare (Y : Tx K mg a)  : Drv P w K mg base T 0 a.m_Window_spare N_Window_spare "Window.spare" (defScope st_Window_spare) (defBody st_Window_spare) (fun W => rd_Window_spare K a W) := fun B cd A outer s H E W hr tk =>
   (sone (sret (xsub (xfld (xfld (xv 0))) (xfld (xv 0)))))
theorem d_Window_shares (Y : Tx K mg a)  : Drv P w K mg base T 0 a.m_Window_shares N_Window_shares "Window.shares" (defScope st_Window_shares) (defBody st_Window_shares) (fun W => rd_Window_shares K a W) := fun B cd A outer s H E W hr tk =>
   (sone (sret (xcmp (op_eqR (by have := hr.rm.un; omega)) oc_eqR (xfld (xv 0)) (xfld (xv 1)) (nomark _))))
theorem d_Window_cut (Y : Tx K mg a) (D_is_integer : Dfn P w K mg base T 1 a.f_is_integer ["thing"] [] (sp_is_integer K a)) (D_window_on : Dfn P w K mg base T 7 a.f_window_on ["array", "length", "rule"] [] (sp_window_on K a)) : Drv P w K mg base T 8 a.m_Window_cut N_Window_cut "Window.cut" (defScope st_Window_cut) (defBody st_Window_cut) (fun W => rd_Window_cut K a W) := fun B cd A outer s H E W hr tk =>
   (scons (sif (PW.pt (wor (tnot (ttru (xcall (D_is_integer.mono (by decide)) hr (by rfl) Y.g_is_integer tk (ac (xv 1) (an))))) (wor1 (tnot (tchain op_le op_le oc_B0 oc_B0 (xint) (xv 1) (xfld (xv 0)))))))
    (sone (snever))
    (snil))
    (sone (sret (xcall (D_window_on.mono (by decide)) hr (by rfl) Y.g_window_on tk (ac (xfld (xv 0)) (ac (xv 1) (ac (xfld (xv 0)) (an))))))))
theorem d_Window_copied (Y : Tx K mg a) (D_Window___init__ : DfnK P w K mg base T 5 a.m_Window___init__ ["self", "marks", "rule"] 2 ["rule"] (fun vs zs => vs ++ zs) (sp_Window___init__ K a)) (D_Window_marks : Dfn P w K mg base T 1 a.m_Window_marks ["self"] [] (sp_Window_marks K a)) : Drv P w K mg base T 6 a.m_Window_copied N_Window_copied "Window.copied" (defScope st_Window_copied) (defBody st_Window_copied) (fun W => rd_Window_copied K a W) := fun B cd A outer s H E W hr tk =>
   (sone (sret (xmakeK (n := 1) (ks := ["rule"]) (gD := fun vs zs => vs ++ zs) Y.mk_Window (D_Window___init__.mono (by decide)) hr (by rfl) Y.g_Window tk (ac (xmeth0 (D_Window_marks.mono (by decide)) hr Y.cl_Window Y.me_Window_marks tk (xv 0)) (an)) (kc (xfld (xv 0)) (kn)))))
theorem d_Window_new_room (Y : Tx K mg a) (D__law_side___law_rule : CloOk P w K mg base T 3 ct__law_side___law_rule (sp__law_side___law_rule K a)) (D__law_far_right___law_rule : CloOk P w K mg base T 1 ct__law_far_right___law_rule (sp__law_far_right___law_rule K a)) (D_is_integer : Dfn P w K mg base T 1 a.f_is_integer ["thing"] [] (sp_is_integer K a)) : Drv P w K mg base T 4 a.m_Window_new_room N_Window_new_room "Window.new_room" (defScope st_Window_new_room) (defBody st_Window_new_room) (fun W => rd_Window_new_room K a W) := fun B cd A outer s H E W hr tk =>
   (scons (sif (tcmp op_isN op_is_isN (xfld (xv 0)) (xnon) (nomark _))
    (sone (sret (xv 1)))
    (snil))
    (scons (sset nd_Window_new_room (xcallA ((CallV.clo (D__law_side___law_rule.mono (by decide)) hr tk).or (CallV.clo (D__law_far_right___law_rule.mono (by decide)) hr tk)) (xv 0) (ac (xfld (xfld (xv 0))) (ac (xv 1) (an)))))
    (scons (sif (PW.pt (wor (tnot (ttru (xcall (D_is_integer.mono (by decide)) hr (by rfl) Y.g_is_integer tk (ac (xv 2) (an))))) (wor1 (tcmp op_lt oc_B0 (xv 2) (xv 1) (nomark _)))))
    (sone (snever))
    (snil))
    (sone (sret (xv 2))))))
theorem d_Window_put (Y : Tx K mg a) (D_window_on : Dfn P w K mg base T 7 a.f_window_on ["array", "length", "rule"] [] (sp_window_on K a)) (D_Array___init__ : Dfn P w K mg base T 1 a.m_Array___init__ ["self", "marks", "room"] [] (sp_Array___init__ K a)) (D_Window_marks : Dfn P w K mg base T 1 a.m_Window_marks ["self"] [] (sp_Window_marks K a)) (D_Window_new_room : Dfn P w K mg base T 5 a.m_Window_new_room ["self", "needed"] [] (sp_Window_new_room K a)) : Drv P w K mg base T 8 a.m_Window_put N_Window_put "Window.put" (defScope st_Window_put) (defBody st_Window_put) (fun W => rd_Window_put K a W) := fun B cd A outer s H E W hr tk =>
   (scons (sset nd_Window_put (xadd false (xfld (xv 0)) (xlen Y.n_len (ac (xv 1) (an)))))
    (scons (sif (tcmp op_gt oc_B0 (xv 2) (xfld (xfld (xv 0))) (nomark _))
    (sone (sret (xcall (D_window_on.mono (by decide)) hr (by rfl) Y.g_window_on tk (ac (xmake Y.mk_Array (D_Array___init__.mono (by decide)) hr (by rfl) Y.g_Array tk (ac (xadd false (xmeth0 (D_Window_marks.mono (by decide)) hr Y.cl_Window Y.me_Window_marks tk (xv 0)) (xlist false Y.n_list (ac (xv 1) (an)))) (ac (xmeth (D_Window_new_room.mono (by decide)) hr Y.cl_Window Y.me_Window_new_room tk (xv 0) (ac (xv 2) (an))) (an)))) (ac (xv 2) (ac (xfld (xv 0)) (an)))))))
    (snil))
    (scons (sslS (xfld (xfld (xv 0))) (xfld (xv 0)) (xv 2) (xlist false Y.n_list (ac (xv 1) (an))))
    (sone (sret (xcall (D_window_on.mono (by decide)) hr (by rfl) Y.g_window_on tk (ac (xfld (xv 0)) (ac (xv 2) (ac (xfld (xv 0)) (an))))))))))
theorem d_Window___iadd__ (Y : Tx K mg a) (D_Window_put : Dfn P w K mg base T 9 a.m_Window_put ["self", "marks"] [] (sp_Window_put K a)) : Drv P w K mg base T 10 a.m_Window___iadd__ N_Window___iadd__ "Window.__iadd__" (defScope st_Window___iadd__) (defBody st_Window___iadd__) (fun W => rd_Window___iadd__ K a W) := fun B cd A outer s H E W hr tk =>
   (sone (sret (xmeth (D_Window_put.mono (by decide)) hr Y.cl_Window Y.me_Window_put tk (xv 0) (ac (xv 1) (an)))))
theorem d_window_on (Y : Tx K mg a) (D_Window___init__ : DfnK P w K mg base T 5 a.m_Window___init__ ["self", "marks", "rule"] 2 ["rule"] (fun vs zs => vs ++ zs) (sp_Window___init__ K a)) : Drv P w K mg base T 6 a.f_window_on N_window_on "window_on" (defScope st_window_on) (defBody st_window_on) (fun W => rd_window_on K a W) := fun B cd A outer s H E W hr tk =>
   (scons (sset nd_window_on (xmakeK (n := 1) (ks := ["rule"]) (gD := fun vs zs => vs ++ zs) Y.mk_Window (D_Window___init__.mono (by decide)) hr (by rfl) Y.g_Window tk (ac (xlst false (ac (xint) (an))) (an)) (kc (xv 2) (kn))))
    (scons (ssto (xv 3) (xv 0))
    (scons (ssto (xv 3) (xv 1))
    (sone (sret (xv 3))))))
theorem d__law_bag (Y : Tx K mg a)  : Drv P w K mg base T 0 a.f__law_bag N__law_bag "_law_bag" (defScope st__law_bag) (defBody st__law_bag) (fun W => rd__law_bag K a W) := fun B cd A outer s H E W hr tk =>
   (sone (sret (xlst true (ac (xint) (ac (xint) (ac (xint) (ac (xlc false [("_law_cell", 1)] rfl nd__law_bag (blkOk_by (by rfl)) (iseq (xsl false (xv 0) (sno) (sso (xint)))) (fun _ _ _ _ _ => tn nd__law_bag) (fun _ _ _ _ _ => ts0) (fun _ _ _ _ _ => xabs Y.n_abs (ac (xv 1) (an)))) (an))))))))
theorem d__law_take (Y : Tx K mg a)  : Drv P w K mg base T 0 a.f__law_take N__law_take "_law_take" (defScope st__law_take) (defBody st__law_take) (fun W => rd__law_take K a W) := fun B cd A outer s H E W hr tk =>
   (scons (sif (tcmp (op_eqD hr.rm.units) oc_eqA (xix (xv 0) (xint)) (xint) (nomark _))
    (scons (sset nd__law_take (xint))
    (scons (sif (tcmp op_lt oc_B0 (xix (xv 0) (xint)) (xlen Y.n_len (ac (xix (xv 0) (xint)) (an))) (nomark _))
    (sone (sset nd__law_take (xix (xix (xv 0) (xint)) (xix (xv 0) (xint)))))
    (snil))
    (scons (saugI ip_add oc_ipadd (xv 0) (xint) (xint))
    (scons (sif (tcmp op_ge oc_B0 (xv 2) (xint) (nomark _))
    (sone (sstoI (xv 0) (xint) (xv 2)))
    (snil))
    (scons (sset nd__law_take (xadd false (xadd false (xmul false (xix (xv 0) (xint)) (xint)) (xmod (xintc Y.n_int (ac (xv 2) (an))) (xint))) (xmul false (xint) (xix (xv 0) (xint)))))
    (sone (sstoI (xv 0) (xint) (xmod (xintc Y.n_int (ac (xv 3) (an))) (xint)))))))))
    (snil))
    (scons (sif (tcmp op_gt oc_B0 (xix (xv 0) (xint)) (xint) (nomark _))
    (scons (sset nd__law_take (xmod (xintc Y.n_int (ac (xix (xv 0) (xint)) (an))) (xv 1)))
    (scons (sstoI (xv 0) (xint) (xfdiv (xix (xv 0) (xint)) (xv 1)))
    (sone (sret (xv 4)))))
    (snil))
    (scons (sset nd__law_take (xmod (xintc Y.n_int (ac (xmul false (xadd false (xix (xv 0) (xint)) (xint)) (xint)) (an))) (xint)))
    (scons (sset nd__law_take (xmod (xintc Y.n_int (ac (xmul false (xmod (xintc Y.n_int (ac (xmul false (xv 5) (xv 5)) (an))) (xint)) (xint)) (an))) (xint)))
    (scons (sif (tcmp op_gt oc_B0 (xv 1) (xint) (nomark _))
    (sone (sret (xmod (xintc Y.n_int (ac (xadd false (xmul false (xv 6) (xint)) (xv 5)) (an))) (xv 1))))
    (snil))
    (sone (sret (xmod (xintc Y.n_int (ac (xfdiv (xv 6) (xint)) (an))) (xv 1)))))))))
theorem d__law_grown (Y : Tx K mg a) (D__law_take : Dfn P w K mg base T 1 a.f__law_take ["_law_bag_here", "_law_many"] [] (sp__law_take K a)) (D_Window___len__ : Dfn P w K mg base T 1 a.m_Window___len__ ["self"] [] (sp_Window___len__ K a)) (D_Window_marks : Dfn P w K mg base T 1 a.m_Window_marks ["self"] [] (sp_Window_marks K a)) (D_Window_room : Dfn P w K mg base T 1 a.m_Window_room ["self"] [] (sp_Window_room K a)) (D_Window___iadd__ : Dfn P w K mg base T 11 a.m_Window___iadd__ ["self", "marks"] [] (sp_Window___iadd__ K a)) (D_Window_put : Dfn P w K mg base T 9 a.m_Window_put ["self", "marks"] [] (sp_Window_put K a)) : Drv P w K mg base T 12 a.f__law_grown N__law_grown "_law_grown" (defScope st__law_grown) (defBody st__law_grown) (fun W => rd__law_grown K a W) := fun B cd A outer s H E W hr tk =>
   (scons (sset nd__law_grown (xcall (D__law_take.mono (by decide)) hr (by rfl) Y.g__law_take tk (ac (xv 0) (ac (xlenO (D_Window___len__.mono (by decide)) hr Y.sp_Window___len__ Y.n_len (ac (xv 1) (an))) (an)))))
    (scons (spar3 rfl nd__law_grown (ac (xix (xv 1) (xv 5)) (ac (xmul false (xlst false (ac (xint) (an))) (xadd false (xint) (xcall (D__law_take.mono (by decide)) hr (by rfl) Y.g__law_take tk (ac (xv 0) (ac (xint) (an)))))) (ac (xlc false [("_law_one", 11)] rfl nd__law_grown (blkOk_by (by rfl)) (iseq (xv 1)) (fun _ _ _ _ _ => tn nd__law_grown) (fun _ _ _ _ _ => ts0) (fun _ _ _ _ _ => xmeth0 (D_Window_marks.mono (by decide)) hr Y.cl_Window Y.me_Window_marks takes0 (xv 11))) (an)))))
    (scons (sset nd__law_grown (xadd false (xlenO (D_Window___len__.mono (by decide)) hr Y.sp_Window___len__ Y.n_len (ac (xv 6) (an))) (xlenO (D_Window___len__.mono (by decide)) hr Y.sp_Window___len__ Y.n_len (ac (xv 7) (an)))))
    (scons (sset nd__law_grown (xcmp op_gt oc_B0 (xv 9) (xprop (D_Window_room.mono (by decide)) hr Y.cl_Window Y.pr_Window_room (xv 6)) (nomark _)))
    (scons (sif (ttru (xv 10))
    (scons (sexpr (xappend (xv 3) (xtup (ac (xprop (D_Window_room.mono (by decide)) hr Y.cl_Window Y.pr_Window_room (xv 6)) (ac (xv 9) (an))))))
    (sone (sexpr (xappend (xv 2) (xadd false (xv 9) (xmod (xintc Y.n_int (ac (xlenO (D_Window___len__.mono (by decide)) hr Y.sp_Window___len__ Y.n_len (ac (xv 3) (an))) (an))) (xint)))))))
    (sone (sexpr (xappend (xv 2) (xprop (D_Window_room.mono (by decide)) hr Y.cl_Window Y.pr_Window_room (xv 6))))))
    (scons (sif (tcmp (op_eqD hr.rm.units) oc_eqA (xcall (D__law_take.mono (by decide)) hr (by rfl) Y.g__law_take tk (ac (xv 0) (ac (xint) (an)))) (xint) (nomark _))
    (scons (saug (ip_own (T := ⟨T, B⟩) (D_Window___iadd__.mono (by decide)) hr Y.sp_Window___iadd__ Y.sf_Window) oc_iaddO nd__law_grown (xv 7))
    (sone (sexpr (xappend (xv 1) (xv 6)))))
    (sone (sexpr (xappend (xv 1) (xmeth (D_Window_put.mono (by decide)) hr Y.cl_Window Y.me_Window_put tk (xv 6) (ac (xv 7) (an)))))))
    (sone (sret (vor (vnot (xv 10)) (vone (xcmp (op_eqD hr.rm.units) oc_eqA (xix (xv 4) (xneg (xint))) (xv 8) (nomark _))))))))))))
theorem d__law_other (Y : Tx K mg a) (D__law_take : Dfn P w K mg base T 1 a.f__law_take ["_law_bag_here", "_law_many"] [] (sp__law_take K a)) (D_Window___len__ : Dfn P w K mg base T 1 a.m_Window___len__ ["self"] [] (sp_Window___len__ K a)) (D_Window_cut : Dfn P w K mg base T 9 a.m_Window_cut ["self", "many"] [] (sp_Window_cut K a)) (D_Window_room : Dfn P w K mg base T 1 a.m_Window_room ["self"] [] (sp_Window_room K a)) (D_Window_copied : Dfn P w K mg base T 7 a.m_Window_copied ["self"] [] (sp_Window_copied K a)) (D_Window___setitem__ : Dfn P w K mg base T 5 a.m_Window___setitem__ ["self", "at", "mark"] [] (sp_Window___setitem__ K a)) : Drv P w K mg base T 10 a.f__law_other N__law_other "_law_other" (defScope st__law_other) (defBody st__law_other) (fun W => rd__law_other K a W) := fun B cd A outer s H E W hr tk =>
   (scons (spar rfl nd__law_other (ac (xcall (D__law_take.mono (by decide)) hr (by rfl) Y.g__law_take tk (ac (xv 0) (ac (xlenO (D_Window___len__.mono (by decide)) hr Y.sp_Window___len__ Y.n_len (ac (xv 1) (an))) (an)))) (ac (xcall (D__law_take.mono (by decide)) hr (by rfl) Y.g__law_take tk (ac (xv 0) (ac (xint) (an)))) (an))))
    (scons (sset nd__law_other (xix (xv 1) (xv 3)))
    (sone (sif (tcmp (op_eqD hr.rm.units) oc_eqA (xv 4) (xint) (nomark _))
    (scons (sexpr (xappend (xv 1) (xmeth (D_Window_cut.mono (by decide)) hr Y.cl_Window Y.me_Window_cut tk (xv 5) (ac (xadd false (xint) (xcall (D__law_take.mono (by decide)) hr (by rfl) Y.g__law_take tk (ac (xv 0) (ac (xlenO (D_Window___len__.mono (by decide)) hr Y.sp_Window___len__ Y.n_len (ac (xv 5) (an))) (an))))) (an)))))
    (sone (sexpr (xappend (xv 2) (xprop (D_Window_room.mono (by decide)) hr Y.cl_Window Y.pr_Window_room (xv 5))))))
    (sone (sif (tcmp (op_eqD hr.rm.units) oc_eqA (xv 4) (xint) (nomark _))
    (scons (sexpr (xappend (xv 1) (xmeth0 (D_Window_copied.mono (by decide)) hr Y.cl_Window Y.me_Window_copied tk (xv 5))))
    (sone (sexpr (xappend (xv 2) (xlenO (D_Window___len__.mono (by decide)) hr Y.sp_Window___len__ Y.n_len (ac (xv 5) (an)))))))
    (sone (sstoR (set_own (T := ⟨T, B⟩) (D_Window___setitem__.mono (by decide)) hr Y.sp_Window___setitem__ Y.ns_Window) sc_own (xv 5) (xcall (D__law_take.mono (by decide)) hr (by rfl) Y.g__law_take tk (ac (xv 0) (ac (xlenO (D_Window___len__.mono (by decide)) hr Y.sp_Window___len__ Y.n_len (ac (xv 5) (an))) (an)))) (xint)))))))))
theorem d__law_side___law_rule (Y : Tx K mg a) (D_Window_marks : Dfn P w K mg base T 1 a.m_Window_marks ["self"] [] (sp_Window_marks K a)) : DrvC P w K mg base T 2 N__law_side___law_rule ct__law_side___law_rule (fun W => rd__law_side___law_rule K a W) := fun B f c cl A outer s H E W hr tk =>
   (scons (sexpr (xappend (xv 2) (xtup (ac (xv 0) (ac (xv 1) (an))))))
    (scons (sexpr (xappend (xv 3) (xlc false [("_law_one", 5)] rfl nd__law_side___law_rule (blkOk_by (by rfl)) (iseq (xv 4)) (fun _ _ _ _ _ => tn nd__law_side___law_rule) (fun _ _ _ _ _ => ts0) (fun _ _ _ _ _ => xmeth0 (D_Window_marks.mono (by decide)) hr Y.cl_Window Y.me_Window_marks takes0 (xv 5)))))
    (sone (sret (xadd false (xv 1) (xmod (xintc Y.n_int (ac (xlen Y.n_len (ac (xv 2) (an))) (an))) (xint)))))))
theorem d__law_far_right (Y : Tx K mg a) (D_Window___init__ : DfnK P w K mg base T 5 a.m_Window___init__ ["self", "marks", "rule"] 2 ["rule"] (fun vs zs => vs ++ zs) (sp_Window___init__ K a)) (D_Window_put : Dfn P w K mg base T 9 a.m_Window_put ["self", "marks"] [] (sp_Window_put K a)) (D_Window_cut : Dfn P w K mg base T 9 a.m_Window_cut ["self", "many"] [] (sp_Window_cut K a)) (D_Window_room : Dfn P w K mg base T 1 a.m_Window_room ["self"] [] (sp_Window_room K a)) (D_Window_spare : Dfn P w K mg base T 1 a.m_Window_spare ["self"] [] (sp_Window_spare K a)) (D_Window_marks : Dfn P w K mg base T 1 a.m_Window_marks ["self"] [] (sp_Window_marks K a)) (D_Window_shares : Dfn P w K mg base T 1 a.m_Window_shares ["self", "other"] [] (sp_Window_shares K a)) (D_Window_copied : Dfn P w K mg base T 7 a.m_Window_copied ["self"] [] (sp_Window_copied K a)) {nm : Nat → Nat → Str} {c0 Pt : Addr} (tb : LamX.TabB base mg c0 Pt) (hm : (Pt, nm) ∈ T) (hu : ∀ p ∈ T, p.1 = Pt → p.2 = nm) (hN : nm 165 4 = "_law_far_right.<locals>._law_rule") : Drv1 P w K mg base T 10 a.f__law_far_right N__law_far_right "_law_far_right" (defScope st__law_far_right) (defBody st__law_far_right) (.ref c0) (fun W => rd__law_far_right K a W) := fun B A outer s H E W hr tk =>
   (scons (sndef (F := ct__law_far_right___law_rule) rfl tb (by rfl) hm (by rfl) hN hu (by decide +kernel) rfl rfl (by rfl) nd__law_far_right (by rfl) (.inl (by rfl)) (.inl rfl))
    (scons (sset nd__law_far_right (xmakeK (n := 1) (ks := ["rule"]) (gD := fun vs zs => vs ++ zs) Y.mk_Window (D_Window___init__.mono (by decide)) hr (by rfl) Y.g_Window tk (ac (xlst false (ac (xint) (ac (xint) (an)))) (an)) (kc (xv 0) (kn))))
    (scons (sset nd__law_far_right (xmeth (D_Window_put.mono (by decide)) hr Y.cl_Window Y.me_Window_put tk (xv 1) (ac (xlst false (ac (xint) (an))) (an))))
    (scons (sset nd__law_far_right (xmeth (D_Window_put.mono (by decide)) hr Y.cl_Window Y.me_Window_put tk (xmeth (D_Window_cut.mono (by decide)) hr Y.cl_Window Y.me_Window_cut tk (xv 2) (ac (xint) (an))) (ac (xlst false (ac (xint) (an))) (an))))
    (scons (sset nd__law_far_right (xlst false (ac (xprop (D_Window_room.mono (by decide)) hr Y.cl_Window Y.pr_Window_room (xv 2)) (ac (xprop (D_Window_spare.mono (by decide)) hr Y.cl_Window Y.pr_Window_spare (xv 2)) (ac (xmeth0 (D_Window_marks.mono (by decide)) hr Y.cl_Window Y.me_Window_marks tk (xv 2)) (ac (xmeth0 (D_Window_marks.mono (by decide)) hr Y.cl_Window Y.me_Window_marks tk (xv 3)) (ac (xmeth (D_Window_shares.mono (by decide)) hr Y.cl_Window Y.me_Window_shares tk (xv 3) (ac (xv 2) (an))) (ac (xprop (D_Window_room.mono (by decide)) hr Y.cl_Window Y.pr_Window_room (xmeth0 (D_Window_copied.mono (by decide)) hr Y.cl_Window Y.me_Window_copied tk (xv 2))) (an)))))))))
    (sone (sret (xcmp (op_eqD hr.rm.units) oc_eqA (xv 4) (xlst false (ac (xpow (xint) (xint)) (ac (xsub (xpow (xint) (xint)) (xint)) (ac (xlst false (ac (xint) (ac (xint) (ac (xint) (an))))) (ac (xlst false (ac (xint) (ac (xint) (an)))) (ac (xbl) (ac (xint) (an)))))))) (nomark _)))))))))
theorem d__law_far_right___law_rule (Y : Tx K mg a)  : DrvC P w K mg base T 0 N__law_far_right___law_rule ct__law_far_right___law_rule (fun W => rd__law_far_right___law_rule K a W) := fun B f c cl A outer s H E W hr tk =>
   (sone (sret (xpow (xint) (xint))))
theorem d_law (Y : Tx K mg a) (D__law_bag : Dfn P w K mg base T 1 a.f__law_bag ["_law_script"] [] (sp__law_bag K a)) (D__law_side : Dfn P w K mg base T 1 a.f__law_side ["_law_side_here", "_law_windows", "_law_notes"] [] (sp__law_side K a)) (D_Window___init__ : DfnK P w K mg base T 5 a.m_Window___init__ ["self", "marks", "rule"] 2 ["rule"] (fun vs zs => vs ++ zs) (sp_Window___init__ K a)) (D__law_take : Dfn P w K mg base T 1 a.f__law_take ["_law_bag_here", "_law_many"] [] (sp__law_take K a)) (D_Window___len__ : Dfn P w K mg base T 1 a.m_Window___len__ ["self"] [] (sp_Window___len__ K a)) (D__law_grown : Dfn P w K mg base T 13 a.f__law_grown ["_law_bag_here", "_law_windows", "_law_spots", "_law_calls", "_law_notes"] [] (sp__law_grown K a)) (D__law_other : Dfn P w K mg base T 11 a.f__law_other ["_law_bag_here", "_law_windows", "_law_spots"] [] (sp__law_other K a)) (D_Window_room : Dfn P w K mg base T 1 a.m_Window_room ["self"] [] (sp_Window_room K a)) (D_Window_put : Dfn P w K mg base T 9 a.m_Window_put ["self", "marks"] [] (sp_Window_put K a)) (D_Window_cut : Dfn P w K mg base T 9 a.m_Window_cut ["self", "many"] [] (sp_Window_cut K a)) (D_Window_copied : Dfn P w K mg base T 7 a.m_Window_copied ["self"] [] (sp_Window_copied K a)) (D__law_far_right : Dfn P w K mg base T 11 a.f__law_far_right [] [] (sp__law_far_right K a)) (D_Window___init__0 : Dfn P w K mg base T 5 a.m_Window___init__ ["self", "marks", "rule"] [.non] (sp_Window___init__ K a)) : Drv P w K mg base T 14 a.f_law N_law "law" (defScope st_law) (defBody st_law) (fun W => rd_law K a W) := fun B cd A outer s H E W hr tk =>
   (scons (sset nd_law (xcall (D__law_bag.mono (by decide)) hr (by rfl) Y.g__law_bag tk (ac (xv 0) (an))))
    (scons (sfor (vs := [2]) (passes_of rfl) rfl (irng1 Y.n_range (xint)) (tn nd_law)
    (scons (sasg (vs := [3, 4, 5, 6, 7]) (xtup (ac (xlst false (ac (xlst true (an)) (ac (xlst true (an)) (an)))) (ac (xlst false (ac (xlst true (an)) (ac (xlst true (an)) (an)))) (ac (xlst false (ac (xlst true (an)) (ac (xlst true (an)) (an)))) (ac (xlst false (ac (xlst true (an)) (ac (xlst true (an)) (an)))) (ac (xlst true (an)) (an))))))) (tt rfl (tsc (tn nd_law) (tsc (tn nd_law) (tsc (tn nd_law) (tsc (tn nd_law) (tsc (tn nd_law) (tsn)))))) (lenCN (lenCN (lenCN (lenCN (lenCN (lenN))))))))
    (scons (sfor (vs := [8]) (passes_of rfl) rfl (irng1 Y.n_range (xint)) (tn nd_law)
    (scons (sset nd_law (xcall (D__law_side.mono (by decide)) hr (by rfl) Y.g__law_side tk (ac (xix (xv 3) (xv 8)) (ac (xix (xv 6) (xv 8)) (ac (xix (xv 5) (xv 8)) (an))))))
    (scons (sexpr (xappend (xix (xv 6) (xv 8)) (xmakeK (n := 1) (ks := ["rule"]) (gD := fun vs zs => vs ++ zs) Y.mk_Window (D_Window___init__.mono (by decide)) hr (by rfl) Y.g_Window tk (ac (xmul false (xlst false (ac (xint) (an))) (xadd false (xint) (xcall (D__law_take.mono (by decide)) hr (by rfl) Y.g__law_take tk (ac (xv 1) (ac (xint) (an)))))) (an)) (kc (xv 9) (kn)))))
    (sone (sexpr (xappend (xv 7) (xlst true (ac (xlenO (D_Window___len__.mono (by decide)) hr Y.sp_Window___len__ Y.n_len (ac (xix (xix (xv 6) (xv 8)) (xint)) (an))) (an)))))))))
    (scons (sfor (vs := [10]) (passes_of rfl) rfl (irng1 Y.n_range (xint)) (tn nd_law)
    (scons (sset nd_law (xcall (D__law_take.mono (by decide)) hr (by rfl) Y.g__law_take tk (ac (xv 1) (ac (xint) (an)))))
    (scons (sif (tcmp (op_eqD hr.rm.units) oc_eqA (xcall (D__law_take.mono (by decide)) hr (by rfl) Y.g__law_take tk (ac (xv 1) (ac (xint) (an)))) (xint) (nomark _))
    (sone (sif (tnot (ttru (xcall (D__law_grown.mono (by decide)) hr (by rfl) Y.g__law_grown tk (ac (xv 1) (ac (xix (xv 6) (xv 8)) (ac (xix (xv 7) (xv 8)) (ac (xix (xv 4) (xv 8)) (ac (xix (xv 5) (xv 8)) (an)))))))))
    (sone (sret (xbl)))
    (snil)))
    (sone (sexpr (xcall (D__law_other.mono (by decide)) hr (by rfl) Y.g__law_other tk (ac (xv 1) (ac (xix (xv 6) (xv 8)) (ac (xix (xv 7) (xv 8)) (an))))))))
    (sone (sif (PW.pt (wor (tcmp (op_neD hr.rm.units) oc_neA (xv 3) (xv 4) (nomark _)) (wor1 (tcmp (op_neD hr.rm.units) oc_neA (xlc false [("_law_side_here", 12)] rfl nd_law (blkOk_by (by rfl)) (iseq (xv 6)) (fun _ _ _ _ _ => tn nd_law) (fun _ _ _ _ _ => ts0) (fun _ _ _ _ _ => xlc false [("_law_one", 13)] rfl nd_law (blkOk_by (by rfl)) (iseq (xv 12)) (fun _ _ _ _ _ => tn nd_law) (fun _ _ _ _ _ => ts0) (fun _ _ _ _ _ => xprop (D_Window_room.mono (by decide)) hr Y.cl_Window Y.pr_Window_room (xv 13)))) (xv 7) (nomark _)))))
    (sone (sret (xbl)))
    (snil))))))
    (scons (sset nd_law (xmake Y.mk_Window (D_Window___init__0.mono (by decide)) hr (by rfl) Y.g_Window tk (ac (xlst false (ac (xint) (ac (xint) (an)))) (an))))
    (sone (sif (tcmp (op_neD hr.rm.units) oc_neA (xlst false (ac (xprop (D_Window_room.mono (by decide)) hr Y.cl_Window Y.pr_Window_room (xmeth (D_Window_put.mono (by decide)) hr Y.cl_Window Y.me_Window_put tk (xv 11) (ac (xlst false (ac (xint) (an))) (an)))) (ac (xprop (D_Window_room.mono (by decide)) hr Y.cl_Window Y.pr_Window_room (xmeth (D_Window_put.mono (by decide)) hr Y.cl_Window Y.me_Window_put tk (xmeth (D_Window_cut.mono (by decide)) hr Y.cl_Window Y.me_Window_cut tk (xv 11) (ac (xint) (an))) (ac (xlst false (ac (xint) (an))) (an)))) (ac (xprop (D_Window_room.mono (by decide)) hr Y.cl_Window Y.pr_Window_room (xmeth (D_Window_put.mono (by decide)) hr Y.cl_Window Y.me_Window_put tk (xmeth0 (D_Window_copied.mono (by decide)) hr Y.cl_Window Y.me_Window_copied tk (xv 11)) (ac (xlst false (ac (xint) (ac (xint) (an)))) (an)))) (an))))) (xlst false (ac (xint) (ac (xint) (ac (xint) (an))))) (nomark _))
    (sone (sret (xbl)))
    (snil))))))))
    (sone (sret (xcall0 (D__law_far_right.mono (by decide)) hr (by rfl) Y.g__law_far_right tk)))))
end
end Q
namespace Q
open PySem PySem.Spec PyProof.Rows L2 SD
theorem insOf_ref {M : Mp} {x C : Addr} {fs : List (Str × D)} (h : M x = some (.ins C fs)) : insOf M (.ref x) = some (C, fs) := by
  unfold insOf; dsimp only; rw [h]
theorem lstOf_ref {M : Mp} {x : Addr} {ds : List D} (h : M x = some (.lst ds)) : lstOf M (.ref x) = some ds := by
  unfold lstOf; dsimp only; rw [h]
theorem w_arr {A : Addr} {n : Int} {r : D} : (winF A n r).lookup ("its_array" : Str) = some (.ref A) := rfl
theorem w_len {A : Addr} {n : Int} {r : D} : (winF A n r).lookup ("its_length" : Str) = some (.int n) := rfl
theorem w_rule {A : Addr} {n : Int} {r : D} : (winF A n r).lookup ("its_rule" : Str) = some r := rfl
theorem a_held {h : Addr} {l : Int} : (arrF h l).lookup ("held" : Str) = some (.ref h) := rfl
theorem a_lim {h : Addr} {l : Int} : (arrF h l).lookup ("limit" : Str) = some (.int l) := rfl
theorem subB {b c : Bool} {Q : Bool → Mp → Prop} {M : Mp} (e : b = c) (q : Q c M) : Q b M := by rw [e]; exact q
theorem ifs_of {c : DT} {t u : DS} {E : DEnds} {ρ : DEnv} {M : Mp} (b : Bool) (k : match b with
  | true => t E ρ M
  | false => u E ρ M) (h : ∀ Q : Bool → Mp → Prop, Q b M → c ρ M Q) : dIfS c t u E ρ M := h _ k
theorem dn {R : DK} {d : D} {M : Mp} (h : R d M) : Dn R d M := Dn.of h
/-- the length of a cut from the left -/
theorem cut_to {α : Type} {xs : List α} {n : Nat} (h : n ≤ xs.length) : cutL xs none (some (n : Int)) = xs.take n := by
  unfold cutL HT.sIx
  have h1 : ¬ ((n : Int) < 0) := by omega
  simp [h1]
  try omega
theorem dCB_i {rd : DC} {ta : DA} {ρ : DEnv} {M : Mp} {Q : DK} (h : ta ρ M fun ds M1 => rd ds M1 Q) : dCB rd ta ρ M Q := h
theorem dCons_i {te : DE} {tr : DA} {ρ : DEnv} {M : Mp} {Q : List D → Mp → Prop} (h : te ρ M fun x M1 => tr ρ M1 fun xs M2 => Q (x :: xs) M2) : dCons te tr ρ M Q := h
theorem dComp_i {m : Bool} {ti : DI} {g : DG} {tt : DT} {te : DE} {vs : List Nat} {ρ : DEnv} {M : Mp} {Q : DK} (h : ti ρ M fun ds chk M1 => ∀ p, M1 p = none → dLc chk g tt te (dwipe ρ vs) p (lcEnd m p Q) ds (updM M1 p (.lst []))) : dComp m ti g tt te vs ρ M Q := h
theorem newL_f {ds : List D} {M : Mp} {Q : DK} : newL false ds M Q = Q (.lst ds) M := rfl
theorem tyD_lst {K : PySem.W.Frag} {M : Mp} {x : D} {ds : List D} (h : lstOf M x = some ds) : TyD K M x (.type "list") := by
  cases x with
  | lst es => exact .lst es
  | ref p =>
    unfold lstOf at h
    dsimp only at h
    split at h
    · exact .refL (by assumption)
    · cases h
  | _ => cases h
theorem see_lst {M : Mp} {x : D} {ds : List D} (h : lstOf M x = some ds) (hn : numDs ds = true) : See M x (.list (pys ds)) := by
  cases x with
  | lst es => cases h; exact .lst (sees_num hn)
  | ref p =>
    unfold lstOf at h
    dsimp only at h
    split at h
    · cases h; exact .ref (by assumption) (sees_num hn)
    · cases h
  | _ => cases h
theorem seqOf_lst {M : Mp} {x : D} {ds : List D} (h : lstOf M x = some ds) : seqOf M x = some ds := by
  cases x with
  | lst es => exact h
  | ref p => exact h
  | _ => cases h
theorem lenD_lst {M : Mp} {x : D} {ds : List D} (h : lstOf M x = some ds) : lenD M x = some ds.length := by
  cases x with
  | lst es => cases h; rfl
  | ref p =>
    unfold lstOf at h
    dsimp only at h
    split at h
    · cases h
      unfold lenD
      dsimp only
      rename_i e
      rw [e]
    · cases h
  | _ => cases h
/-- what is read of x is read behind further changes -/
theorem lstOf_kp {M M' : Mp} {S : List Addr} {x : D} {ds : List D} (h : lstOf M x = some ds) (k : Kp S M M') (n : ∀ p ∈ S, x ≠ .ref p) : lstOf M' x = some ds := by
  cases x with
  | lst es => exact h
  | ref p =>
    unfold lstOf at h
    dsimp only at h
    split at h
    · cases h
      exact lstOf_ref (k _ _ (by assumption) fun z => n p z rfl)
    · cases h
  | _ => cases h
theorem iseq_go {te : DE} {ρ : DEnv} {M : Mp} {x : D} {ds : List D} {R : List D → (Mp → Prop) → Mp → Prop} (he : ∀ Q : DK, Q x M → te ρ M Q) (hx : lstOf M x = some ds) (k : ∀ chk : Mp → Prop, (∀ M', lstOf M' x = some ds → chk M') → R ds chk M) : iSeq te ρ M R := by
  refine he _ ?_
  cases x with
  | lst es => cases hx; exact k _ fun _ _ => trivial
  | ref p =>
    unfold lstOf at hx
    dsimp only at hx
    split at hx
    · cases hx
      refine ⟨_, by assumption, k _ fun M' h => ?_⟩
      unfold lstOf at h
      dsimp only at h
      split at h
      · cases h; assumption
      · cases h
    · cases hx
  | _ => cases hx
theorem bls_true {xs : List Int} : bls ((il xs).map fun _ => D.bl true) = some (xs.map fun _ => true) := by
  induction xs with
  | nil => rfl
  | cons x xs ih =>
    show (bls ((il xs).map fun _ => D.bl true)).map (true :: ·) = _
    rw [ih]
    rfl
theorem pA {h : Addr} {l : Int} : putD "limit" (.int l) (putD "held" (.ref h) []) = arrF h l := by
  show (if ("held" : Str) = "limit" then _ else _) = _
  rw [if_neg (by decide +kernel)]
  rfl
theorem pW1 {A : Addr} {n : Int} : putD "its_length" (.int n) (putD "its_array" (.ref A) []) = ([(("its_array" : Str), D.ref A), (("its_length" : Str), D.int n)] : List (Str × D)) := by
  show (if ("its_array" : Str) = "its_length" then _ else _) = _
  rw [if_neg (by decide +kernel)]
  rfl
theorem pW {A : Addr} {n : Int} {r : D} : putD "its_rule" r (putD "its_length" (.int n) (putD "its_array" (.ref A) [])) = winF A n r := by
  rw [pW1]
  show (if ("its_array" : Str) = "its_rule" then _ else (_ :: if ("its_length" : Str) = "its_rule" then _ else _)) = _
  rw [if_neg (by decide +kernel), if_neg (by decide +kernel)]
  rfl
theorem pWa {A B : Addr} {n : Int} {r : D} : putD "its_array" (.ref B) (winF A n r) = winF B n r := by
  show (if ("its_array" : Str) = "its_array" then _ else _) = _
  rw [if_pos rfl]
  rfl
theorem pWl {A : Addr} {n m : Int} {r : D} : putD "its_length" (.int m) (winF A n r) = winF A m r := by
  show (if ("its_array" : Str) = "its_length" then _ else (_ :: if ("its_length" : Str) = "its_length" then _ else _)) = _
  rw [if_neg (by decide +kernel), if_pos rfl]
  rfl
section
variable {K : PySem.W.Frag} {mg : Str → Option Value} {a : Ad} (Y : Tx K mg a) {ds : List D} {M : Mp} {R : DK} {RX : DX}
include Y
theorem r_is_integer (h : sp_is_integer K a ds M R RX) : rd_is_integer K a (DnX RX) (ends0 R) (rho0 N_is_integer ds) M := by
  obtain ⟨i, rfl, q⟩ := h
  exact ⟨_, rfl, _, _, true, .int i, .ty _, kit_ty (by decide +kernel), _, rfl, _, _, false, .int i, .ty _, kit_ty (by decide +kernel), M, LeM.refl M, q⟩
theorem r_Window_room (h : sp_Window_room K a ds M R RX) : rd_Window_room K a (DnX RX) (ends0 R) (rho0 N_Window_room ds) M := by
  obtain ⟨x, A, h, n, lim, r, xs, rfl, W, q⟩ := h
  exact ⟨_, rfl, _, _, _, insOf_ref W.win, Y.fo_Window_its_array, w_arr, _, _, _, insOf_ref W.arr, Y.fo_Array_limit, a_lim, dn q⟩
theorem r_Window_spare (h : sp_Window_spare K a ds M R RX) : rd_Window_spare K a (DnX RX) (ends0 R) (rho0 N_Window_spare ds) M := by
  obtain ⟨x, A, h, n, lim, r, xs, rfl, W, q⟩ := h
  exact ⟨_, rfl, _, _, _, insOf_ref W.win, Y.fo_Window_its_array, w_arr, _, _, _, insOf_ref W.arr, Y.fo_Array_limit, a_lim, _, rfl, _, _, _, insOf_ref W.win, Y.fo_Window_its_length, w_len, dn q⟩
theorem r_Window_marks (h : sp_Window_marks K a ds M R RX) : rd_Window_marks K a (DnX RX) (ends0 R) (rho0 N_Window_marks ds) M := by
  obtain ⟨x, A, h, n, lim, r, xs, rfl, W, hl, q⟩ := h
  refine ⟨_, rfl, _, _, _, insOf_ref W.win, Y.fo_Window_its_array, w_arr, _, _, _, insOf_ref W.arr, Y.fo_Array_held, a_held, _, rfl, _, _, _, insOf_ref W.win, Y.fo_Window_its_length, w_len, ?_⟩
  refine ⟨_, lstOf_ref W.lst, ?_⟩
  show Dn R (.lst (cutL (il xs) none (some n))) M
  rw [cut_to (by simpa using hl), ← List.map_take]
  exact dn q
theorem r_Window___len__ (h : sp_Window___len__ K a ds M R RX) : rd_Window___len__ K a (DnX RX) (ends0 R) (rho0 N_Window___len__ ds) M := by
  obtain ⟨x, A, h, n, lim, r, xs, rfl, W, hl, q⟩ := h
  refine ⟨_, rfl, _, _, _, insOf_ref W.win, Y.fo_Window_its_array, w_arr, _, _, _, insOf_ref W.arr, Y.fo_Array_held, a_held, _, rfl, _, _, _, insOf_ref W.win, Y.fo_Window_its_length, w_len, ?_⟩
  refine ⟨_, lstOf_ref W.lst, _, rfl, ?_⟩
  show Dn R (.int ((cutL (il xs) none (some (n : Int))).length : Nat)) M
  rw [cut_to (by simpa using hl), List.length_take, List.length_map, Nat.min_eq_left hl]
  exact dn q
theorem r_Window_shares (h : sp_Window_shares K a ds M R RX) : rd_Window_shares K a (DnX RX) (ends0 R) (rho0 N_Window_shares ds) M := by
  obtain ⟨x, y, A, B, n, m, r, q, h, g, l, k, rfl, W1, W2, A1, A2, q⟩ := h
  exact ⟨_, rfl, _, _, _, insOf_ref W1, Y.fo_Window_its_array, w_arr, _, rfl, _, _, _, insOf_ref W2, Y.fo_Window_its_array, w_arr, A, B, _, _, _, rfl, rfl, A1, A2, Y.ne_Array, dn q⟩
theorem r_Window_need_cell (h : sp_Window_need_cell K a ds M R RX) : rd_Window_need_cell K a (DnX RX) (ends0 R) (rho0 N_Window_need_cell ds) M := by
  obtain ⟨x, A, h, n, lim, r, xs, i, rfl, W, h0, h1, q⟩ := h
  refine ifs_of false (dn q) (fun Q q => ⟨_, rfl, i, rfl, true, rfl, _, rfl, ?_⟩)
  show (match D.bl (decide ((0 : Int) ≤ i)) with
    | .bl true => _
    | .bl false => _
    | _ => False)
  rw [decide_eq_true h0]
  refine ⟨_, rfl, _, _, _, insOf_ref W.win, Y.fo_Window_its_length, w_len, ?_⟩
  exact subB (Q := fun b M => Q (!b) M) (decide_eq_true h1) q
theorem r_Window___setitem__ (h : sp_Window___setitem__ K a ds M R RX) : rd_Window___setitem__ K a (DnX RX) (ends0 R) (rho0 N_Window___setitem__ ds) M := by
  obtain ⟨x, A, h, n, lim, r, xs, i, v, rfl, W, hl, h0, h1, q⟩ := h
  refine ⟨_, rfl, _, insOf_ref W.win, rfl, _, rfl, x, A, h, n, lim, r, xs, i, rfl, W, h0, h1, _, rfl, _, rfl, _, _, _, insOf_ref W.win, Y.fo_Window_its_array, w_arr, _, _, _, insOf_ref W.arr, Y.fo_Array_held, a_held, _, rfl, h, il xs, i, i.toNat, rfl, W.lst, rfl, ?_, ?_⟩
  · unfold L2.ixN
    rw [List.length_map, if_pos h0, if_pos (by omega)]
  · show Dn R .non (updM M h (.lst ((il xs).set i.toNat (.int v))))
    rw [← List.map_set]
    exact dn q
theorem r_are_marks (h : sp_are_marks K a ds M R RX) : rd_are_marks K a (DnX RX) (ends0 R) (rho0 N_are_marks ds) M := by
  obtain ⟨x, xs, rfl, hx, hne, hl, q⟩ := h
  refine ⟨_, rfl, _, _, true, tyD_lst hx, .ty _, kit_ty (by decide +kernel), ?_⟩
  refine ⟨_, rfl, Nat.zero_le _, ?_⟩
  rw [newL_f]
  refine dNeA_of ⟨_, _, see_lst hx num_il, .lst .nil, shaped_num (d := .lst (il xs)) num_il (Nat.succ_le_succ (Nat.le_trans dep_il (by decide))), rfl, ?_⟩
  cases xs with
  | nil => exact absurd rfl hne
  | cons y ys =>
    refine dCB_i (dCons_i (dComp_i (iseq_go (fun Q q => ⟨_, rfl, q⟩) hx fun chk hc p hp => ?_)))
    refine lc_map (fun _ => .bl true) hp (by rw [List.length_map]; exact hl) (fun acc => hc _ ?_) (fun d hd acc Q q => ?_) ?_
    · exact lstOf_kp (S := []) hx (Kp.new hp) (fun p hp => by simp at hp)
    · obtain ⟨i, _, rfl⟩ := List.mem_map.mp hd
      exact ⟨_, rfl, i, rfl, q⟩
    · refine ⟨_, _, rfl, bls_true, ?_⟩
      have e : ((y :: ys).map fun _ => true).all id = true := by simp
      rw [e]
      exact dn q
theorem r_Array___init__ (h : sp_Array___init__ K a ds M R RX) : rd_Array___init__ K a (DnX RX) (ends0 R) (rho0 N_Array___init__ ds) M := by
  obtain ⟨s, x, ys, l, rfl, hs, hx, q⟩ := h
  refine ⟨_, rfl, _, seqOf_lst hx, fun h hh => ?_⟩
  have nsh : s ≠ h := neM hs hh
  refine ⟨_, rfl, s, _, _, rfl, (updM_ne nsh).trans hs, Y.fo_Array_held, by decide, ?_⟩
  refine ⟨_, rfl, _, rfl, s, _, _, rfl, updM_same, Y.fo_Array_limit, (by show 1 < 1000; decide), ?_⟩
  rw [updM_updM, pA]
  refine dn (q h _ hh (fun b o e n => ?_) ?_ updM_same)
  · have n1 : b ≠ s := by simpa using n
    rw [updM_ne n1, updM_ne (neM e hh)]; exact e
  · rw [updM_ne nsh.symm]; exact updM_same
theorem r_Window___init__ (h : sp_Window___init__ K a ds M R RX) : rd_Window___init__ K a (DnX RX) (ends0 R) (rho0 N_Window___init__ ds) M := by
  obtain ⟨s, x, xs, r, rfl, hs, hx, hne, hl, hxs, q⟩ := h
  refine ifs_of false ?_ (fun Q q => ⟨_, rfl, x, xs, rfl, hx, hne, hl, true, rfl, q⟩)
  refine ⟨_, rfl, _, rfl, _, lenD_lst hx, fun A hA => ?_⟩
  have nsA : s ≠ A := neM hs hA
  have k1 : Kp [] M (updM M A (.ins a.c_Array [])) := Kp.new hA
  refine ⟨A, x, il xs, _, rfl, updM_same, lstOf_kp hx k1 (fun p hp => by simp at hp), fun h M1 hh k2 e1 e2 => ⟨rfl, ?_⟩⟩
  have nhA : h ≠ A := fun z => by rw [z, updM_same] at hh; cases hh
  have hh0 : M h = none := by rw [updM_ne nhA] at hh; exact hh
  have nsh : s ≠ h := neM hs hh0
  have kM : Kp [] M M1 := Kp.off hA k1 k2
  have x1 : lstOf M1 x = some (il xs) := lstOf_kp hx kM (fun p hp => by simp at hp)
  refine ⟨_, rfl, s, _, _, rfl, kM _ _ hs (by simp), Y.fo_Window_its_array, by decide, ?_⟩
  have x2 : ∀ o, lstOf (updM M1 s o) x = some (il xs) := fun o => lstOf_kp x1 Kp.put (fun p hp z => by
    have : p = s := by simpa using hp
    subst this
    exact hxs z)
  refine ⟨_, rfl, _, lenD_lst (x2 _), _, rfl, s, _, _, rfl, updM_same, Y.fo_Window_its_length, (by show 1 < 1000; decide), ?_⟩
  refine ⟨_, rfl, _, rfl, s, _, _, rfl, updM_same, Y.fo_Window_its_rule, ?_, ?_⟩
  · rw [pW1]; show 2 < 1000; decide
  · rw [updM_updM, updM_updM, pW]
    refine dn (q A h _ hA hh0 (Ne.symm nhA) (kM.weak (by simp) |>.trans0 Kp.put) ⟨?_, ?_, ?_⟩)
    · rw [List.length_map]; exact updM_same
    · rw [updM_ne nsA.symm, e2, List.length_map]
    · rw [updM_ne nsh.symm, e1]
end
end Q
namespace Q
open PySem PySem.Spec PyProof.Rows L2 SD
theorem WinAt.kp {a : Ad} {M M' : Mp} {S : List Addr} {x A h : Addr} {n : Nat} {lim : Int} {r : D} {xs : List Int} (W : WinAt a M x A h n lim r xs) (k : Kp S M M') (h1 : x ∉ S) (h2 : A ∉ S) (h3 : h ∉ S) : WinAt a M' x A h n lim r xs :=
  ⟨k _ _ W.win h1, k _ _ W.arr h2, k _ _ W.lst h3⟩
theorem WinAt.kp0 {a : Ad} {M M' : Mp} {x A h : Addr} {n : Nat} {lim : Int} {r : D} {xs : List Int} (W : WinAt a M x A h n lim r xs) (k : Kp [] M M') : WinAt a M' x A h n lim r xs := W.kp k (by simp) (by simp) (by simp)
theorem dCall_i {sp : DSp} {dd : List D} {W : DW} {ta : DA} {ρ : DEnv} {M : Mp} {Q : DK} (h : ta ρ M fun ds M1 => sp (ds ++ dd) M1 Q fun cls fs M' => W cls fs ρ M') : dCall sp dd W ta ρ M Q := h
section
variable {K : PySem.W.Frag} {mg : Str → Option Value} {a : Ad} (Y : Tx K mg a) {ds : List D} {M : Mp} {R : DK} {RX : DX}
include Y
theorem r_window_on (h : sp_window_on K a ds M R RX) : rd_window_on K a (DnX RX) (ends0 R) (rho0 N_window_on ds) M := by
  obtain ⟨A, n, r, rfl, q⟩ := h
  refine ⟨by decide, ?_⟩
  rw [newL_f]
  refine ⟨_, rfl, rfl, rfl, fun z hz => ?_⟩
  refine ⟨z, _, [0], r, rfl, updM_same, rfl, by simp, by decide, (by intro e; cases e), fun A' h' M1 hA hh ne k W => ⟨rfl, ?_⟩⟩
  have nzA : A' ≠ z := fun e => by rw [e, updM_same] at hA; cases hA
  have nzh : h' ≠ z := fun e => by rw [e, updM_same] at hh; cases hh
  refine ⟨_, rfl, _, rfl, z, _, _, rfl, W.win, Y.fo_Window_its_array, (by show 3 < 1000; decide), ?_⟩
  refine ⟨_, rfl, _, rfl, z, _, _, rfl, updM_same, Y.fo_Window_its_length, (by rw [pWa]; show 3 < 1000; decide), ?_⟩
  rw [updM_updM, pWa, pWl]
  refine ⟨_, rfl, dn (q z _ hz (fun b o e _ => ?_) updM_same)⟩
  have n1 : b ≠ z := neM e hz
  rw [updM_ne n1]
  exact k _ _ (by rw [updM_ne n1]; exact e) (by simpa using n1)
theorem r_Window_cut (h : sp_Window_cut K a ds M R RX) : rd_Window_cut K a (DnX RX) (ends0 R) (rho0 N_Window_cut ds) M := by
  obtain ⟨x, A, h, n, lim, r, xs, m, rfl, W, h0, h1, q⟩ := h
  refine ifs_of false ?_ (fun Q q => ⟨_, rfl, m, rfl, true, rfl, _, rfl, ?_⟩)
  · exact ⟨_, rfl, _, _, _, insOf_ref W.win, Y.fo_Window_its_array, w_arr, _, rfl, _, rfl, _, _, _, insOf_ref W.win, Y.fo_Window_its_rule, w_rule, A, m, r, rfl, fun z M' hz k e => dn (q z M' hz k e)⟩
  · show (match D.bl (decide ((1 : Int) ≤ m)) with
      | .bl true => _
      | .bl false => _
      | _ => False)
    rw [decide_eq_true h0]
    exact ⟨_, rfl, _, _, _, insOf_ref W.win, Y.fo_Window_its_length, w_len, subB (Q := fun b M => Q (!b) M) (decide_eq_true h1) q⟩
theorem r_Window_copied (h : sp_Window_copied K a ds M R RX) : rd_Window_copied K a (DnX RX) (ends0 R) (rho0 N_Window_copied ds) M := by
  obtain ⟨x, A, h, n, lim, r, xs, rfl, W, h0, hl, hz, q⟩ := h
  refine ⟨_, rfl, _, insOf_ref W.win, rfl, x, A, h, n, lim, r, xs, rfl, W, hl, ?_⟩
  refine ⟨_, rfl, _, _, _, insOf_ref W.win, Y.fo_Window_its_rule, w_rule, rfl, rfl, fun z hz => ?_⟩
  have hlen : (xs.take n).length = n := by rw [List.length_take]; exact Nat.min_eq_left hl
  refine ⟨z, _, xs.take n, r, rfl, updM_same, rfl, (by intro e; rw [e] at hlen; simp at hlen; omega), by omega, (by intro e; cases e), fun A' h' M1 hA hh ne k W' => ⟨rfl, ?_⟩⟩
  have nzA : A' ≠ z := fun e => by rw [e, updM_same] at hA; cases hA
  have nzh : h' ≠ z := fun e => by rw [e, updM_same] at hh; cases hh
  rw [hlen] at W'
  exact dn (q z A' h' M1 hz (by rw [updM_ne nzA] at hA; exact hA) (by rw [updM_ne nzh] at hh; exact hh) ne (Kp.off hz (Kp.new hz) k) W')
theorem r_Window___iadd__ (h : sp_Window___iadd__ K a ds M R RX) : rd_Window___iadd__ K a (DnX RX) (ends0 R) (rho0 N_Window___iadd__ ds) M := by
  obtain ⟨x, y, A, h, n, lim, r, xs, ys, rfl, W, hy, ny, hl, hz, q1, q2⟩ := h
  refine ⟨_, rfl, _, insOf_ref W.win, rfl, _, rfl, x, y, A, h, n, lim, r, xs, ys, rfl, W, hy, ny, hl, hz, fun hlt => ?_, fun hle z M2 hz k W => dn (q2 hle z M2 hz k W)⟩
  rcases q1 hlt with ⟨e, w, q⟩ | ⟨e1, e2, q⟩
  · exact .inl ⟨e, w, fun z A' h' M2 a1 a2 a3 a4 a5 k W => dn (q z A' h' M2 a1 a2 a3 a4 a5 k W)⟩
  · refine .inr ⟨e1, e2, ?_⟩
    rcases q with ⟨f, cs, ws, e, c, sa, na, wa, calls, notes, wins, elder, least, q⟩ | ⟨f, cs, ws, e, c, x1, y1, q⟩
    · obtain ⟨a1, a2, a3, a4, a5, a6, a7, a8, b1, b2, b3, mk, hm, room, er, hr, w, q⟩ := q
      exact .inl ⟨f, cs, ws, e, c, sa, na, wa, calls, notes, wins, elder, least, a1, a2, a3, a4, a5, a6, a7, a8, b1, b2, b3, mk, hm, room, er, hr, w, fun z A' h' M2 a1 a2 a3 a4 a5 k W => dn (q z A' h' M2 a1 a2 a3 a4 a5 k W)⟩
    · obtain ⟨a1, room, er, hr, w, q⟩ := q
      exact .inr ⟨f, cs, ws, e, c, x1, y1, a1, room, er, hr, w, fun z A' h' M2 a1 a2 a3 a4 a5 k W => dn (q z A' h' M2 a1 a2 a3 a4 a5 k W)⟩
end
end Q
namespace Q
open PySem PySem.Spec PyProof.Rows L2 SD
theorem dSeq_i {t u : DS} {E : DEnds} {ρ : DEnv} {M : Mp} (h : t { E with nx := u E } ρ M) : dSeq t u E ρ M := h
theorem dSet_i {i : Nat} {te : DE} {E : DEnds} {ρ : DEnv} {M : Mp} (h : te ρ M fun x M1 => E.nx (ρ.set i (some x)) M1) : dSet i te E ρ M := h
theorem dRet_i {te : DE} {E : DEnds} {ρ : DEnv} {M : Mp} (h : te ρ M E.rt) : dRet te E ρ M := h
section
variable {K : PySem.W.Frag} {mg : Str → Option Value} {a : Ad} (Y : Tx K mg a) {ds : List D} {M : Mp} {R : DK} {RX : DX}
include Y
/-- a rule's promise, its end weakened -/
theorem rule_imp {g : D} {M : Mp} {R R' : DK} {RX RX' : DX} (h : rule K a (sp__law_side___law_rule K a) (sp__law_far_right___law_rule K a) g ds M R RX) (w : ∀ d M, R d M → R' d M) : rule K a (sp__law_side___law_rule K a) (sp__law_far_right___law_rule K a) g ds M R' RX' := by
  rcases h with ⟨f, cs, ws, e, c, sa, na, wa, calls, notes, wins, elder, least, q⟩ | ⟨f, cs, ws, e, c, x1, y1, a1, q⟩
  · obtain ⟨a1, a2, a3, a4, a5, a6, a7, a8, b1, b2, b3, mk, hm, q⟩ := q
    exact .inl ⟨f, cs, ws, e, c, sa, na, wa, calls, notes, wins, elder, least, a1, a2, a3, a4, a5, a6, a7, a8, b1, b2, b3, mk, hm, w _ _ q⟩
  · exact .inr ⟨f, cs, ws, e, c, x1, y1, a1, w _ _ q⟩
theorem r_Window_new_room (h : sp_Window_new_room K a ds M R RX) : rd_Window_new_room K a (DnX RX) (ends0 R) (rho0 N_Window_new_room ds) M := by
  obtain ⟨x, A, h, n, lim, r, xs, needed, rfl, W, q⟩ := h
  rcases q with ⟨rfl, q⟩ | ⟨e1, e2, q⟩
  · refine ifs_of true ?_ fun Q q => ?_
    · exact ⟨_, rfl, dn q⟩
    · exact ⟨_, rfl, _, _, _, insOf_ref W.win, Y.fo_Window_its_rule, w_rule, q⟩
  · refine ifs_of false ?_ (fun Q q => ⟨_, rfl, _, _, _, insOf_ref W.win, Y.fo_Window_its_rule, w_rule, ?_⟩)
    · refine ⟨_, rfl, _, _, _, insOf_ref W.win, Y.fo_Window_its_rule, w_rule, e2, _, rfl, _, _, _, insOf_ref W.win, Y.fo_Window_its_array, w_arr, _, _, _, insOf_ref W.arr, Y.fo_Array_limit, a_lim, _, rfl, e2, ?_⟩
      refine rule_imp Y q fun d M' ⟨room, ed, hr, q⟩ => ?_
      subst ed
      dsimp only
      refine dSeq_i (ifs_of false ?_ fun Q q => ?_)
      · exact ⟨_, rfl, dn q⟩
      · exact ⟨_, rfl, room, rfl, true, rfl, _, rfl, _, rfl, subB (decide_eq_false (by omega)) q⟩
    · exact subB e1 q
theorem dMeth_i {C : Addr} {m : Str} {sp : DSp} {dd : List D} {W : DW} {to : DE} {ta : DA} {ρ : DEnv} {M : Mp} {Q : DK} (h : to ρ M fun x M1 => ∃ fs, insOf M1 x = some (C, fs) ∧ fs.lookup m = none ∧ ta ρ M1 fun ds M2 => sp (x :: (ds ++ dd)) M2 Q fun cls fs M' => W cls fs ρ M') : dMeth C m sp dd W to ta ρ M Q := h
theorem r_Window_put (h : sp_Window_put K a ds M R RX) : rd_Window_put K a (DnX RX) (ends0 R) (rho0 N_Window_put ds) M := by
  obtain ⟨x, y, A, h, n, lim, r, xs, ys, rfl, W, hy, ny, hl, hz, q1, q2⟩ := h
  refine ⟨_, rfl, _, _, _, insOf_ref W.win, Y.fo_Window_its_length, w_len, _, rfl, _, lenD_lst hy, ?_⟩
  rw [List.length_map]
  dsimp only [dAdd]
  by_cases hlt : lim < ((n + ys.length : Nat) : Int)
  · refine ifs_of true ?_ (fun Q q => ⟨_, rfl, _, rfl, _, _, _, insOf_ref W.win, Y.fo_Window_its_array, w_arr, _, _, _, insOf_ref W.arr, Y.fo_Array_limit, a_lim, subB (decide_eq_true (by omega)) q⟩)
    -- Array(self.marks() + list(marks), self.new_room(length)): first the marks
    refine ⟨_, rfl, _, insOf_ref W.win, rfl, x, A, h, n, lim, r, xs, rfl, W, hl, _, rfl, _, seqOf_lst hy, ?_⟩
    rw [newL_f]
    refine ⟨_, _, rfl, rfl, ?_, ?_⟩
    · rw [List.length_map, List.length_map, List.length_take]; omega
    rw [newL_f]
    have el : il (xs.take n) ++ il ys = il (xs.take n ++ ys) := (List.map_append).symm
    rw [el]
    have en : ((n : Int) + ((ys.length : Nat) : Int)) = ((n + ys.length : Nat) : Int) := by omega
    rw [en]
    -- what follows the room
    have go : ∀ (room : Int) (M1 : Mp), M1 x = some (.ins a.c_Window (winF A n r)) → (∀ z A' h' M2, M1 z = none → M1 A' = none → M1 h' = none → A' ≠ h' → z ≠ A' → Kp [] M1 M2 → WinAt a M2 z A' h' (n + ys.length) room r (xs.take n ++ ys) → R (.ref z) M2) →
        ∀ A', M1 A' = none → sp_Array___init__ K a [.ref A', .lst (il (xs.take n ++ ys)), .int room] (updM M1 A' (.ins a.c_Array [])) (fun v M2 => v = .non ∧ (dCons (dV 2) (dCons (dFld K (dV 0) "its_rule") dNil)) [some (.ref x), some y, some (.int ((n + ys.length : Nat) : Int))] M2 fun es M3 =>
          sp_window_on K a ((.ref A' :: es) ++ []) M3 (Dn R) fun cls fs M' => DnX RX cls fs [some (.ref x), some y, some (.int ((n + ys.length : Nat) : Int))] M') fun cls fs M' => DnX RX cls fs [some (.ref x), some y, some (.int ((n + ys.length : Nat) : Int))] M' := by
      intro room M1 hx q A' hA
      refine ⟨A', _, _, room, rfl, updM_same, rfl, fun h' M2 hh k e1 e2 => ⟨rfl, ?_⟩⟩
      have nhA : h' ≠ A' := fun z => by rw [z, updM_same] at hh; cases hh
      have hh0 : M1 h' = none := by rw [updM_ne nhA] at hh; exact hh
      have kM : Kp [] M1 M2 := Kp.off hA (Kp.new hA) k
      refine ⟨_, rfl, _, rfl, _, _, _, insOf_ref (kM _ _ hx (by simp)), Y.fo_Window_its_rule, w_rule, A', _, r, rfl, fun z M3 hz k3 e3 => dn (q z A' h' M3 ?_ hA hh0 nhA.symm ?_ (kM.trans0 k3) ⟨e3, k3 _ _ e2 (by simp), k3 _ _ e1 (by simp)⟩)⟩
      · cases e : M1 z with
        | none => rfl
        | some o => rw [kM _ _ e (by simp)] at hz; cases hz
      · intro e
        subst e
        rw [e2] at hz
        cases hz
    rcases q1 hlt with ⟨e, w, q⟩ | ⟨e1, e2, q⟩
    · subst e
      exact ⟨_, rfl, _, insOf_ref W.win, rfl, _, rfl, x, A, h, n, lim, _, xs, _, rfl, W, .inl ⟨rfl, go _ M w q⟩⟩
    · refine ⟨_, rfl, _, insOf_ref W.win, rfl, _, rfl, x, A, h, n, lim, r, xs, _, rfl, W, .inr ⟨e1, e2, rule_imp Y q fun d M' ⟨room, ed, hr, w, q⟩ => ⟨room, ed, hr, ?_⟩⟩⟩
      subst ed
      exact go room M' w q
  · refine ifs_of false ?_ (fun Q q => ⟨_, rfl, _, rfl, _, _, _, insOf_ref W.win, Y.fo_Window_its_array, w_arr, _, _, _, insOf_ref W.arr, Y.fo_Array_limit, a_lim, subB (decide_eq_false (by omega)) q⟩)
    refine ⟨_, rfl, _, seqOf_lst hy, ?_⟩
    rw [newL_f]
    refine ⟨_, rfl, _, _, _, insOf_ref W.win, Y.fo_Window_its_array, w_arr, _, _, _, insOf_ref W.arr, Y.fo_Array_held, a_held, _, rfl, _, _, _, insOf_ref W.win, Y.fo_Window_its_length, w_len, _, rfl, ?_⟩
    refine ⟨h, _, _, _, _, rfl, W.lst, rfl, (by intro e; cases e), rfl, rfl, by omega, by omega, by rw [List.length_map]; omega, by rw [List.length_map, List.length_map]; omega, ?_⟩
    have nxh : x ≠ h := fun e => by have := W.win; rw [e, W.lst] at this; cases this
    have nAh : A ≠ h := fun e => by have := W.arr; rw [e, W.lst] at this; cases this
    have k1 : ∀ o, Kp [h] M (updM M h o) := fun o => Kp.put
    refine ⟨_, rfl, _, _, _, insOf_ref ((updM_ne nxh).trans W.win), Y.fo_Window_its_array, w_arr, _, rfl, _, rfl, _, _, _, insOf_ref ((updM_ne nxh).trans W.win), Y.fo_Window_its_rule, w_rule, A, _, r, rfl, fun z M2 hz k e => ?_⟩
    have nzh : z ≠ h := fun e => by rw [e, updM_same] at hz; cases hz
    rw [updM_ne nzh] at hz
    refine dn (q2 (by omega) z M2 hz (Kp.trans (k1 _) k |>.weak (by simp)) ⟨?_, k _ _ ((updM_ne nAh).trans W.arr) (by simp), ?_⟩)
    · rw [e]
      congr 2
    · rw [k _ _ updM_same (by simp)]
      congr 2
      show List.take _ _ ++ _ ++ List.drop _ _ = _
      rw [← List.map_take, ← List.map_drop, ← List.map_append, ← List.map_append]
      congr 3
end
end Q
namespace Q
open PySem PySem.Spec PyProof.Rows L2 SD
theorem sq {M : Mp} {x : Addr} {ds : List D} (h : M x = some (.lst ds)) : seqOf M (.ref x) = some ds := seqOf_lst (lstOf_ref h)
section
variable {l s : Int} {t : Nat} {cs : List Int}
theorem b0 : L2.atI (bagD l s t cs) 0 = some (.int l) := rfl
theorem b1 : L2.atI (bagD l s t cs) 1 = some (.int s) := rfl
theorem b2 : L2.atI (bagD l s t cs) 2 = some (.int t) := rfl
theorem b3 : L2.atI (bagD l s t cs) 3 = some (.lst (il cs)) := rfl
end
def tail_take (W : DW) : DS :=
  (dSeq (dIfS (dB (dOp (dI0 fun i j => .bl (decide (j < i))) (dOp dIx (dV 0) (dC (.int 0))) (dC (.int 0))))
  (dSeq (dSet 4 (dOp (dI (fun _ j => 0 < j) fun i j => .int (i % j)) (dCB dInt (dCons (dOp dIx (dV 0) (dC (.int 0))) (dNil))) (dV 1)))
  (dSeq (dStoI (dV 0) (dC (.int 0)) (dOp (dI CDiv fun i j => .int (i / j)) (dOp dIx (dV 0) (dC (.int 0))) (dV 1)))
  (dRet (dV 4))))
  (dNext))
  (dSeq (dSet 5 (dOp (dI (fun _ j => 0 < j) fun i j => .int (i % j)) (dCB dInt (dCons (dOp (dMul false) (dOp (dAdd false) (dOp dIx (dV 0) (dC (.int 1))) (dC (.int 1))) (dC (.int 39373))) (dNil))) (dC (.int 1000000007))))
  (dSeq (dSet 6 (dOp (dI (fun _ j => 0 < j) fun i j => .int (i % j)) (dCB dInt (dCons (dOp (dMul false) (dOp (dI (fun _ j => 0 < j) fun i j => .int (i % j)) (dCB dInt (dCons (dOp (dMul false) (dV 5) (dV 5)) (dNil))) (dC (.int 998244353))) (dC (.int 30011))) (dNil))) (dC (.int 998244353))))
  (dSeq (dIfS (dB (dOp (dI0 fun i j => .bl (decide (j < i))) (dV 1) (dC (.int 1000000))))
  (dRet (dOp (dI (fun _ j => 0 < j) fun i j => .int (i % j)) (dCB dInt (dCons (dOp (dAdd false) (dOp (dMul false) (dV 6) (dC (.int 1000000007))) (dV 5)) (dNil))) (dV 1)))
  (dNext))
  (dRet (dOp (dI (fun _ j => 0 < j) fun i j => .int (i % j)) (dCB dInt (dCons (dOp (dI CDiv fun i j => .int (i / j)) (dV 6) (dC (.int 7))) (dNil))) (dV 1)))))))
theorem take_tail {R : DK} {W : DW} {M : Mp} {b : Addr} {m l s : Int} {t : Nat} {cs : List Int} (o2 o3 : Option D) (hb : M b = some (.lst (bagD l s t cs))) (hl : 0 ≤ l) (hs : 0 ≤ s) (hs2 : s < 2147483647) (hc : cs.length ≤ sizeLine) (hm : 0 < m) (hm2 : m < 1073741824)
    (k : ∀ i M', 0 ≤ i → i < m → Kp [b] M M' → BagOk M' b → R (.int i) M') : tail_take W (ends0 R) [some (.ref b), some (.int m), o2, o3, none, none, none] M := by
  have mod : ∀ i : Int, 0 ≤ i % m ∧ i % m < m := fun i => ⟨Int.emod_nonneg _ (by omega), Int.emod_lt_of_pos _ hm⟩
  have same : BagOk M b := ⟨l, s, t, cs, hb, hl, hs, hs2, hc⟩
  refine dSeq_i ?_
  by_cases h0 : 0 < l
  · refine ifs_of true ?_ fun Q q => ⟨_, rfl, _, _, sq hb, b0, subB (decide_eq_true h0) q⟩
    refine ⟨_, rfl, _, _, sq hb, b0, _, rfl, hm, _, rfl, _, _, sq hb, b0, _, rfl, ⟨hm, hm2⟩, _, rfl, b, _, 0, 0, rfl, hb, rfl, rfl, _, rfl, dn (k _ _ (mod l).1 (mod l).2 Kp.put ?_)⟩
    exact ⟨l / m, s, t, cs, updM_same, Int.ediv_nonneg hl (by omega), hs, hs2, hc⟩
  · refine ifs_of false ?_ fun Q q => ⟨_, rfl, _, _, sq hb, b0, subB (decide_eq_false h0) q⟩
    refine ⟨_, rfl, _, _, sq hb, b1, .inl ⟨by omega, by omega⟩, (by decide : (0 : Int) < 1000000007), ?_⟩
    have hb1 : 0 ≤ (s + 1) * 39373 % 1000000007 ∧ (s + 1) * 39373 % 1000000007 < 1000000007 := ⟨Int.emod_nonneg _ (by decide), Int.emod_lt_of_pos _ (by decide)⟩
    generalize (s + 1) * 39373 % 1000000007 = g at hb1 ⊢
    refine ⟨_, rfl, _, rfl, .inl ⟨by omega, by omega⟩, (by decide : (0 : Int) < 998244353), ?_⟩
    have hg : 0 ≤ g * g % 998244353 ∧ g * g % 998244353 < 998244353 := ⟨Int.emod_nonneg _ (by decide), Int.emod_lt_of_pos _ (by decide)⟩
    generalize g * g % 998244353 = g2 at hg ⊢
    refine ⟨.inl ⟨by omega, by omega⟩, (by decide : (0 : Int) < 998244353), ?_⟩
    have hg3 : 0 ≤ g2 * 30011 % 998244353 ∧ g2 * 30011 % 998244353 < 998244353 := ⟨Int.emod_nonneg _ (by decide), Int.emod_lt_of_pos _ (by decide)⟩
    generalize g2 * 30011 % 998244353 = g3 at hg3 ⊢
    dsimp only
    refine dSeq_i ?_
    by_cases h1 : 1000000 < m
    · refine ifs_of true ?_ fun Q q => ⟨_, rfl, subB (decide_eq_true h1) q⟩
      exact ⟨_, rfl, .inl ⟨by omega, by omega⟩, _, rfl, _, rfl, hm, dn (k _ _ (mod _).1 (mod _).2 Kp.refl same)⟩
    · refine ifs_of false ?_ fun Q q => ⟨_, rfl, subB (decide_eq_false h1) q⟩
      exact ⟨_, rfl, ⟨by decide, by decide⟩, _, rfl, hm, dn (k _ _ (mod _).1 (mod _).2 Kp.refl same)⟩
def rest_take (W : DW) : DS :=
  (dSeq (dAugI (dV 0) (dC (.int 2)) (dC (.int 1)) (dI0 fun i j => .int (i + j)))
  (dSeq (dIfS (dB (dOp (dI0 fun i j => .bl (decide (j ≤ i))) (dV 2) (dC (.int 1000000000000000000))))
  (dStoI (dV 0) (dC (.int 0)) (dV 2))
  (dNext))
  (dSeq (dSet 3 (dOp (dAdd false) (dOp (dAdd false) (dOp (dMul false) (dOp dIx (dV 0) (dC (.int 1))) (dC (.int 48271))) (dOp (dI (fun _ j => 0 < j) fun i j => .int (i % j)) (dCB dInt (dCons (dV 2) (dNil))) (dC (.int 2147483647)))) (dOp (dMul false) (dC (.int 7919)) (dOp dIx (dV 0) (dC (.int 2))))))
  (dStoI (dV 0) (dC (.int 1)) (dOp (dI (fun _ j => 0 < j) fun i j => .int (i % j)) (dCB dInt (dCons (dV 3) (dNil))) (dC (.int 2147483647)))))))
theorem take_rest {E : DEnds} {W : DW} {M : Mp} {b : Addr} {m c s : Int} {t : Nat} {cs : List Int} (hb : M b = some (.lst (bagD 0 s t cs))) (hs : 0 ≤ s) (hs2 : s < 2147483647)
    (k : ∀ l s' mixed M', 0 ≤ l → 0 ≤ s' → s' < 2147483647 → Kp [b] M M' → M' b = some (.lst (bagD l s' (t + 1) cs)) → E.nx [some (.ref b), some (.int m), some (.int c), some (.int mixed), none, none, none] M') : rest_take W E [some (.ref b), some (.int m), some (.int c), none, none, none, none] M := by
  refine ⟨_, rfl, _, 2, _, lstOf_ref hb, rfl, b2, b, _, 2, 2, rfl, hb, rfl, rfl, ?_⟩
  have e1 : (bagD 0 s t cs).set 2 (.int ((t : Int) + 1)) = bagD 0 s (t + 1) cs := rfl
  rw [e1]
  dsimp only
  have k1 : Kp [b] M (updM M b (.lst (bagD 0 s (t + 1) cs))) := Kp.put
  -- behind the store of what is left
  have rest : ∀ l M1, 0 ≤ l → Kp [b] M M1 → M1 b = some (.lst (bagD l s (t + 1) cs)) → (dSeq (dSet 3 (dOp (dAdd false) (dOp (dAdd false) (dOp (dMul false) (dOp dIx (dV 0) (dC (.int 1))) (dC (.int 48271))) (dOp (dI (fun _ j => 0 < j) fun i j => .int (i % j)) (dCB dInt (dCons (dV 2) (dNil))) (dC (.int 2147483647)))) (dOp (dMul false) (dC (.int 7919)) (dOp dIx (dV 0) (dC (.int 2))))))
      (dStoI (dV 0) (dC (.int 1)) (dOp (dI (fun _ j => 0 < j) fun i j => .int (i % j)) (dCB dInt (dCons (dV 3) (dNil))) (dC (.int 2147483647))))) E [some (.ref b), some (.int m), some (.int c), none, none, none, none] M1 := by
    intro l M1 hl k1 h1
    refine ⟨_, rfl, _, _, sq h1, b1, .inl ⟨by omega, by omega⟩, _, rfl, (by decide : (0 : Int) < 2147483647), _, rfl, _, _, sq h1, b2, .inl ⟨by decide, by decide⟩, ?_⟩
    refine ⟨_, rfl, (by decide : (0 : Int) < 2147483647), _, rfl, b, _, 1, 1, rfl, h1, rfl, rfl, ?_⟩
    exact k l _ _ _ hl (Int.emod_nonneg _ (by decide)) (Int.emod_lt_of_pos _ (by decide)) (k1.trans0 Kp.put) updM_same
  refine dSeq_i ?_
  by_cases h1 : 1000000000000000000 ≤ c
  · refine ifs_of true ?_ fun Q q => ⟨_, rfl, subB (decide_eq_true h1) q⟩
    refine ⟨_, rfl, _, rfl, b, _, 0, 0, rfl, updM_same, rfl, rfl, ?_⟩
    rw [updM_updM]
    exact rest c _ (by omega) Kp.put updM_same
  · refine ifs_of false ?_ fun Q q => ⟨_, rfl, subB (decide_eq_false h1) q⟩
    exact rest 0 _ (Int.le_refl _) k1 updM_same
section
variable {K : PySem.W.Frag} {mg : Str → Option Value} {a : Ad} (Y : Tx K mg a) {ds : List D} {M : Mp} {R : DK} {RX : DX}
include Y
theorem r__law_take (h : sp__law_take K a ds M R RX) : rd__law_take K a (DnX RX) (ends0 R) (rho0 N__law_take ds) M := by
  obtain ⟨b, m, rfl, ⟨l, s, t, cs, hb, hl, hs, hs2, hc⟩, hm, hm2, k⟩ := h
  refine dSeq_i ?_
  by_cases h0 : l = 0
  · refine ifs_of true ?_ fun Q q => ⟨_, rfl, _, _, sq hb, b0, subB (decide_eq_true h0) q⟩
    subst h0
    refine dSeq_i (dSet_i ?_)
    dsimp only [dC]
    refine dSeq_i ?_
    have fin : ∀ c : Int, rest_take (DnX RX) { ends0 R with nx := tail_take (DnX RX) (ends0 R) } [some (.ref b), some (.int m), some (.int c), none, none, none, none] M := fun c =>
      take_rest hb hs hs2 fun l s' mixed M' h1 h2 h3 k1 h4 => take_tail (W := DnX RX) _ _ h4 h1 h2 h3 hc hm hm2 fun i M2 a1 a2 k2 b2 => k i M2 a1 a2 (k1.trans0 k2) b2
    by_cases h1 : t < cs.length
    · refine ifs_of true ?_ fun Q q => ⟨_, rfl, _, _, sq hb, b2, _, rfl, _, _, sq hb, b3, _, rfl, subB (decide_eq_true (by rw [List.length_map]; omega)) q⟩
      refine ⟨_, rfl, _, _, sq hb, b3, _, rfl, _, _, sq hb, b2, ?_⟩
      refine ⟨_, _, rfl, ?_, fin cs[t]⟩
      unfold L2.atI L2.ixN
      rw [List.length_map, if_pos (by omega), if_pos (by omega)]
      show (il cs)[(t : Int).toNat]? = _
      rw [Int.toNat_natCast, List.getElem?_map, List.getElem?_eq_getElem h1]
      rfl
    · refine ifs_of false ?_ fun Q q => ⟨_, rfl, _, _, sq hb, b2, _, rfl, _, _, sq hb, b3, _, rfl, subB (decide_eq_false (by rw [List.length_map]; omega)) q⟩
      exact fin 0
  · refine ifs_of false ?_ fun Q q => ⟨_, rfl, _, _, sq hb, b0, subB (decide_eq_false h0) q⟩
    exact take_tail (W := DnX RX) _ _ hb hl hs hs2 hc hm hm2 k
end
end Q
namespace Q
open PySem PySem.Spec PyProof.Rows L2 SD
theorem cutL_map {α β : Type} (g : α → β) (xs : List α) (lo hi : Option Int) : cutL (xs.map g) lo hi = (cutL xs lo hi).map g := by
  unfold cutL
  rw [List.length_map, List.map_take, List.map_drop]
theorem cutL_len {α : Type} (xs : List α) (lo hi : Option Int) : (cutL xs lo hi).length ≤ xs.length := by
  unfold cutL
  rw [List.length_take, List.length_drop]
  omega
def absI (i : Int) : Int := if i < 0 then -i else i
def mapI (g : Int → Int) : D → D
  | .int i => .int (g i)
  | d => d
theorem map_il {g : Int → Int} {xs : List Int} : (il xs).map (mapI g) = il (xs.map g) := by
  show (xs.map D.int).map (mapI g) = (xs.map g).map D.int
  rw [List.map_map, List.map_map]
  rfl
section
variable {K : PySem.W.Frag} {mg : Str → Option Value} {a : Ad} (Y : Tx K mg a) {ds ws : List D} {M : Mp} {R : DK} {RX : DX}
include Y
theorem r__law_bag (h : sp__law_bag K a ds M R RX) : rd__law_bag K a (DnX RX) (ends0 R) (rho0 N__law_bag ds) M := by
  obtain ⟨ns, rfl, hl, q⟩ := h
  refine dRet_i ?_
  refine ⟨_, rfl, ?_⟩
  dsimp only [dNo, dSo, dC, sliceD]
  rw [newL_f, cutL_map]
  dsimp only
  intro p hp
  refine lc_map (mapI absI) hp (by rw [List.length_map]; exact Nat.le_trans (cutL_len _ _ _) hl) (fun _ => trivial) (fun d hd acc Q q => ?_) ?_
  · obtain ⟨i, _, rfl⟩ := List.mem_map.mp hd
    exact ⟨_, rfl, q⟩
  · rw [map_il]
    refine ⟨(by show 4 ≤ sizeLine; decide), fun b hb => dn (q b _ hb (Kp.new hb) ?_)⟩
    exact ⟨0, 1234567891, 0, _, updM_same, by decide, by decide, by decide, by rw [List.length_map]; exact Nat.le_trans (cutL_len _ _ _) hl⟩
theorem r__law_far_right___law_rule (h : sp__law_far_right___law_rule K a ws ds M R RX) (hw : ws.length = ct__law_far_right___law_rule.fr.length) : rd__law_far_right___law_rule K a (DnX RX) (ends0 R) (rhoF N__law_far_right___law_rule ds ws) M := by
  obtain ⟨x, y, rfl, q⟩ := h
  exact ⟨⟨by decide, by decide, by decide⟩, dn q⟩
theorem r__law_side___law_rule (h : sp__law_side___law_rule K a ws ds M R RX) (hw : ws.length = ct__law_side___law_rule.fr.length) : rd__law_side___law_rule K a (DnX RX) (ends0 R) (rhoF N__law_side___law_rule ds ws) M := by
  obtain ⟨sa, na, wa, calls, notes, wins, elder, least, rfl, rfl, h1, h2, h3, n1, n2, n3, l1, l2, l3, mk, hm, q⟩ := h
  refine ⟨_, rfl, ⟨_, lstOf_ref h1⟩, _, rfl, _, rfl, (by show 2 ≤ sizeLine; decide), calls, h1, l1, ?_⟩
  have e2 : ∀ o, updM M sa o na = some (.lst notes) := fun o => (updM_ne n1.symm).trans h2
  have e3 : ∀ o, updM M sa o wa = some (.lst (wins.map D.ref)) := fun o => (updM_ne n2.symm).trans h3
  refine ⟨_, rfl, ⟨_, lstOf_ref (e2 _)⟩, ?_⟩
  refine dCons_i (dComp_i (iseq_go (fun Q q => ⟨_, rfl, q⟩) (lstOf_ref (e3 _)) fun chk hc p hp => ?_))
  refine lc_map (fun d => match d with
    | .ref x => mk x
    | d => d) hp (by rw [List.length_map]; exact l3) (fun acc => hc _ ?_) (fun d hd acc Q q => ?_) ?_
  · exact lstOf_kp (S := []) (lstOf_ref (e3 _)) (Kp.new hp) (fun p hp => by simp at hp)
  · obtain ⟨x, hx, rfl⟩ := List.mem_map.mp hd
    obtain ⟨A, h, n, lim, r, xs, W, hl, hs, em⟩ := hm x hx
    have k : Kp [sa] M (updM (updM M sa (.lst (calls ++ [.tup [.int elder, .int least]]))) p (.lst acc)) := Kp.trans0 Kp.put (Kp.new hp)
    have nx : x ∉ [sa] := fun z => by
      have := W.win
      rw [List.mem_singleton.mp z, h1] at this; cases this
    have nA : A ∉ [sa] := fun z => by
      have := W.arr
      rw [List.mem_singleton.mp z, h1] at this; cases this
    have W' := W.kp k nx nA (by simpa using hs)
    refine ⟨_, rfl, _, insOf_ref W'.win, rfl, x, A, h, n, lim, r, xs, rfl, W', hl, ?_⟩
    rw [← em]
    exact q
  · refine ⟨notes, e2 _, l2, ?_⟩
    refine ⟨_, rfl, _, rfl, _, lenD_lst (lstOf_ref ((updM_ne n1).trans updM_same)), (by decide : (0 : Int) < 3), ?_⟩
    rw [List.length_append, List.length_singleton, List.map_map]
    exact dn q
end
end Q
namespace Q
open PySem PySem.Spec PyProof.Rows L2 SD
def Lsts (S : List Addr) (M : Mp) : Prop := ∀ s ∈ S, ∃ ds, M s = some (.lst ds)
theorem Lsts.nin {S : List Addr} {M : Mp} {x : Addr} {o : DO} (h : Lsts S M) (e : M x = some o) (n : ∀ ds, o ≠ .lst ds) : x ∉ S := fun z => by
  obtain ⟨ds, q⟩ := h x z
  rw [e] at q
  cases q
  exact n _ rfl
theorem Wok.kp {a : Ad} {M M' : Mp} {f : Addr} {B B' : Nat} {hs hs' S : List Addr} {x : Addr} {lim : Int} (w : Wok a M f B hs x lim) (k : Kp S M M') (hS : Lsts S M) (hn : ∀ s ∈ S, s ∉ hs) (hB : B ≤ B') (hh : ∀ h ∈ hs, h ∈ hs') : Wok a M' f B' hs' x lim := by
  obtain ⟨A, h, n, xs, W, h1, h2, h3, h4⟩ := w
  exact ⟨A, h, n, xs, W.kp k (hS.nin W.win fun _ z => by cases z) (hS.nin W.arr fun _ z => by cases z) (fun z => hn h z h4), h1, h2, by omega, hh _ h4⟩
theorem Woks.imp {a : Ad} {M M' : Mp} {f : Addr} {B B' : Nat} {hs hs' : List Addr} (h : ∀ x lim, Wok a M f B hs x lim → Wok a M' f B' hs' x lim) : ∀ {ws : List Addr} {ls : List Int}, Woks a M f B hs ws ls → Woks a M' f B' hs' ws ls
  | _, _, .nil => .nil
  | _, _, .cons w r => .cons (h _ _ w) (Woks.imp h r)
theorem Woks.kp {a : Ad} {M M' : Mp} {f : Addr} {B B' : Nat} {hs hs' S ws : List Addr} {ls : List Int} (w : Woks a M f B hs ws ls) (k : Kp S M M') (hS : Lsts S M) (hn : ∀ s ∈ S, s ∉ hs) (hB : B ≤ B') (hh : ∀ h ∈ hs, h ∈ hs') : Woks a M' f B' hs' ws ls :=
  w.imp fun x lim q => q.kp k hS hn hB hh
theorem Woks.len {a : Ad} {M : Mp} {f : Addr} {B : Nat} {hs : List Addr} : ∀ {ws : List Addr} {ls : List Int}, Woks a M f B hs ws ls → ls.length = ws.length
  | _, _, .nil => rfl
  | _, _, .cons _ r => by rw [List.length_cons, List.length_cons, r.len]
theorem Woks.snoc {a : Ad} {M : Mp} {f : Addr} {B : Nat} {hs : List Addr} {x : Addr} {lim : Int} (w : Wok a M f B hs x lim) : ∀ {ws : List Addr} {ls : List Int}, Woks a M f B hs ws ls → Woks a M f B hs (ws ++ [x]) (ls ++ [lim])
  | _, _, .nil => .cons w .nil
  | _, _, .cons v r => .cons v (r.snoc w)
theorem Woks.get {a : Ad} {M : Mp} {f : Addr} {B : Nat} {hs : List Addr} : ∀ {ws : List Addr} {ls : List Int} {i : Nat}, Woks a M f B hs ws ls → i < ws.length → ∃ x lim, ws[i]? = some x ∧ ls[i]? = some lim ∧ Wok a M f B hs x lim
  | _, _, i, .nil, h => by simp at h
  | _, _, 0, .cons w r, _ => ⟨_, _, rfl, rfl, w⟩
  | _, _, i + 1, .cons w r, h => by
    obtain ⟨x, lim, e1, e2, q⟩ := r.get (i := i) (by simpa using h)
    exact ⟨x, lim, by simpa using e1, by simpa using e2, q⟩
theorem Woks.all {a : Ad} {M : Mp} {f : Addr} {B : Nat} {hs : List Addr} : ∀ {ws : List Addr} {ls : List Int} {x : Addr}, Woks a M f B hs ws ls → x ∈ ws → ∃ lim, Wok a M f B hs x lim
  | _, _, x, .nil, h => by simp at h
  | _, _, x, .cons w r, h => by
    rcases List.mem_cons.mp h with e | h
    · subst e; exact ⟨_, w⟩
    · exact r.all h
theorem CloAt.kp {M M' : Mp} {S cs : List Addr} {f : Addr} {F : CloT} {ws : List D} (c : CloAt M f F cs ws) (k : Kp S M M') (hS : Lsts S M) : CloAt M' f F cs ws := by
  obtain ⟨cl, e, h1, h2⟩ := c.ex
  refine ⟨⟨cl, k _ _ e (hS.nin e fun _ z => by cases z), h1, h2⟩, c.nd, c.frn, fun p hp => ?_, c.len⟩
  have := c.cells p hp
  exact k _ _ this (hS.nin this fun _ z => by cases z)
/-- the marks that a window at x sees -/
def mkD (M : Mp) (x : Addr) : D := match M x with
  | some (.ins _ [(_, .ref A), (_, .int n), _]) => match M A with
    | some (.ins _ [(_, .ref h), _]) => match M h with
      | some (.lst ds) => .lst (ds.take n.toNat)
      | _ => .non
    | _ => .non
  | _ => .non
theorem mkD_of {a : Ad} {M : Mp} {x A h : Addr} {n : Nat} {lim : Int} {r : D} {xs : List Int} (W : WinAt a M x A h n lim r xs) : mkD M x = .lst (il (xs.take n)) := by
  unfold mkD
  rw [W.win]
  unfold winF
  dsimp only
  rw [W.arr]
  unfold arrF
  dsimp only
  rw [W.lst]
  dsimp only
  rw [← List.map_take]
  rfl
theorem mkD_kp {a : Ad} {M M' : Mp} {f : Addr} {B : Nat} {hs S : List Addr} {x : Addr} {lim : Int} (w : Wok a M f B hs x lim) (k : Kp S M M') (hS : Lsts S M) (hn : ∀ s ∈ S, s ∉ hs) : mkD M' x = mkD M x := by
  obtain ⟨A, h, n, xs, W, h1, h2, h3, h4⟩ := w
  rw [mkD_of W, mkD_of (W.kp k (hS.nin W.win fun _ z => by cases z) (hS.nin W.arr fun _ z => by cases z) (fun z => hn h z h4))]
/-- ahead of a put: what the law has written down already may be more than what the rule has -/
structure Mid (a : Ad) (M : Mp) (S : Sd) (B : Nat) (calls extra notes : List D) (ws : List Addr) (ls : List Int) (nl : Int) (hs : List Addr) : Prop where
  ask : M S.ask = some (.lst calls)
  call : M S.call = some (.lst (calls ++ extra))
  note : M S.note = some (.lst notes)
  win : M S.win = some (.lst (ws.map D.ref))
  room : M S.room = some (.lst (il (ls ++ [nl])))
  clo : CloAt M S.f ct__law_side___law_rule S.cs [.ref S.ask, .ref S.note, .ref S.win]
  woks : Woks a M S.f B hs ws ls
  ne : ws ≠ []
  nd : S.own.Nodup
  hsL : ∀ h ∈ hs, h ∉ S.own ∧ ∃ xs : List Int, M h = some (.lst (il xs))
  cd : ∀ d ∈ calls ++ extra, CallD d
  b1 : calls.length ≤ B
  b2 : notes.length ≤ B
  b3 : ws.length ≤ B
theorem Mid.lsts {a : Ad} {M : Mp} {S : Sd} {B : Nat} {calls extra notes : List D} {ws : List Addr} {ls : List Int} {nl : Int} {hs : List Addr} (m : Mid a M S B calls extra notes ws ls nl hs) : Lsts S.own M := fun s hs => by
  simp only [Sd.own, List.mem_cons, List.not_mem_nil, or_false] at hs
  rcases hs with rfl | rfl | rfl | rfl | rfl
  · exact ⟨_, m.ask⟩
  · exact ⟨_, m.call⟩
  · exact ⟨_, m.note⟩
  · exact ⟨_, m.win⟩
  · exact ⟨_, m.room⟩
end Q
namespace Q
open PySem PySem.Spec PyProof.Rows L2 SD
/-- behind a put: z the new window -/
structure Post (a : Ad) (M M' : Mp) (S : Sd) (B : Nat) (cl notes : List D) (ws : List Addr) (ls : List Int) (nl : Int) (hs hs' : List Addr) (z : Addr) : Prop where
  ask : M' S.ask = some (.lst cl)
  call : M' S.call = some (.lst cl)
  note : M' S.note = some (.lst notes)
  win : M' S.win = some (.lst (ws.map D.ref))
  room : M' S.room = some (.lst (il (ls ++ [nl])))
  clo : CloAt M' S.f ct__law_side___law_rule S.cs [.ref S.ask, .ref S.note, .ref S.win]
  woks : Woks a M' S.f (B + 3) hs' ws ls
  new : Wok a M' S.f (B + 3) hs' z nl
  hsL : ∀ h ∈ hs', h ∉ S.own ∧ ∃ xs : List Int, M' h = some (.lst (il xs))
  kp : Kp (S.own ++ hs) M M'
  fr : ∀ h ∈ hs', h ∈ hs ∨ M h = none
theorem own_ne {S : Sd} (nd : S.own.Nodup) : S.ask ≠ S.call ∧ S.ask ≠ S.note ∧ S.ask ≠ S.win ∧ S.ask ≠ S.room ∧ S.call ≠ S.note ∧ S.call ≠ S.win ∧ S.call ≠ S.room ∧ S.note ≠ S.win ∧ S.note ≠ S.room ∧ S.win ≠ S.room := by
  simp only [Sd.own, List.nodup_cons, List.mem_cons, List.not_mem_nil, or_false, not_or, List.nodup_nil, and_true, not_false_iff] at nd
  obtain ⟨⟨a1, a2, a3, a4⟩, ⟨b1, b2, b3⟩, ⟨c1, c2⟩, d1⟩ := nd
  exact ⟨a1, a2, a3, a4, b1, b2, b3, c1, c2, d1⟩
theorem cell_at {M : Mp} {f : Addr} {F : CloT} {cs : List Addr} {ws : List D} (c : CloAt M f F cs ws) {b : Addr} (h : b ∈ cs) : ∃ d, M b = some (.cell d) ∧ (b, d) ∈ cs.zip ws := by
  obtain ⟨d, hd⟩ := zip_of_mem h c.len
  exact ⟨d, c.cells _ hd, hd⟩
theorem nin_cs {M : Mp} {f : Addr} {F : CloT} {cs : List Addr} {ws : List D} (c : CloAt M f F cs ws) {b : Addr} {o : DO} (e : M b = some o) (n : ∀ d, o ≠ .cell d) : b ∉ cs := fun h => by
  obtain ⟨d, q, _⟩ := cell_at c h
  rw [e] at q
  cases q
  exact n _ rfl
/-- the cells are told again: all else is as behind the rule -/
theorem add_out {M : Mp} {f : Addr} {F : CloT} {cs : List Addr} {ws : List D} {M2 : Mp} (c : CloAt M f F cs ws) {b : Addr} (h : b ∉ cs) : addM M2 (cs.zip ws) b = M2 b := addM_out (by rw [map_fst_zip c.len]; exact h)
theorem add_in {M : Mp} {f : Addr} {F : CloT} {cs : List Addr} {ws : List D} {M2 : Mp} (c : CloAt M f F cs ws) {b : Addr} (h : b ∈ cs) : addM M2 (cs.zip ws) b = M b := by
  obtain ⟨d, e, hd⟩ := cell_at c h
  have := addM_in (M := M2) (by rw [map_fst_zip c.len]; exact c.nd) hd
  rw [this, e]
section
variable {K : PySem.W.Frag} {mg : Str → Option Value} {a : Ad} (Y : Tx K mg a) {M : Mp} {R : DK} {RX : DX} {S : Sd} {B : Nat} {calls notes : List D} {ws : List Addr} {ls : List Int} {nl : Int} {hs : List Addr} {x A h : Addr} {n : Nat} {lim : Int} {xs ys : List Int}
include Y
theorem put_move (hnl : nl = ((n + ys.length : Nat) : Int) + ((calls.length + 1 : Nat) : Int) % 3) (m : Mid a M S B calls [.tup [.int lim, .int ((n + ys.length : Nat) : Int)]] notes ws ls nl hs) (W : WinAt a M x A h n lim (.ref S.f) xs) (h1 : 1 ≤ n) (h2 : n ≤ xs.length) (h3 : xs.length ≤ B) (hh : h ∈ hs) (hy : ys.length ≤ 3) (hB : B ≤ lim0)
    (hlt : lim < ((n + ys.length : Nat) : Int)) (k : ∀ hs' z M', Post a M M' S B (calls ++ [.tup [.int lim, .int ((n + ys.length : Nat) : Int)]]) (notes ++ [.lst (ws.map (mkD M))]) ws ls nl hs hs' z → R (.ref z) M') :
    sp_Window_put K a [.ref x, .lst (il ys)] M R RX := by
  have big : lim0 + 10 < sizeLine := by decide
  obtain ⟨o1, o2, o3, o4, o5, o6, o7, o8, o9, o10⟩ := own_ne m.nd
  have cl := m.clo
  have nA : S.ask ∉ S.cs := nin_cs cl m.ask fun _ z => by cases z
  have nN : S.note ∉ S.cs := nin_cs cl m.note fun _ z => by cases z
  have nW : S.win ∉ S.cs := nin_cs cl m.win fun _ z => by cases z
  have kh : Kp S.cs M (hideM M S.cs) := fun b o e nb => (hideM_out nb).trans e
  refine ⟨x, _, A, h, n, lim, .ref S.f, xs, ys, rfl, W, rfl, (by intro e; cases e), h2, by omega, fun _ => .inr ⟨rfl, ?_, ?_⟩, fun hle => absurd hle (by omega)⟩
  · obtain ⟨c, e, _⟩ := cl.ex
    exact ⟨S.f, rfl, .inl ⟨_, c, e⟩⟩
  refine .inl ⟨S.f, S.cs, _, rfl, cl, S.ask, S.note, S.win, calls, notes, ws, lim, _, rfl, rfl, (hideM_out nA).trans m.ask, (hideM_out nN).trans m.note, (hideM_out nW).trans m.win, o2, o3, o8, by have := m.b1; omega, by have := m.b2; omega, by have := m.b3; omega, mkD M, fun y hy => ?_, ?_⟩
  · obtain ⟨lim', A', h', n', xs', W', w1, w2, w3, w4⟩ := m.woks.all hy
    refine ⟨A', h', n', lim', _, xs', W'.kp kh (nin_cs cl W'.win fun _ z => by cases z) (nin_cs cl W'.arr fun _ z => by cases z) (nin_cs cl W'.lst fun _ z => by cases z), w2, fun z => ?_, mkD_of W'⟩
    exact (m.hsL _ w4).1 (by rw [z]; simp [Sd.own])
  -- behind the rule
  dsimp only
  generalize hM1 : addM (updM (updM (hideM M S.cs) S.ask (.lst (calls ++ [.tup [.int lim, .int ((n + ys.length : Nat) : Int)]]))) S.note (.lst (notes ++ [.lst (ws.map (mkD M))]))) (S.cs.zip [D.ref S.ask, D.ref S.note, D.ref S.win]) = M1
  have k1 : Kp [S.ask, S.note] M M1 := fun b o e nb => by
    have n1 : b ≠ S.ask := fun z => nb (by simp [z])
    have n2 : b ≠ S.note := fun z => nb (by simp [z])
    rw [← hM1]
    by_cases hb : b ∈ S.cs
    · rw [add_in cl hb]; exact e
    · rw [add_out cl hb, updM_ne n2, updM_ne n1, hideM_out hb]; exact e
  have a1 : M1 S.ask = some (.lst (calls ++ [.tup [.int lim, .int ((n + ys.length : Nat) : Int)]])) := by
    rw [← hM1, add_out cl nA, updM_ne o2]; exact updM_same
  have a2 : M1 S.note = some (.lst (notes ++ [.lst (ws.map (mkD M))])) := by
    rw [← hM1, add_out cl nN]; exact updM_same
  have fresh : ∀ z, M1 z = none → M z = none := fun z e => by
    cases q : M z with
    | none => rfl
    | some o =>
      have nz : z ∉ [S.ask, S.note] := fun w => by
        simp only [List.mem_cons, List.not_mem_nil, or_false] at w
        rcases w with rfl | rfl
        · rw [a1] at e; cases e
        · rw [a2] at e; cases e
      rw [k1 _ _ q nz] at e; cases e
  refine ⟨_, rfl, ?_, k1 _ _ W.win ?_, fun z A' h' M2 z1 z2 z3 z4 z5 k2 W' => k (h' :: hs) z M2 ?_⟩
  · have : (0 : Int) ≤ ((calls.length + 1 : Nat) : Int) % 3 := Int.emod_nonneg _ (by decide)
    omega
  · intro z
    have := W.win
    simp only [List.mem_cons, List.not_mem_nil, or_false] at z
    rcases z with rfl | rfl
    · rw [m.ask] at this; cases this
    · rw [m.note] at this; cases this
  have k12 : Kp [S.ask, S.note] M M2 := fun b o e nb => k2 _ _ (k1 _ _ e nb) (by simp)
  have L : Lsts [S.ask, S.note] M := fun s hs => m.lsts s (by
    simp only [List.mem_cons, List.not_mem_nil, or_false] at hs
    rcases hs with rfl | rfl <;> simp [Sd.own])
  have nhs : ∀ s ∈ [S.ask, S.note], s ∉ hs := fun s hs z => by
    have := (m.hsL s z).1
    simp only [List.mem_cons, List.not_mem_nil, or_false] at hs
    rcases hs with rfl | rfl
    · exact this (by simp [Sd.own])
    · exact this (by simp [Sd.own])
  have ow : ∀ s ∈ S.own, ∃ o, M1 s = some o := fun s hs => by
    simp only [Sd.own, List.mem_cons, List.not_mem_nil, or_false] at hs
    rcases hs with rfl | rfl | rfl | rfl | rfl
    · exact ⟨_, a1⟩
    · exact ⟨_, k1 _ _ m.call (by simp [o1.symm, o5])⟩
    · exact ⟨_, a2⟩
    · exact ⟨_, k1 _ _ m.win (by simp [o3.symm, o8.symm])⟩
    · exact ⟨_, k1 _ _ m.room (by simp [o4.symm, o9.symm])⟩
  refine ⟨k2 _ _ a1 (by simp), k12 _ _ m.call (by simp [o1.symm, o5]), k2 _ _ a2 (by simp), k12 _ _ m.win (by simp [o3.symm, o8.symm]), k12 _ _ m.room (by simp [o4.symm, o9.symm]), CloAt.kp m.clo k12 L, m.woks.kp k12 L nhs (by omega) fun _ q => List.mem_cons_of_mem _ q, ?_, fun q hq => ?_, k12.weak fun s hs => ?_, fun q hq => ?_⟩
  · subst hnl
    refine ⟨A', h', n + ys.length, _, W', by omega, ?_, ?_, List.mem_cons_self⟩
    · rw [List.length_append, List.length_take]; omega
    · rw [List.length_append, List.length_take]; omega
  · rcases List.mem_cons.mp hq with rfl | hq
    · refine ⟨fun w => ?_, _, W'.lst⟩
      obtain ⟨o, e⟩ := ow _ w
      rw [z3] at e
      cases e
    · obtain ⟨q1, vs, q2⟩ := m.hsL q hq
      exact ⟨q1, vs, k12 _ _ q2 fun w => nhs _ w hq⟩
  · simp only [List.mem_cons, List.not_mem_nil, or_false] at hs
    rcases hs with rfl | rfl <;> simp [Sd.own]
  · rcases List.mem_cons.mp hq with rfl | hq
    · exact .inr (fresh _ z3)
    · exact .inl hq
end
end Q
namespace Q
open PySem PySem.Spec PyProof.Rows L2 SD
theorem Kp.cells {M M' : Mp} {S : List Addr} (k : Kp S M M') {p : Addr} (h : M' p = none) (hS : ∀ s ∈ S, ∃ o, M' s = some o) : M p = none := by
  cases q : M p with
  | none => rfl
  | some o =>
    by_cases e : p ∈ S
    · obtain ⟨u, w⟩ := hS p e
      rw [h] at w; cases w
    · rw [k _ _ q e] at h; cases h
section
variable {K : PySem.W.Frag} {mg : Str → Option Value} {a : Ad} (Y : Tx K mg a) {M : Mp} {R : DK} {RX : DX} {S : Sd} {B : Nat} {calls notes : List D} {ws : List Addr} {ls : List Int} {nl : Int} {hs : List Addr} {x A h : Addr} {n : Nat} {lim : Int} {xs ys : List Int}
include Y
theorem put_stay (m : Mid a M S B calls [] notes ws ls lim hs) (W : WinAt a M x A h n lim (.ref S.f) xs) (h1 : 1 ≤ n) (h2 : n ≤ xs.length) (h3 : xs.length ≤ B) (hh : h ∈ hs) (hy : ys.length ≤ 3) (hB : B ≤ lim0)
    (hle : ((n + ys.length : Nat) : Int) ≤ lim) (k : ∀ z M', Post a M M' S B calls notes ws ls lim hs hs z → R (.ref z) M') : sp_Window_put K a [.ref x, .lst (il ys)] M R RX := by
  have big : lim0 + 10 < sizeLine := by decide
  refine ⟨x, _, A, h, n, lim, .ref S.f, xs, ys, rfl, W, rfl, (by intro e; cases e), h2, by omega, fun hlt => absurd hlt (by omega), fun _ z M2 hz k2 W' => k z M2 ?_⟩
  obtain ⟨q1, vs, q2⟩ := m.hsL h hh
  have nh : ∀ s ∈ S.own, s ∉ [h] := fun s hs z => q1 (by rw [← List.mem_singleton.mp z]; exact hs)
  have L : Lsts [h] M := fun s hs => by rw [List.mem_singleton.mp hs]; exact ⟨_, W.lst⟩
  have ec : calls ++ [] = calls := List.append_nil _
  have mc := m.call
  rw [ec] at mc
  have len : (xs.take n ++ ys ++ xs.drop (n + ys.length)).length ≤ B + 3 ∧ xs.length ≤ (xs.take n ++ ys ++ xs.drop (n + ys.length)).length ∧ n + ys.length ≤ (xs.take n ++ ys ++ xs.drop (n + ys.length)).length := by
    rw [List.length_append, List.length_append, List.length_take, List.length_drop]
    omega
  -- a window of the side, behind the store
  have each : ∀ x lim, Wok a M S.f B hs x lim → Wok a M2 S.f (B + 3) hs x lim := fun x' lim' ⟨A', h', n', xs', W'', w1, w2, w3, w4⟩ => by
    have nx := L.nin W''.win fun _ z => by cases z
    have nA := L.nin W''.arr fun _ z => by cases z
    by_cases e : h' = h
    · subst e
      have ex : xs' = xs := by
        have e1 := W''.lst.symm.trans W.lst
        have e2 : il xs' = il xs := by injection (Option.some.inj e1)
        exact (List.map_inj_right (fun _ _ z => by injection z)).mp e2
      subst ex
      exact ⟨A', h', n', _, ⟨k2 _ _ W''.win nx, k2 _ _ W''.arr nA, W'.lst⟩, w1, by omega, len.1, w4⟩
    · exact ⟨A', h', n', xs', W''.kp k2 nx nA (by simpa using e), w1, w2, by omega, w4⟩
  exact ⟨k2 _ _ m.ask (nh _ (by simp [Sd.own])), k2 _ _ mc (nh _ (by simp [Sd.own])), k2 _ _ m.note (nh _ (by simp [Sd.own])), k2 _ _ m.win (nh _ (by simp [Sd.own])), k2 _ _ m.room (nh _ (by simp [Sd.own])), CloAt.kp m.clo k2 L, m.woks.imp each,
    ⟨A, h, n + ys.length, _, W', by omega, len.2.2, len.1, hh⟩, fun q hq => by
      obtain ⟨q3, vs', q4⟩ := m.hsL q hq
      refine ⟨q3, ?_⟩
      by_cases e : q = h
      · subst e; exact ⟨_, W'.lst⟩
      · exact ⟨vs', k2 _ _ q4 (by simpa using e)⟩, k2.weak fun s hs => by rw [List.mem_singleton.mp hs]; exact List.mem_append_right _ hh, fun q hq => .inl hq⟩
/-- the new window written down, the side is as it must be -/
theorem post_side {M' : Mp} {cl : List D} {hs' : List Addr} {z : Addr} (p : Post a M M' S B cl notes ws ls nl hs hs' z) (nd : S.own.Nodup) (ne : ws ≠ []) (cd : ∀ d ∈ cl, CallD d) (b1 : cl.length ≤ B + 3) (b2 : notes.length ≤ B + 3) (b3 : ws.length ≤ B) :
    SideOk a (updM M' S.win (.lst (ws.map D.ref ++ [.ref z]))) S (B + 3) cl notes (ws ++ [z]) (ls ++ [nl]) hs' := by
  obtain ⟨o1, o2, o3, o4, o5, o6, o7, o8, o9, o10⟩ := own_ne nd
  have k : Kp [S.win] M' (updM M' S.win (.lst (ws.map D.ref ++ [.ref z]))) := Kp.put
  have L : Lsts [S.win] M' := fun s hs => by rw [List.mem_singleton.mp hs]; exact ⟨_, p.win⟩
  have nh : ∀ s ∈ [S.win], s ∉ hs' := fun s hs q => (p.hsL s q).1 (by rw [List.mem_singleton.mp hs]; simp [Sd.own])
  refine ⟨k _ _ p.ask (by simpa using o3), k _ _ p.call (by simpa using o6), k _ _ p.note (by simpa using o8), ?_, k _ _ p.room (by simpa using o10.symm), CloAt.kp p.clo k L, Woks.snoc (p.new.kp k L nh (Nat.le_refl _) fun _ q => q) (p.woks.kp k L nh (Nat.le_refl _) fun _ q => q), by simp, nd, fun h hh => ?_, cd, b1, b2, by rw [List.length_append, List.length_singleton]; omega⟩
  · rw [List.map_append]; exact updM_same
  · obtain ⟨q1, vs, q2⟩ := p.hsL h hh
    exact ⟨q1, vs, k _ _ q2 fun w => nh _ w hh⟩
/-- changes that no window feels -/
theorem Mid.kp {M' : Mp} {extra : List D} {T : List Addr} (m : Mid a M S B calls extra notes ws ls nl hs) (k : Kp T M M') (L : Lsts T M) (n1 : ∀ s ∈ T, s ∉ S.own) (n2 : ∀ s ∈ T, s ∉ hs) : Mid a M' S B calls extra notes ws ls nl hs :=
  ⟨k _ _ m.ask fun z => n1 _ z (by simp [Sd.own]), k _ _ m.call fun z => n1 _ z (by simp [Sd.own]), k _ _ m.note fun z => n1 _ z (by simp [Sd.own]), k _ _ m.win fun z => n1 _ z (by simp [Sd.own]), k _ _ m.room fun z => n1 _ z (by simp [Sd.own]), CloAt.kp m.clo k L, m.woks.kp k L n2 (Nat.le_refl _) fun _ q => q, m.ne, m.nd,
    fun h hh => let ⟨q1, vs, q2⟩ := m.hsL h hh; ⟨q1, vs, k _ _ q2 fun w => n2 _ w hh⟩, m.cd, m.b1, m.b2, m.b3⟩
theorem SideOk.lsts (m : SideOk a M S B calls notes ws ls hs) : Lsts S.own M := fun s hs => by
  simp only [Sd.own, List.mem_cons, List.not_mem_nil, or_false] at hs
  rcases hs with rfl | rfl | rfl | rfl | rfl
  · exact ⟨_, m.ask⟩
  · exact ⟨_, m.call⟩
  · exact ⟨_, m.note⟩
  · exact ⟨_, m.win⟩
  · exact ⟨_, m.room⟩
theorem SideOk.kp {M' : Mp} {B' : Nat} {T : List Addr} (m : SideOk a M S B calls notes ws ls hs) (k : Kp T M M') (L : Lsts T M) (n1 : ∀ s ∈ T, s ∉ S.own) (n2 : ∀ s ∈ T, s ∉ hs) (hB : B ≤ B') : SideOk a M' S B' calls notes ws ls hs :=
  ⟨k _ _ m.ask fun z => n1 _ z (by simp [Sd.own]), k _ _ m.call fun z => n1 _ z (by simp [Sd.own]), k _ _ m.note fun z => n1 _ z (by simp [Sd.own]), k _ _ m.win fun z => n1 _ z (by simp [Sd.own]), k _ _ m.room fun z => n1 _ z (by simp [Sd.own]), CloAt.kp m.clo k L, m.woks.kp k L n2 hB fun _ q => q, m.ne, m.nd,
    fun h hh => let ⟨q1, vs, q2⟩ := m.hsL h hh; ⟨q1, vs, k _ _ q2 fun w => n2 _ w hh⟩, m.cd, by have := m.b1; omega, by have := m.b2; omega, by have := m.b3; omega⟩
theorem BagOk.kp {M' : Mp} {T : List Addr} {b : Addr} (h : BagOk M b) (k : Kp T M M') (n : b ∉ T) : BagOk M' b := by
  obtain ⟨l, s, t, cs, e, r⟩ := h
  exact ⟨l, s, t, cs, k _ _ e n, r⟩
theorem BagOk.lst {b : Addr} (h : BagOk M b) : Lsts [b] M := by
  obtain ⟨l, s, t, cs, e, r⟩ := h
  exact fun q hq => by rw [List.mem_singleton.mp hq]; exact ⟨_, e⟩
end
end Q
namespace Q
open PySem PySem.Spec PyProof.Rows L2 SD
def rd__law_grown_s1 (K : PySem.W.Frag) (a : Ad) (W : DW) : DS :=
  dSeq (dPar [6, 7, 8] (dCons (dOp dIx (dV 1) (dV 5)) (dCons (dOp (dMul false) (dLst false (dCons (dC (.int 5)) (dNil))) (dOp (dAdd false) (dC (.int 1)) (dCall (sp__law_take K a) [] W (dCons (dV 0) (dCons (dC (.int 3)) (dNil)))))) (dCons (dComp false (iSeq (dV 1)) (gN 11) (dYes) (dMeth a.c_Window "marks" (sp_Window_marks K a) [] W0 (dV 11) dNil) [11]) (dNil)))))
  (dSeq (dSet 9 (dOp (dAdd false) (dCB (fun ds M Q => dLen ds M Q ∨ dLenO a.c_Window (sp_Window___len__ K a) ds M Q) (dCons (dV 6) (dNil))) (dCB (fun ds M Q => dLen ds M Q ∨ dLenO a.c_Window (sp_Window___len__ K a) ds M Q) (dCons (dV 7) (dNil)))))
  (dSeq (dSet 10 (dOp (dI0 fun i j => .bl (decide (j < i))) (dV 9) (dProp a.c_Window (sp_Window_room K a) (dV 6))))
  (dSeq (dIfS (dTru (dV 10))
  (dSeq (dDrop (dML dAppend (dV 3) (dCons (dTup (dCons (dProp a.c_Window (sp_Window_room K a) (dV 6)) (dCons (dV 9) (dNil)))) dNil)))
  (dDrop (dML dAppend (dV 2) (dCons (dOp (dAdd false) (dV 9) (dOp (dI (fun _ j => 0 < j) fun i j => .int (i % j)) (dCB dInt (dCons (dCB (fun ds M Q => dLen ds M Q ∨ dLenO a.c_Window (sp_Window___len__ K a) ds M Q) (dCons (dV 3) (dNil))) (dNil))) (dC (.int 3)))) dNil))))
  (dDrop (dML dAppend (dV 2) (dCons (dProp a.c_Window (sp_Window_room K a) (dV 6)) dNil))))
  (dSeq (dIfS (dB (dOp dEqA (dCall (sp__law_take K a) [] W (dCons (dV 0) (dCons (dC (.int 2)) (dNil)))) (dC (.int 0))))
  (dSeq (dAug 6 (dV 7) (dIaddO a.c_Window (sp_Window___iadd__ K a)))
  (dDrop (dML dAppend (dV 1) (dCons (dV 6) dNil))))
  (dDrop (dML dAppend (dV 1) (dCons (dMeth a.c_Window "put" (sp_Window_put K a) [] W (dV 6) (dCons (dV 7) (dNil))) dNil))))
  (dRet (dOrV (dNotV (dV 10)) (dOp dEqA (dOp dIx (dV 4) (dNeg (dC (.int 1)))) (dV 8))))))))
def rd__law_grown_s2 (K : PySem.W.Frag) (a : Ad) (W : DW) : DS :=
  dSeq (dSet 9 (dOp (dAdd false) (dCB (fun ds M Q => dLen ds M Q ∨ dLenO a.c_Window (sp_Window___len__ K a) ds M Q) (dCons (dV 6) (dNil))) (dCB (fun ds M Q => dLen ds M Q ∨ dLenO a.c_Window (sp_Window___len__ K a) ds M Q) (dCons (dV 7) (dNil)))))
  (dSeq (dSet 10 (dOp (dI0 fun i j => .bl (decide (j < i))) (dV 9) (dProp a.c_Window (sp_Window_room K a) (dV 6))))
  (dSeq (dIfS (dTru (dV 10))
  (dSeq (dDrop (dML dAppend (dV 3) (dCons (dTup (dCons (dProp a.c_Window (sp_Window_room K a) (dV 6)) (dCons (dV 9) (dNil)))) dNil)))
  (dDrop (dML dAppend (dV 2) (dCons (dOp (dAdd false) (dV 9) (dOp (dI (fun _ j => 0 < j) fun i j => .int (i % j)) (dCB dInt (dCons (dCB (fun ds M Q => dLen ds M Q ∨ dLenO a.c_Window (sp_Window___len__ K a) ds M Q) (dCons (dV 3) (dNil))) (dNil))) (dC (.int 3)))) dNil))))
  (dDrop (dML dAppend (dV 2) (dCons (dProp a.c_Window (sp_Window_room K a) (dV 6)) dNil))))
  (dSeq (dIfS (dB (dOp dEqA (dCall (sp__law_take K a) [] W (dCons (dV 0) (dCons (dC (.int 2)) (dNil)))) (dC (.int 0))))
  (dSeq (dAug 6 (dV 7) (dIaddO a.c_Window (sp_Window___iadd__ K a)))
  (dDrop (dML dAppend (dV 1) (dCons (dV 6) dNil))))
  (dDrop (dML dAppend (dV 1) (dCons (dMeth a.c_Window "put" (sp_Window_put K a) [] W (dV 6) (dCons (dV 7) (dNil))) dNil))))
  (dRet (dOrV (dNotV (dV 10)) (dOp dEqA (dOp dIx (dV 4) (dNeg (dC (.int 1)))) (dV 8)))))))
def rd__law_grown_s3 (K : PySem.W.Frag) (a : Ad) (W : DW) : DS :=
  dSeq (dSet 10 (dOp (dI0 fun i j => .bl (decide (j < i))) (dV 9) (dProp a.c_Window (sp_Window_room K a) (dV 6))))
  (dSeq (dIfS (dTru (dV 10))
  (dSeq (dDrop (dML dAppend (dV 3) (dCons (dTup (dCons (dProp a.c_Window (sp_Window_room K a) (dV 6)) (dCons (dV 9) (dNil)))) dNil)))
  (dDrop (dML dAppend (dV 2) (dCons (dOp (dAdd false) (dV 9) (dOp (dI (fun _ j => 0 < j) fun i j => .int (i % j)) (dCB dInt (dCons (dCB (fun ds M Q => dLen ds M Q ∨ dLenO a.c_Window (sp_Window___len__ K a) ds M Q) (dCons (dV 3) (dNil))) (dNil))) (dC (.int 3)))) dNil))))
  (dDrop (dML dAppend (dV 2) (dCons (dProp a.c_Window (sp_Window_room K a) (dV 6)) dNil))))
  (dSeq (dIfS (dB (dOp dEqA (dCall (sp__law_take K a) [] W (dCons (dV 0) (dCons (dC (.int 2)) (dNil)))) (dC (.int 0))))
  (dSeq (dAug 6 (dV 7) (dIaddO a.c_Window (sp_Window___iadd__ K a)))
  (dDrop (dML dAppend (dV 1) (dCons (dV 6) dNil))))
  (dDrop (dML dAppend (dV 1) (dCons (dMeth a.c_Window "put" (sp_Window_put K a) [] W (dV 6) (dCons (dV 7) (dNil))) dNil))))
  (dRet (dOrV (dNotV (dV 10)) (dOp dEqA (dOp dIx (dV 4) (dNeg (dC (.int 1)))) (dV 8))))))
def rd__law_grown_s4 (K : PySem.W.Frag) (a : Ad) (W : DW) : DS :=
  dSeq (dIfS (dTru (dV 10))
  (dSeq (dDrop (dML dAppend (dV 3) (dCons (dTup (dCons (dProp a.c_Window (sp_Window_room K a) (dV 6)) (dCons (dV 9) (dNil)))) dNil)))
  (dDrop (dML dAppend (dV 2) (dCons (dOp (dAdd false) (dV 9) (dOp (dI (fun _ j => 0 < j) fun i j => .int (i % j)) (dCB dInt (dCons (dCB (fun ds M Q => dLen ds M Q ∨ dLenO a.c_Window (sp_Window___len__ K a) ds M Q) (dCons (dV 3) (dNil))) (dNil))) (dC (.int 3)))) dNil))))
  (dDrop (dML dAppend (dV 2) (dCons (dProp a.c_Window (sp_Window_room K a) (dV 6)) dNil))))
  (dSeq (dIfS (dB (dOp dEqA (dCall (sp__law_take K a) [] W (dCons (dV 0) (dCons (dC (.int 2)) (dNil)))) (dC (.int 0))))
  (dSeq (dAug 6 (dV 7) (dIaddO a.c_Window (sp_Window___iadd__ K a)))
  (dDrop (dML dAppend (dV 1) (dCons (dV 6) dNil))))
  (dDrop (dML dAppend (dV 1) (dCons (dMeth a.c_Window "put" (sp_Window_put K a) [] W (dV 6) (dCons (dV 7) (dNil))) dNil))))
  (dRet (dOrV (dNotV (dV 10)) (dOp dEqA (dOp dIx (dV 4) (dNeg (dC (.int 1)))) (dV 8)))))
def rd__law_grown_s5 (K : PySem.W.Frag) (a : Ad) (W : DW) : DS :=
  dSeq (dIfS (dB (dOp dEqA (dCall (sp__law_take K a) [] W (dCons (dV 0) (dCons (dC (.int 2)) (dNil)))) (dC (.int 0))))
  (dSeq (dAug 6 (dV 7) (dIaddO a.c_Window (sp_Window___iadd__ K a)))
  (dDrop (dML dAppend (dV 1) (dCons (dV 6) dNil))))
  (dDrop (dML dAppend (dV 1) (dCons (dMeth a.c_Window "put" (sp_Window_put K a) [] W (dV 6) (dCons (dV 7) (dNil))) dNil))))
  (dRet (dOrV (dNotV (dV 10)) (dOp dEqA (dOp dIx (dV 4) (dNeg (dC (.int 1)))) (dV 8))))
def rd__law_grown_s6 (K : PySem.W.Frag) (a : Ad) (W : DW) : DS :=
  dRet (dOrV (dNotV (dV 10)) (dOp dEqA (dOp dIx (dV 4) (dNeg (dC (.int 1)))) (dV 8)))
def rd__law_other_s1 (K : PySem.W.Frag) (a : Ad) (W : DW) : DS :=
  dSeq (dSet 5 (dOp dIx (dV 1) (dV 3)))
  (dIfS (dB (dOp dEqA (dV 4) (dC (.int 0))))
  (dSeq (dDrop (dML dAppend (dV 1) (dCons (dMeth a.c_Window "cut" (sp_Window_cut K a) [] W (dV 5) (dCons (dOp (dAdd false) (dC (.int 1)) (dCall (sp__law_take K a) [] W (dCons (dV 0) (dCons (dCB (fun ds M Q => dLen ds M Q ∨ dLenO a.c_Window (sp_Window___len__ K a) ds M Q) (dCons (dV 5) (dNil))) (dNil))))) (dNil))) dNil)))
  (dDrop (dML dAppend (dV 2) (dCons (dProp a.c_Window (sp_Window_room K a) (dV 5)) dNil))))
  (dIfS (dB (dOp dEqA (dV 4) (dC (.int 1))))
  (dSeq (dDrop (dML dAppend (dV 1) (dCons (dMeth a.c_Window "copied" (sp_Window_copied K a) [] W (dV 5) dNil) dNil)))
  (dDrop (dML dAppend (dV 2) (dCons (dCB (fun ds M Q => dLen ds M Q ∨ dLenO a.c_Window (sp_Window___len__ K a) ds M Q) (dCons (dV 5) (dNil))) dNil))))
  (dStoR (dSetO a.c_Window (sp_Window___setitem__ K a)) (dV 5) (dCall (sp__law_take K a) [] W (dCons (dV 0) (dCons (dCB (fun ds M Q => dLen ds M Q ∨ dLenO a.c_Window (sp_Window___len__ K a) ds M Q) (dCons (dV 5) (dNil))) (dNil)))) (dC (.int 3)))))
def rd__law_other_s2 (K : PySem.W.Frag) (a : Ad) (W : DW) : DS :=
  dIfS (dB (dOp dEqA (dV 4) (dC (.int 0))))
  (dSeq (dDrop (dML dAppend (dV 1) (dCons (dMeth a.c_Window "cut" (sp_Window_cut K a) [] W (dV 5) (dCons (dOp (dAdd false) (dC (.int 1)) (dCall (sp__law_take K a) [] W (dCons (dV 0) (dCons (dCB (fun ds M Q => dLen ds M Q ∨ dLenO a.c_Window (sp_Window___len__ K a) ds M Q) (dCons (dV 5) (dNil))) (dNil))))) (dNil))) dNil)))
  (dDrop (dML dAppend (dV 2) (dCons (dProp a.c_Window (sp_Window_room K a) (dV 5)) dNil))))
  (dIfS (dB (dOp dEqA (dV 4) (dC (.int 1))))
  (dSeq (dDrop (dML dAppend (dV 1) (dCons (dMeth a.c_Window "copied" (sp_Window_copied K a) [] W (dV 5) dNil) dNil)))
  (dDrop (dML dAppend (dV 2) (dCons (dCB (fun ds M Q => dLen ds M Q ∨ dLenO a.c_Window (sp_Window___len__ K a) ds M Q) (dCons (dV 5) (dNil))) dNil))))
  (dStoR (dSetO a.c_Window (sp_Window___setitem__ K a)) (dV 5) (dCall (sp__law_take K a) [] W (dCons (dV 0) (dCons (dCB (fun ds M Q => dLen ds M Q ∨ dLenO a.c_Window (sp_Window___len__ K a) ds M Q) (dCons (dV 5) (dNil))) (dNil)))) (dC (.int 3))))
def rd_law_s1 (K : PySem.W.Frag) (a : Ad) (W : DW) : DS :=
  dSeq (dFor (iR1 (dCons (dC (.int 3)) dNil)) (gN 2)
  (dSeq (dAsg (dTup (dCons (dLst false (dCons (dLst true (dNil)) (dCons (dLst true (dNil)) (dNil)))) (dCons (dLst false (dCons (dLst true (dNil)) (dCons (dLst true (dNil)) (dNil)))) (dCons (dLst false (dCons (dLst true (dNil)) (dCons (dLst true (dNil)) (dNil)))) (dCons (dLst false (dCons (dLst true (dNil)) (dCons (dLst true (dNil)) (dNil)))) (dCons (dLst true (dNil)) (dNil))))))) (gT (gsC (gN 3) (gsC (gN 4) (gsC (gN 5) (gsC (gN 6) (gsC (gN 7) (gsN))))))))
  (dSeq (dFor (iR1 (dCons (dC (.int 2)) dNil)) (gN 8)
  (dSeq (dSet 9 (dCall (sp__law_side K a) [] W (dCons (dOp dIx (dV 3) (dV 8)) (dCons (dOp dIx (dV 6) (dV 8)) (dCons (dOp dIx (dV 5) (dV 8)) (dNil))))))
  (dSeq (dDrop (dML dAppend (dOp dIx (dV 6) (dV 8)) (dCons (dMakeK a.c_Window 1 1 (sp_Window___init__ K a) (fun vs zs => vs ++ zs) W (dCons (dOp (dMul false) (dLst false (dCons (dC (.int 1)) (dNil))) (dOp (dAdd false) (dC (.int 1)) (dCall (sp__law_take K a) [] W (dCons (dV 1) (dCons (dC (.int 3)) (dNil)))))) (dNil)) (dCons (dV 9) (dNil))) dNil)))
  (dDrop (dML dAppend (dV 7) (dCons (dLst true (dCons (dCB (fun ds M Q => dLen ds M Q ∨ dLenO a.c_Window (sp_Window___len__ K a) ds M Q) (dCons (dOp dIx (dOp dIx (dV 6) (dV 8)) (dC (.int 0))) (dNil))) (dNil))) dNil))))))
  (dSeq (dFor (iR1 (dCons (dC (.int 14)) dNil)) (gN 10)
  (dSeq (dSet 8 (dCall (sp__law_take K a) [] W (dCons (dV 1) (dCons (dC (.int 2)) (dNil)))))
  (dSeq (dIfS (dB (dOp dEqA (dCall (sp__law_take K a) [] W (dCons (dV 1) (dCons (dC (.int 2)) (dNil)))) (dC (.int 0))))
  (dIfS (dNotT (dTru (dCall (sp__law_grown K a) [] W (dCons (dV 1) (dCons (dOp dIx (dV 6) (dV 8)) (dCons (dOp dIx (dV 7) (dV 8)) (dCons (dOp dIx (dV 4) (dV 8)) (dCons (dOp dIx (dV 5) (dV 8)) (dNil)))))))))
  (dRet (dC (.bl false)))
  (dNext))
  (dDrop (dCall (sp__law_other K a) [] W (dCons (dV 1) (dCons (dOp dIx (dV 6) (dV 8)) (dCons (dOp dIx (dV 7) (dV 8)) (dNil)))))))
  (dIfS (dOrT (dB (dOp dNeA (dV 3) (dV 4))) (dB (dOp dNeA (dComp false (iSeq (dV 6)) (gN 12) (dYes) (dComp false (iSeq (dV 12)) (gN 13) (dYes) (dProp a.c_Window (sp_Window_room K a) (dV 13)) [13]) [12]) (dV 7))))
  (dRet (dC (.bl false)))
  (dNext)))))
  (dSeq (dSet 11 (dMake a.c_Window (sp_Window___init__ K a) [.non] W (dCons (dLst false (dCons (dC (.int 1)) (dCons (dC (.int 2)) (dNil)))) (dNil))))
  (dIfS (dB (dOp dNeA (dLst false (dCons (dProp a.c_Window (sp_Window_room K a) (dMeth a.c_Window "put" (sp_Window_put K a) [] W (dV 11) (dCons (dLst false (dCons (dC (.int 3)) (dNil))) (dNil)))) (dCons (dProp a.c_Window (sp_Window_room K a) (dMeth a.c_Window "put" (sp_Window_put K a) [] W (dMeth a.c_Window "cut" (sp_Window_cut K a) [] W (dV 11) (dCons (dC (.int 1)) (dNil))) (dCons (dLst false (dCons (dC (.int 3)) (dNil))) (dNil)))) (dCons (dProp a.c_Window (sp_Window_room K a) (dMeth a.c_Window "put" (sp_Window_put K a) [] W (dMeth a.c_Window "copied" (sp_Window_copied K a) [] W (dV 11) dNil) (dCons (dLst false (dCons (dC (.int 3)) (dCons (dC (.int 4)) (dNil)))) (dNil)))) (dNil))))) (dLst false (dCons (dC (.int 3)) (dCons (dC (.int 2)) (dCons (dC (.int 4)) (dNil)))))))
  (dRet (dC (.bl false)))
  (dNext)))))))
  (dRet (dCall (sp__law_far_right K a) [] W dNil))
def rd_law_s2 (K : PySem.W.Frag) (a : Ad) (W : DW) : DS :=
  dRet (dCall (sp__law_far_right K a) [] W dNil)
def rd__law_far_right_s1 (K : PySem.W.Frag) (a : Ad) (W : DW) : DS :=
  dSeq (dSet 1 (dMakeK a.c_Window 1 1 (sp_Window___init__ K a) (fun vs zs => vs ++ zs) W (dCons (dLst false (dCons (dC (.int 1)) (dCons (dC (.int 2)) (dNil)))) (dNil)) (dCons (dV 0) (dNil))))
  (dSeq (dSet 2 (dMeth a.c_Window "put" (sp_Window_put K a) [] W (dV 1) (dCons (dLst false (dCons (dC (.int 3)) (dNil))) (dNil))))
  (dSeq (dSet 3 (dMeth a.c_Window "put" (sp_Window_put K a) [] W (dMeth a.c_Window "cut" (sp_Window_cut K a) [] W (dV 2) (dCons (dC (.int 1)) (dNil))) (dCons (dLst false (dCons (dC (.int 4)) (dNil))) (dNil))))
  (dSeq (dSet 4 (dLst false (dCons (dProp a.c_Window (sp_Window_room K a) (dV 2)) (dCons (dProp a.c_Window (sp_Window_spare K a) (dV 2)) (dCons (dMeth a.c_Window "marks" (sp_Window_marks K a) [] W (dV 2) dNil) (dCons (dMeth a.c_Window "marks" (sp_Window_marks K a) [] W (dV 3) dNil) (dCons (dMeth a.c_Window "shares" (sp_Window_shares K a) [] W (dV 3) (dCons (dV 2) (dNil))) (dCons (dProp a.c_Window (sp_Window_room K a) (dMeth a.c_Window "copied" (sp_Window_copied K a) [] W (dV 2) dNil)) (dNil)))))))))
  (dRet (dOp dEqA (dV 4) (dLst false (dCons (dOp (dI CPow fun i j => .int (i ^ j.toNat)) (dC (.int 10)) (dC (.int 39))) (dCons (dOp (dI0 fun i j => .int (i - j)) (dOp (dI CPow fun i j => .int (i ^ j.toNat)) (dC (.int 10)) (dC (.int 39))) (dC (.int 3))) (dCons (dLst false (dCons (dC (.int 1)) (dCons (dC (.int 4)) (dCons (dC (.int 3)) (dNil))))) (dCons (dLst false (dCons (dC (.int 1)) (dCons (dC (.int 4)) (dNil)))) (dCons (dC (.bl true)) (dCons (dC (.int 3)) (dNil)))))))))))))
def rd__law_far_right_s2 (K : PySem.W.Frag) (a : Ad) (W : DW) : DS :=
  dSeq (dSet 2 (dMeth a.c_Window "put" (sp_Window_put K a) [] W (dV 1) (dCons (dLst false (dCons (dC (.int 3)) (dNil))) (dNil))))
  (dSeq (dSet 3 (dMeth a.c_Window "put" (sp_Window_put K a) [] W (dMeth a.c_Window "cut" (sp_Window_cut K a) [] W (dV 2) (dCons (dC (.int 1)) (dNil))) (dCons (dLst false (dCons (dC (.int 4)) (dNil))) (dNil))))
  (dSeq (dSet 4 (dLst false (dCons (dProp a.c_Window (sp_Window_room K a) (dV 2)) (dCons (dProp a.c_Window (sp_Window_spare K a) (dV 2)) (dCons (dMeth a.c_Window "marks" (sp_Window_marks K a) [] W (dV 2) dNil) (dCons (dMeth a.c_Window "marks" (sp_Window_marks K a) [] W (dV 3) dNil) (dCons (dMeth a.c_Window "shares" (sp_Window_shares K a) [] W (dV 3) (dCons (dV 2) (dNil))) (dCons (dProp a.c_Window (sp_Window_room K a) (dMeth a.c_Window "copied" (sp_Window_copied K a) [] W (dV 2) dNil)) (dNil)))))))))
  (dRet (dOp dEqA (dV 4) (dLst false (dCons (dOp (dI CPow fun i j => .int (i ^ j.toNat)) (dC (.int 10)) (dC (.int 39))) (dCons (dOp (dI0 fun i j => .int (i - j)) (dOp (dI CPow fun i j => .int (i ^ j.toNat)) (dC (.int 10)) (dC (.int 39))) (dC (.int 3))) (dCons (dLst false (dCons (dC (.int 1)) (dCons (dC (.int 4)) (dCons (dC (.int 3)) (dNil))))) (dCons (dLst false (dCons (dC (.int 1)) (dCons (dC (.int 4)) (dNil)))) (dCons (dC (.bl true)) (dCons (dC (.int 3)) (dNil))))))))))))
def rd__law_far_right_s3 (K : PySem.W.Frag) (a : Ad) (W : DW) : DS :=
  dSeq (dSet 3 (dMeth a.c_Window "put" (sp_Window_put K a) [] W (dMeth a.c_Window "cut" (sp_Window_cut K a) [] W (dV 2) (dCons (dC (.int 1)) (dNil))) (dCons (dLst false (dCons (dC (.int 4)) (dNil))) (dNil))))
  (dSeq (dSet 4 (dLst false (dCons (dProp a.c_Window (sp_Window_room K a) (dV 2)) (dCons (dProp a.c_Window (sp_Window_spare K a) (dV 2)) (dCons (dMeth a.c_Window "marks" (sp_Window_marks K a) [] W (dV 2) dNil) (dCons (dMeth a.c_Window "marks" (sp_Window_marks K a) [] W (dV 3) dNil) (dCons (dMeth a.c_Window "shares" (sp_Window_shares K a) [] W (dV 3) (dCons (dV 2) (dNil))) (dCons (dProp a.c_Window (sp_Window_room K a) (dMeth a.c_Window "copied" (sp_Window_copied K a) [] W (dV 2) dNil)) (dNil)))))))))
  (dRet (dOp dEqA (dV 4) (dLst false (dCons (dOp (dI CPow fun i j => .int (i ^ j.toNat)) (dC (.int 10)) (dC (.int 39))) (dCons (dOp (dI0 fun i j => .int (i - j)) (dOp (dI CPow fun i j => .int (i ^ j.toNat)) (dC (.int 10)) (dC (.int 39))) (dC (.int 3))) (dCons (dLst false (dCons (dC (.int 1)) (dCons (dC (.int 4)) (dCons (dC (.int 3)) (dNil))))) (dCons (dLst false (dCons (dC (.int 1)) (dCons (dC (.int 4)) (dNil)))) (dCons (dC (.bl true)) (dCons (dC (.int 3)) (dNil)))))))))))
def rd__law_far_right_s4 (K : PySem.W.Frag) (a : Ad) (W : DW) : DS :=
  dSeq (dSet 4 (dLst false (dCons (dProp a.c_Window (sp_Window_room K a) (dV 2)) (dCons (dProp a.c_Window (sp_Window_spare K a) (dV 2)) (dCons (dMeth a.c_Window "marks" (sp_Window_marks K a) [] W (dV 2) dNil) (dCons (dMeth a.c_Window "marks" (sp_Window_marks K a) [] W (dV 3) dNil) (dCons (dMeth a.c_Window "shares" (sp_Window_shares K a) [] W (dV 3) (dCons (dV 2) (dNil))) (dCons (dProp a.c_Window (sp_Window_room K a) (dMeth a.c_Window "copied" (sp_Window_copied K a) [] W (dV 2) dNil)) (dNil)))))))))
  (dRet (dOp dEqA (dV 4) (dLst false (dCons (dOp (dI CPow fun i j => .int (i ^ j.toNat)) (dC (.int 10)) (dC (.int 39))) (dCons (dOp (dI0 fun i j => .int (i - j)) (dOp (dI CPow fun i j => .int (i ^ j.toNat)) (dC (.int 10)) (dC (.int 39))) (dC (.int 3))) (dCons (dLst false (dCons (dC (.int 1)) (dCons (dC (.int 4)) (dCons (dC (.int 3)) (dNil))))) (dCons (dLst false (dCons (dC (.int 1)) (dCons (dC (.int 4)) (dNil)))) (dCons (dC (.bl true)) (dCons (dC (.int 3)) (dNil))))))))))
def rd__law_far_right_s5 (K : PySem.W.Frag) (a : Ad) (W : DW) : DS :=
  dRet (dOp dEqA (dV 4) (dLst false (dCons (dOp (dI CPow fun i j => .int (i ^ j.toNat)) (dC (.int 10)) (dC (.int 39))) (dCons (dOp (dI0 fun i j => .int (i - j)) (dOp (dI CPow fun i j => .int (i ^ j.toNat)) (dC (.int 10)) (dC (.int 39))) (dC (.int 3))) (dCons (dLst false (dCons (dC (.int 1)) (dCons (dC (.int 4)) (dCons (dC (.int 3)) (dNil))))) (dCons (dLst false (dCons (dC (.int 1)) (dCons (dC (.int 4)) (dNil)))) (dCons (dC (.bl true)) (dCons (dC (.int 3)) (dNil)))))))))
end Q
namespace Q
open PySem PySem.Spec PyProof.Rows L2 SD
theorem rep5 {k : Nat} : (List.replicate k [D.int 5]).flatten = il (List.replicate k 5) := by
  induction k with
  | zero => rfl
  | succ k ih =>
    rw [List.replicate_succ, List.flatten_cons, ih]
    rfl
theorem notes_seen {a : Ad} {M M' : Mp} {f : Addr} {B : Nat} {hs ws : List Addr} {ls : List Int} (w : Woks a M f B hs ws ls) : numD (.lst (ws.map (mkD M))) = true ∧ dep (.lst (ws.map (mkD M))) ≤ 64 := by
  have each : ∀ d ∈ ws.map (mkD M), numD d = true ∧ dep d ≤ 1 := fun d hd => by
    obtain ⟨x, hx, rfl⟩ := List.mem_map.mp hd
    obtain ⟨lim, A, h, n, xs, W, _⟩ := w.all hx
    rw [mkD_of W]
    exact ⟨num_il, Nat.succ_le_succ dep_il⟩
  refine ⟨numDs_of fun d hd => (each d hd).1, ?_⟩
  have : deps (ws.map (mkD M)) ≤ 1 := deps_le fun d hd => (each d hd).2
  show deps (ws.map (mkD M)) + 1 ≤ 64
  omega
theorem last_at {xs : List D} {y : D} (h : xs.length < 2 ^ 62) : L2.atI (xs ++ [y]) (-1) = some y := by
  unfold L2.atI L2.ixN
  rw [List.length_append, List.length_singleton, if_neg (by omega), if_pos (by omega)]
  show (xs ++ [y])[(-1 + ((xs.length + 1 : Nat) : Int)).toNat]? = some y
  have e : (-1 + ((xs.length + 1 : Nat) : Int)).toNat = xs.length := by omega
  rw [e, List.getElem?_append_right (Nat.le_refl _), Nat.sub_self]
  rfl
section
variable {K : PySem.W.Frag} {mg : Str → Option Value} {a : Ad} (Y : Tx K mg a) {M : Mp} {R : DK} {RX : DX} {S : Sd} {B : Nat} {calls extra notes nt : List D} {ws : List Addr} {ls : List Int} {nl : Int} {hs : List Addr} {x A h b : Addr} {n : Nat} {lim : Int} {xs ys : List Int} {mv : Bool} {bf at_ nd : D}
include Y
theorem g5 (m : Mid a M S B calls extra notes ws ls nl hs) (hb : BagOk M b) (nb1 : b ∉ S.own) (nb2 : b ∉ hs) (W : WinAt a M x A h n lim (.ref S.f) xs) (hh : h ∈ hs) (hB : B ≤ lim0) (b1 : (calls ++ extra).length ≤ B + 3) (b2 : nt.length ≤ B + 3)
    (hput : ∀ M1, Kp [b] M M1 → BagOk M1 b → ∀ (R' : DK) RX', (∀ hs' z M', Post a M1 M' S B (calls ++ extra) nt ws ls nl hs hs' z → R' (.ref z) M') → sp_Window_put K a [.ref x, .lst (il ys)] M1 R' RX')
    (hfin : ∀ M' z, M' S.note = some (.lst nt) → ∀ Q : DK, Q (.bl true) M' → dOrV (dNotV (dV 10)) (dOp dEqA (dOp dIx (dV 4) (dNeg (dC (.int 1)))) (dV 8)) [some (.ref b), some (.ref S.win), some (.ref S.room), some (.ref S.call), some (.ref S.note), some at_, some z, some (.lst (il ys)), some bf, some nd, some (.bl mv), none] M' Q)
    (k : ∀ M' calls' notes' ws' ls' hs', SideOk a M' S (B + 3) calls' notes' ws' ls' hs' → BagOk M' b → Kp (b :: (S.own ++ hs)) M M' → (∀ h ∈ hs', h ∈ hs ∨ M h = none) → R (.bl true) M') :
    rd__law_grown_s5 K a (DnX RX) (ends0 R) [some (.ref b), some (.ref S.win), some (.ref S.room), some (.ref S.call), some (.ref S.note), some at_, some (.ref x), some (.lst (il ys)), some bf, some nd, some (.bl mv), none] M := by
  obtain ⟨o1, o2, o3, o4, o5, o6, o7, o8, o9, o10⟩ := own_ne m.nd
  -- behind the put and the note of the window
  have fin : ∀ M1 hs' z M', Kp [b] M M1 → BagOk M1 b → Post a M1 M' S B (calls ++ extra) nt ws ls nl hs hs' z → ∀ z', rd__law_grown_s6 K a (DnX RX) (ends0 R) [some (.ref b), some (.ref S.win), some (.ref S.room), some (.ref S.call), some (.ref S.note), some at_, some z', some (.lst (il ys)), some bf, some nd, some (.bl mv), none] (updM M' S.win (.lst (ws.map D.ref ++ [.ref z]))) := by
    intro M1 hs' z M' k1 hb1 p z'
    refine dRet_i (hfin _ _ ((updM_ne o8).trans p.note) _ ?_)
    have so := post_side Y p m.nd m.ne m.cd b1 b2 m.b3
    have nb : b ∉ S.own ++ hs := fun z => (List.mem_append.mp z).elim nb1 nb2
    have kk : Kp (b :: (S.own ++ hs)) M (updM M' S.win (.lst (ws.map D.ref ++ [.ref z]))) := by
      refine Kp.weak (Kp.trans (Kp.trans k1 p.kp) Kp.put) fun s hs => ?_
      simp only [List.mem_append, List.mem_cons, List.not_mem_nil, or_false] at hs ⊢
      rcases hs with (rfl | q) | rfl
      · exact .inl rfl
      · exact .inr q
      · exact .inr (.inl (by simp [Sd.own]))
    refine dn (k _ _ _ _ _ _ so ?_ kk fun h hh => ?_)
    · refine BagOk.kp Y (BagOk.kp Y hb1 p.kp nb) Kp.put fun z => nb1 ?_
      rw [List.mem_singleton.mp z]; simp [Sd.own]
    · rcases p.fr h hh with q | q
      · exact .inl q
      · refine .inr (Kp.cells k1 q fun s hs => ?_)
        rw [List.mem_singleton.mp hs]
        obtain ⟨l, s, t, cs, e, _⟩ := hb1
        exact ⟨_, e⟩
  have go : ∀ M1, Kp [b] M M1 → M1 S.win = some (.lst (ws.map D.ref)) ∧ M1 x = some (.ins a.c_Window (winF A n (.ref S.f))) := fun M1 k1 =>
    ⟨k1 _ _ m.win (fun z => nb1 (by rw [← List.mem_singleton.mp z]; simp [Sd.own])), k1 _ _ W.win ((BagOk.lst Y hb).nin W.win fun _ z => by cases z)⟩
  have bw : ws.length < sizeLine := by
    have := m.b3
    have e : lim0 < sizeLine := by decide
    omega
  refine dSeq_i ?_
  refine ⟨_, rfl, b, 2, rfl, hb, by decide, by decide, fun i M1 i0 i1 k1 hb1 => ?_⟩
  obtain ⟨w1, x1⟩ := go M1 k1
  dsimp only [dC, dEqA]
  have app : ∀ M2 hs' z, Post a M1 M2 S B (calls ++ extra) nt ws ls nl hs hs' z → M2 S.win = some (.lst (ws.map D.ref)) ∧ (ws.map D.ref).length < sizeLine := fun M2 hs' z p => ⟨p.win, by rw [List.length_map]; exact bw⟩
  by_cases hi : i = 0
  · rw [decide_eq_true hi]
    dsimp only
    refine ⟨_, rfl, _, rfl, _, insOf_ref x1, hput M1 k1 hb1 _ _ fun hs' z M2 p => ?_⟩
    exact ⟨_, rfl, ⟨_, lstOf_ref p.win⟩, _, rfl, _, (app M2 hs' z p).1, (app M2 hs' z p).2, fin M1 hs' z M2 k1 hb1 p _⟩
  · rw [decide_eq_false hi]
    dsimp only
    refine ⟨_, rfl, ⟨_, lstOf_ref w1⟩, ?_⟩
    refine ⟨_, rfl, _, insOf_ref x1, rfl, _, rfl, ?_⟩
    dsimp only [dNil]
    refine hput M1 k1 hb1 _ _ fun hs' z M2 p => ?_
    exact ⟨_, (app M2 hs' z p).1, (app M2 hs' z p).2, fin M1 hs' z M2 k1 hb1 p _⟩
end
end Q
namespace Q
open PySem PySem.Spec PyProof.Rows L2 SD
theorem atI_nat {α : Type} {xs : List α} {i : Int} {x : α} (h0 : 0 ≤ i) (h : xs[i.toNat]? = some x) : L2.atI xs i = some x := by
  have hl := (List.getElem?_eq_some_iff.mp h).1
  unfold L2.atI L2.ixN
  rw [if_pos h0, if_pos (by omega)]
  exact h
section
variable {K : PySem.W.Frag} {mg : Str → Option Value} {a : Ad} (Y : Tx K mg a) {M : Mp} {R : DK} {RX : DX} {S : Sd} {B : Nat} {calls extra notes nt : List D} {ws : List Addr} {ls : List Int} {nl : Int} {hs : List Addr} {x A h b : Addr} {n : Nat} {lim : Int} {xs ys : List Int} {mv : Bool} {bf at_ nd : D}
include Y
/-- from the marks on -/
theorem g2 (m : SideOk a M S B calls notes ws ls hs) (hb : BagOk M b) (nb1 : b ∉ S.own) (nb2 : b ∉ hs) (W : WinAt a M x A h n lim (.ref S.f) xs) (h1 : 1 ≤ n) (h2 : n ≤ xs.length) (h3 : xs.length ≤ B) (hh : h ∈ hs) (hy : ys.length ≤ 3) (hB : B ≤ lim0)
    (k : ∀ M' calls' notes' ws' ls' hs', SideOk a M' S (B + 3) calls' notes' ws' ls' hs' → BagOk M' b → Kp (b :: (S.own ++ hs)) M M' → (∀ h ∈ hs', h ∈ hs ∨ M h = none) → R (.bl true) M') :
    rd__law_grown_s2 K a (DnX RX) (ends0 R) [some (.ref b), some (.ref S.win), some (.ref S.room), some (.ref S.call), some (.ref S.note), some at_, some (.ref x), some (.lst (il ys)), some (.lst (ws.map (mkD M))), none, none, none] M := by
  have big : lim0 + 10 < sizeLine := by decide
  obtain ⟨o1, o2, o3, o4, o5, o6, o7, o8, o9, o10⟩ := own_ne m.nd
  have big3 : lim0 < 2 ^ 62 := by decide
  -- needed, moves
  refine ⟨_, rfl, .inr ⟨_, insOf_ref W.win, x, A, h, n, lim, _, xs, rfl, W, h2, (n : Int), rfl, by omega, by omega, _, rfl, .inl ⟨_, rfl, ?_⟩⟩⟩
  rw [List.length_map]
  have en : ((n : Int) + ((ys.length : Nat) : Int)) = ((n + ys.length : Nat) : Int) := by omega
  dsimp only [dAdd]
  rw [en]
  refine ⟨_, rfl, _, rfl, _, insOf_ref W.win, x, A, h, n, lim, _, xs, rfl, W, ?_⟩
  dsimp only [dI0]
  have nn := notes_seen (M := M) (M' := M) m.woks
  have kA : ∀ o, Kp [S.room] M (updM M S.room o) := fun o => Kp.put
  by_cases hlt : lim < ((n + ys.length : Nat) : Int)
  · rw [decide_eq_true hlt]
    refine dSeq_i ⟨_, rfl, true, rfl, ?_⟩
    dsimp only
    -- calls.append((room, needed))
    refine ⟨_, rfl, ⟨_, lstOf_ref m.call⟩, _, rfl, _, insOf_ref W.win, x, A, h, n, lim, _, xs, rfl, W, _, rfl, (by show 2 ≤ sizeLine; decide), calls, m.call, by have := m.b1; omega, ?_⟩
    have e1 : ∀ o, updM M S.call o S.room = some (.lst (il ls)) := fun o => (updM_ne o7.symm).trans m.room
    refine ⟨_, rfl, ⟨_, lstOf_ref (e1 _)⟩, _, rfl, _, rfl, .inl ⟨_, lenD_lst (lstOf_ref updM_same), (by decide : (0 : Int) < 3), il ls, e1 _, ?_, ?_⟩⟩
    · rw [List.length_map, m.woks.len]; have := m.b3; omega
    rw [List.length_append, List.length_singleton]
    generalize hnl : ((n + ys.length : Nat) : Int) + ((calls.length + 1 : Nat) : Int) % 3 = nl
    have el : il ls ++ [D.int nl] = il (ls ++ [nl]) := by
      show ls.map D.int ++ [D.int nl] = (ls ++ [nl]).map D.int
      rw [List.map_append]; rfl
    rw [el]
    generalize hM2 : updM (updM M S.call (.lst (calls ++ [.tup [.int lim, .int ((n + ys.length : Nat) : Int)]]))) S.room (.lst (il (ls ++ [nl]))) = M2
    have k2 : Kp [S.call, S.room] M M2 := by
      rw [← hM2]
      exact Kp.trans Kp.put Kp.put
    have L2 : Lsts [S.call, S.room] M := fun s hs => m.lsts Y s (by
      simp only [List.mem_cons, List.not_mem_nil, or_false] at hs
      rcases hs with rfl | rfl <;> simp [Sd.own])
    have nT : ∀ s ∈ [S.call, S.room], s ∉ hs := fun s hs z => (m.hsL s z).1 (by
      simp only [List.mem_cons, List.not_mem_nil, or_false] at hs
      rcases hs with rfl | rfl <;> simp [Sd.own])
    have mid : Mid a M2 S B calls [.tup [.int lim, .int ((n + ys.length : Nat) : Int)]] notes ws ls nl hs := by
      refine ⟨k2 _ _ m.ask (by simp [o1, o4]), ?_, k2 _ _ m.note (by simp [o5.symm, o9]), k2 _ _ m.win (by simp [o6.symm, o10]), ?_, CloAt.kp m.clo k2 L2, m.woks.kp k2 L2 nT (Nat.le_refl _) fun _ q => q, m.ne, m.nd, fun h hh => ?_, fun d hd => ?_, m.b1, m.b2, m.b3⟩
      · rw [← hM2, updM_ne o7]; exact updM_same
      · rw [← hM2]; exact updM_same
      · obtain ⟨q1, vs, q2⟩ := m.hsL h hh
        exact ⟨q1, vs, k2 _ _ q2 fun w => nT _ w hh⟩
      · rcases List.mem_append.mp hd with hd | hd
        · exact m.cd d hd
        · exact ⟨lim, _, List.mem_singleton.mp hd⟩
    have W2 := W.kp k2 (L2.nin W.win fun _ z => by cases z) (L2.nin W.arr fun _ z => by cases z) fun w => nT _ w hh
    have hb2 : BagOk M2 b := BagOk.kp Y hb k2 fun z => nb1 (by
      simp only [List.mem_cons, List.not_mem_nil, or_false] at z
      rcases z with rfl | rfl <;> simp [Sd.own])
    have emk : ∀ y ∈ ws, mkD M2 y = mkD M y := fun y hy => let ⟨_, w⟩ := m.woks.all hy; mkD_kp w k2 L2 nT
    have ebf : ws.map (mkD M2) = ws.map (mkD M) := List.map_congr_left emk
    refine g5 (nt := notes ++ [.lst (ws.map (mkD M))]) Y mid hb2 nb1 nb2 W2 hh hB (by rw [List.length_append, List.length_singleton]; have := m.b1; omega) (by rw [List.length_append, List.length_singleton]; have := m.b2; omega) (fun M3 k3 hb3 R' RX' kk => ?_) (fun M' z e Q q => ?_) (fun M' calls' notes' ws' ls' hs' s1 s2 s3 s4 => k M' calls' notes' ws' ls' hs' s1 s2 ?_ fun h hh => ?_)
    · have L3 := BagOk.lst Y hb2
      have n3 : ∀ s ∈ [b], s ∉ S.own := fun s hs => by rw [List.mem_singleton.mp hs]; exact nb1
      have n4 : ∀ s ∈ [b], s ∉ hs := fun s hs => by rw [List.mem_singleton.mp hs]; exact nb2
      have W3 := W2.kp k3 (L3.nin W2.win fun _ z => by cases z) (L3.nin W2.arr fun _ z => by cases z) fun w => n4 _ w hh
      have ebf3 : ws.map (mkD M3) = ws.map (mkD M) := by
        rw [← ebf]
        exact List.map_congr_left fun y hy => let ⟨_, w⟩ := mid.woks.all hy; mkD_kp w k3 L3 n4
      have := put_move (R := R') (RX := RX') Y hnl.symm (mid.kp Y k3 L3 n3 n4) W3 h1 h2 h3 hh hy hB hlt
      rw [ebf3] at this
      exact this kk
    · refine ⟨_, rfl, _, rfl, _, _, sq e, last_at (by have := m.b2; omega), _, rfl, dEq_same (see_num nn.1) (see_num nn.1) (shaped_num nn.1 nn.2) q⟩
    · refine Kp.weak (Kp.trans k2 s3) fun s hs => ?_
      simp only [List.mem_append, List.mem_cons, List.not_mem_nil, or_false] at hs ⊢
      rcases hs with (rfl | rfl) | q
      · exact .inr (.inl (by simp [Sd.own]))
      · exact .inr (.inl (by simp [Sd.own]))
      · exact q
    · rcases s4 h hh with q | q
      · exact .inl q
      · refine .inr (Kp.cells k2 q fun s hs => ?_)
        simp only [List.mem_cons, List.not_mem_nil, or_false] at hs
        rcases hs with rfl | rfl
        · exact ⟨_, mid.call⟩
        · exact ⟨_, mid.room⟩
  · rw [decide_eq_false hlt]
    refine dSeq_i ⟨_, rfl, false, rfl, ?_⟩
    dsimp only
    refine ⟨_, rfl, ⟨_, lstOf_ref m.room⟩, _, rfl, _, insOf_ref W.win, x, A, h, n, lim, _, xs, rfl, W, il ls, m.room, ?_, ?_⟩
    · rw [List.length_map, m.woks.len]; have := m.b3; omega
    have el : il ls ++ [D.int lim] = il (ls ++ [lim]) := by
      show ls.map D.int ++ [D.int lim] = (ls ++ [lim]).map D.int
      rw [List.map_append]; rfl
    rw [el]
    generalize hM2 : updM M S.room (.lst (il (ls ++ [lim]))) = M2
    have k2 : Kp [S.room] M M2 := by
      rw [← hM2]
      exact Kp.put
    have L2 : Lsts [S.room] M := fun s hs => by rw [List.mem_singleton.mp hs]; exact ⟨_, m.room⟩
    have nT : ∀ s ∈ [S.room], s ∉ hs := fun s hs z => (m.hsL s z).1 (by rw [List.mem_singleton.mp hs]; simp [Sd.own])
    have mid : Mid a M2 S B calls [] notes ws ls lim hs := by
      refine ⟨k2 _ _ m.ask (by simp [o4]), ?_, k2 _ _ m.note (by simp [o9]), k2 _ _ m.win (by simp [o10]), ?_, CloAt.kp m.clo k2 L2, m.woks.kp k2 L2 nT (Nat.le_refl _) fun _ q => q, m.ne, m.nd, fun h hh => ?_, fun d hd => ?_, m.b1, m.b2, m.b3⟩
      · rw [List.append_nil]; exact k2 _ _ m.call (by simp [o7])
      · rw [← hM2]; exact updM_same
      · obtain ⟨q1, vs, q2⟩ := m.hsL h hh
        exact ⟨q1, vs, k2 _ _ q2 fun w => nT _ w hh⟩
      · rw [List.append_nil] at hd; exact m.cd d hd
    have W2 := W.kp k2 (L2.nin W.win fun _ z => by cases z) (L2.nin W.arr fun _ z => by cases z) fun w => nT _ w hh
    have hb2 : BagOk M2 b := BagOk.kp Y hb k2 fun z => nb1 (by rw [List.mem_singleton.mp z]; simp [Sd.own])
    refine g5 (nt := notes) Y mid hb2 nb1 nb2 W2 hh hB (by rw [List.append_nil]; have := m.b1; omega) (by have := m.b2; omega) (fun M3 k3 hb3 R' RX' kk => ?_) (fun M' z e Q q => ?_) (fun M' calls' notes' ws' ls' hs' s1 s2 s3 s4 => k M' calls' notes' ws' ls' hs' s1 s2 ?_ fun h hh => ?_)
    · have L3 := BagOk.lst Y hb2
      have n3 : ∀ s ∈ [b], s ∉ S.own := fun s hs => by rw [List.mem_singleton.mp hs]; exact nb1
      have n4 : ∀ s ∈ [b], s ∉ hs := fun s hs => by rw [List.mem_singleton.mp hs]; exact nb2
      have W3 := W2.kp k3 (L3.nin W2.win fun _ z => by cases z) (L3.nin W2.arr fun _ z => by cases z) fun w => n4 _ w hh
      refine put_stay Y (mid.kp Y k3 L3 n3 n4) W3 h1 h2 h3 hh hy hB (by omega) fun z M4 p => kk hs z M4 ?_
      rw [List.append_nil]
      exact p
    · exact ⟨_, rfl, q⟩
    · refine Kp.weak (Kp.trans k2 s3) fun s hs => ?_
      simp only [List.mem_append, List.mem_cons, List.not_mem_nil, or_false] at hs ⊢
      rcases hs with rfl | q
      · exact .inr (.inl (by simp [Sd.own]))
      · exact q
    · rcases s4 h hh with q | q
      · exact .inl q
      · refine .inr (Kp.cells k2 q fun s hs => ?_)
        rw [List.mem_singleton.mp hs]
        exact ⟨_, mid.room⟩
theorem r__law_grown {ds : List D} (h : sp__law_grown K a ds M R RX) : rd__law_grown K a (DnX RX) (ends0 R) (rho0 N__law_grown ds) M := by
  obtain ⟨b, S, B, calls, notes, ws, ls, hs, rfl, m, hb, nb1, nb2, hB, k⟩ := h
  have big3 : lim0 < 1073741824 := by decide
  have ln : 0 < ws.length := List.length_pos_iff.mpr m.ne
  refine ⟨_, rfl, _, rfl, .inl ⟨_, lenD_lst (lstOf_ref m.win), ?_⟩⟩
  rw [List.length_map]
  refine ⟨b, _, rfl, hb, by omega, by have := m.b3; omega, fun i M1 i0 i1 k1 hb1 => ?_⟩
  have L := BagOk.lst Y hb
  have n3 : ∀ s ∈ [b], s ∉ S.own := fun s hs => by rw [List.mem_singleton.mp hs]; exact nb1
  have n4 : ∀ s ∈ [b], s ∉ hs := fun s hs => by rw [List.mem_singleton.mp hs]; exact nb2
  have m1 := m.kp Y k1 L n3 n4 (Nat.le_refl _)
  obtain ⟨x, lim, ex, el, A, h, n, xs, W, w1, w2, w3, w4⟩ := m1.woks.get (i := i.toNat) (by omega)
  have ex' : L2.atI (ws.map D.ref) i = some (.ref x) := atI_nat i0 (by rw [List.getElem?_map, ex]; rfl)
  dsimp only
  refine dSeq_i ⟨_, rfl, _, rfl, _, _, sq m1.win, ex', (by show 1 ≤ sizeLine; decide), ?_⟩
  refine ⟨_, rfl, b, 3, rfl, hb1, by decide, by decide, fun j M2 j0 j1 k2 hb2 => ?_⟩
  have L1 := BagOk.lst Y hb1
  have m2 := m1.kp Y k2 L1 n3 n4 (Nat.le_refl _)
  have W2 := W.kp k2 (L1.nin W.win fun _ z => by cases z) (L1.nin W.arr fun _ z => by cases z) fun w => n4 _ w w4
  refine ⟨_, rfl, by omega, by omega, ?_, ?_⟩
  · show 1 * (1 + j).toNat ≤ sizeLine
    have e : 3 < sizeLine := by decide
    omega
  rw [newL_f, rep5]
  refine dCons_i (dComp_i (iseq_go (fun Q q => ⟨_, rfl, q⟩) (lstOf_ref m2.win) fun chk hc p hp => ?_))
  refine lc_map (fun d => match d with
    | .ref x => mkD M2 x
    | d => d) hp (by rw [List.length_map]; have := m.b3; have e : lim0 < sizeLine := by decide
                     omega) (fun acc => hc _ (lstOf_kp (S := []) (lstOf_ref m2.win) (Kp.new hp) fun p hp => by simp at hp)) (fun d hd acc Q q => ?_) ?_
  · obtain ⟨y, hy, rfl⟩ := List.mem_map.mp hd
    obtain ⟨lim', A', h', n', xs', W', v1, v2, v3, v4⟩ := m2.woks.all hy
    have W'' := W'.kp0 (Kp.new (o := .lst acc) hp)
    refine ⟨_, rfl, _, insOf_ref W''.win, rfl, y, A', h', n', lim', _, xs', rfl, W'', v2, ?_⟩
    rw [← mkD_of W']
    exact q
  · rw [List.map_map]
    refine ⟨rfl, ?_⟩
    refine g2 (ys := List.replicate (1 + j).toNat 5) Y m2 hb2 nb1 nb2 W2 w1 w2 w3 w4 (by rw [List.length_replicate]; omega) hB fun M' calls' notes' ws' ls' hs' s1 s2 s3 s4 => k M' calls' notes' ws' ls' hs' s1 s2 ?_ fun h hh => ?_
    · refine Kp.weak (Kp.trans (Kp.trans k1 k2) s3) fun s hs => ?_
      simp only [List.mem_append, List.mem_cons, List.not_mem_nil, or_false] at hs ⊢
      rcases hs with (rfl | rfl) | q
      · exact .inl rfl
      · exact .inl rfl
      · exact q
    · rcases s4 h hh with q | q
      · exact .inl q
      · refine .inr (Kp.cells (Kp.trans k1 k2) q fun s hs => ?_)
        have e : s = b := by
          simp only [List.mem_append, List.mem_cons, List.not_mem_nil, or_false] at hs
          exact hs.elim id id
        rw [e]
        obtain ⟨l, s, t, cs, e, _⟩ := hb2
        exact ⟨_, e⟩
end
end Q
namespace Q
open PySem PySem.Spec PyProof.Rows L2 SD
section
variable {K : PySem.W.Frag} {mg : Str → Option Value} {a : Ad} (Y : Tx K mg a) {M : Mp} {R : DK} {RX : DX} {S : Sd} {B : Nat} {calls extra notes nt : List D} {ws : List Addr} {ls : List Int} {nl : Int} {hs : List Addr} {x A h b : Addr} {n : Nat} {lim : Int} {xs ys : List Int} {mv : Bool} {bf at_ nd : D}
include Y
/-- a new window written down with its room -/
theorem side_add {M1 : Mp} {hs' : List Addr} {z : Addr} (m : SideOk a M S B calls notes ws ls hs) (k0 : Kp [] M M1) (w : Wok a M1 S.f (B + 3) hs' z nl) (hsub : ∀ h ∈ hs, h ∈ hs') (hL : ∀ h ∈ hs', h ∈ hs ∨ (M h = none ∧ ∃ xs : List Int, M1 h = some (.lst (il xs)))) :
    SideOk a (updM (updM M1 S.win (.lst (ws.map D.ref ++ [.ref z]))) S.room (.lst (il ls ++ [.int nl]))) S (B + 3) calls notes (ws ++ [z]) (ls ++ [nl]) hs' := by
  obtain ⟨o1, o2, o3, o4, o5, o6, o7, o8, o9, o10⟩ := own_ne m.nd
  have k : Kp [S.win, S.room] M1 (updM (updM M1 S.win (.lst (ws.map D.ref ++ [.ref z]))) S.room (.lst (il ls ++ [.int nl]))) := Kp.trans Kp.put Kp.put
  have ow : ∀ s ∈ S.own, M s ≠ none := fun s hs e => by
    obtain ⟨o, q⟩ := m.lsts Y s hs
    rw [e] at q; cases q
  have hs2 : ∀ h ∈ hs', h ∉ S.own ∧ ∃ xs : List Int, M1 h = some (.lst (il xs)) := fun h hh => by
    rcases hL h hh with q | ⟨q, vs, e⟩
    · obtain ⟨q1, vs, q2⟩ := m.hsL h q
      exact ⟨q1, vs, k0 _ _ q2 (by simp)⟩
    · exact ⟨fun w => ow _ w q, vs, e⟩
  have own2 : ∀ s ∈ [S.win, S.room], s ∈ S.own := fun s hs => by
    simp only [List.mem_cons, List.not_mem_nil, or_false] at hs
    rcases hs with rfl | rfl <;> simp [Sd.own]
  have L : Lsts [S.win, S.room] M1 := fun s hs => by
    obtain ⟨ds, e⟩ := m.lsts Y s (own2 s hs)
    exact ⟨ds, k0 _ _ e (by simp)⟩
  have nh : ∀ s ∈ [S.win, S.room], s ∉ hs' := fun s hs q => (hs2 s q).1 (own2 s hs)
  have L0 : Lsts [] M := fun s hs => by simp at hs
  refine ⟨k _ _ (k0 _ _ m.ask (by simp)) (by simp [o3, o4]), k _ _ (k0 _ _ m.call (by simp)) (by simp [o6, o7]), k _ _ (k0 _ _ m.note (by simp)) (by simp [o8, o9]), ?_, ?_, CloAt.kp (CloAt.kp m.clo k0 L0) k L, ?_, by simp, m.nd, fun h hh => ?_, m.cd, by have := m.b1; omega, by have := m.b2; omega, by rw [List.length_append, List.length_singleton]; have := m.b3; omega⟩
  · rw [List.map_append, updM_ne o10]; exact updM_same
  · have e : il ls ++ [D.int nl] = il (ls ++ [nl]) := by
      show ls.map D.int ++ [D.int nl] = (ls ++ [nl]).map D.int
      rw [List.map_append]; rfl
    rw [← e]; exact updM_same
  · exact Woks.snoc (w.kp k L nh (Nat.le_refl _) fun _ q => q) (m.woks.imp fun x lim q => (q.kp k0 L0 (fun s hs => by simp at hs) (by omega) hsub).kp k L nh (Nat.le_refl _) fun _ q => q)
  · obtain ⟨q1, vs, q2⟩ := hs2 h hh
    exact ⟨q1, vs, k _ _ q2 fun w => nh _ w hh⟩
theorem r__law_other {ds : List D} (h : sp__law_other K a ds M R RX) : rd__law_other K a (DnX RX) (ends0 R) (rho0 N__law_other ds) M := by
  obtain ⟨b, S, B, calls, notes, ws, ls, hs, rfl, m, hb, nb1, nb2, hB, k⟩ := h
  have big3 : lim0 < 1073741824 := by decide
  have big4 : lim0 + 10 < sizeLine := by decide
  have ln : 0 < ws.length := List.length_pos_iff.mpr m.ne
  obtain ⟨o1, o2, o3, o4, o5, o6, o7, o8, o9, o10⟩ := own_ne m.nd
  have n3 : ∀ s ∈ [b], s ∉ S.own := fun s hs => by rw [List.mem_singleton.mp hs]; exact nb1
  have n4 : ∀ s ∈ [b], s ∉ hs := fun s hs => by rw [List.mem_singleton.mp hs]; exact nb2
  refine ⟨_, rfl, _, rfl, .inl ⟨_, lenD_lst (lstOf_ref m.win), ?_⟩⟩
  rw [List.length_map]
  refine ⟨b, _, rfl, hb, by omega, by have := m.b3; omega, fun i M1 i0 i1 k1 hb1 => ?_⟩
  have LB := BagOk.lst Y hb
  have m1 := m.kp Y k1 LB n3 n4 (Nat.le_refl _)
  refine ⟨_, rfl, b, 3, rfl, hb1, by decide, by decide, fun j M2 j0 j1 k2 hb2 => ?_⟩
  have LB1 := BagOk.lst Y hb1
  have m2 := m1.kp Y k2 LB1 n3 n4 (Nat.le_refl _)
  have LB2 := BagOk.lst Y hb2
  have k12 : Kp [b] M M2 := k1.trans0 k2
  obtain ⟨x, lim, ex, el, A, h, n, xs, W, w1, w2, w3, w4⟩ := m2.woks.get (i := i.toNat) (by omega)
  have ex' : L2.atI (ws.map D.ref) i = some (.ref x) := atI_nat i0 (by rw [List.getElem?_map, ex]; rfl)
  refine ⟨rfl, ?_⟩
  dsimp only
  refine dSeq_i ⟨_, rfl, _, rfl, _, _, sq m2.win, ex', ?_⟩
  -- the end of each way
  have fin : ∀ M' ws' ls' hs', SideOk a M' S (B + 3) calls notes ws' ls' hs' → BagOk M' b → Kp (b :: (S.own ++ hs)) M2 M' → (∀ h ∈ hs', h ∈ hs ∨ M2 h = none) → Dn R .non M' := fun M' ws' ls' hs' s1 s2 s3 s4 => dn (k M' ws' ls' hs' s1 s2 (Kp.weak (Kp.trans k12 s3) fun s hs => by
      simp only [List.mem_append, List.mem_cons, List.not_mem_nil, or_false] at hs ⊢
      rcases hs with rfl | q
      · exact .inl rfl
      · exact q) fun h hh => (s4 h hh).imp id fun q => Kp.cells k12 q fun s hs => by
        rw [List.mem_singleton.mp hs]
        obtain ⟨l, s, t, cs, e, _⟩ := hb2
        exact ⟨_, e⟩)
  have nbo : ∀ s ∈ [S.win, S.room], b ≠ s := fun s hs z => nb1 (by
    simp only [List.mem_cons, List.not_mem_nil, or_false] at hs
    rcases hs with rfl | rfl <;> simp [Sd.own, z])
  have lw : (ws.map D.ref).length < sizeLine := by rw [List.length_map]; have := m.b3; omega
  have ll : (il ls).length < sizeLine := by rw [List.length_map, m.woks.len]; have := m.b3; omega
  -- the end of the first two ways
  have fin2 : ∀ M3 M4 z nl hs', Kp [b] M2 M3 → BagOk M3 b → Kp [] M3 M4 → Wok a M4 S.f (B + 3) hs' z nl → (∀ h ∈ hs, h ∈ hs') → (∀ h ∈ hs', h ∈ hs ∨ (M3 h = none ∧ ∃ xs : List Int, M4 h = some (.lst (il xs)))) → Dn R .non (updM (updM M4 S.win (.lst (ws.map D.ref ++ [.ref z]))) S.room (.lst (il ls ++ [.int nl]))) := fun M3 M4 z nl hs' k3 hb3 k4 w hsub hL => by
    have m3 := m2.kp Y k3 LB2 n3 n4 (Nat.le_refl _)
    have kk : Kp [S.win, S.room] M4 (updM (updM M4 S.win (.lst (ws.map D.ref ++ [.ref z]))) S.room (.lst (il ls ++ [.int nl]))) := Kp.trans Kp.put Kp.put
    refine fin _ _ _ hs' (side_add Y m3 k4 w hsub hL) (BagOk.kp Y (BagOk.kp Y hb3 k4 (by simp)) kk fun z => nbo _ z rfl) (Kp.weak (Kp.trans (Kp.trans k3 k4) kk) fun s hs => ?_) fun h hh => ?_
    · simp only [List.mem_append, List.mem_cons, List.not_mem_nil, or_false] at hs ⊢
      rcases hs with rfl | rfl | rfl
      · exact .inl rfl
      · exact .inr (.inl (by simp [Sd.own]))
      · exact .inr (.inl (by simp [Sd.own]))
    · refine (hL h hh).imp id fun q => Kp.cells k3 q.1 fun s hs => ?_
      rw [List.mem_singleton.mp hs]
      obtain ⟨l, s, t, cs, e, _⟩ := hb3
      exact ⟨_, e⟩
  dsimp only
  by_cases hj0 : j = 0
  · refine ifs_of true ?_ fun Q q => ⟨_, rfl, subB (decide_eq_true hj0) q⟩
    refine dSeq_i ?_
    refine ⟨_, rfl, ⟨_, lstOf_ref m2.win⟩, ?_⟩
    refine ⟨_, rfl, _, insOf_ref W.win, rfl, ?_⟩
    refine ⟨_, rfl, _, rfl, .inr ⟨_, insOf_ref W.win, x, A, h, n, lim, _, xs, rfl, W, w2, (n : Int), rfl, by omega, by omega, ?_⟩⟩
    refine ⟨b, _, rfl, hb2, by omega, by omega, fun i2 M3 e0 e1 k3 hb3 => ?_⟩
    have W3 := W.kp k3 (LB2.nin W.win fun _ z => by cases z) (LB2.nin W.arr fun _ z => by cases z) fun w => n4 _ w w4
    have m3 := m2.kp Y k3 LB2 n3 n4 (Nat.le_refl _)
    have ei : (1 : Int) + i2 = ((i2.toNat + 1 : Nat) : Int) := by omega
    dsimp only [dAdd]
    refine ⟨x, A, h, n, lim, _, xs, i2.toNat + 1, ?_, W3, by omega, by omega, fun z M4 hz k4 e4 => ?_⟩
    · rw [ei]; rfl
    refine ⟨_, k4 _ _ m3.win (by simp), lw, ?_⟩
    have W4 : WinAt a M4 x A h n lim (.ref S.f) xs := W3.kp0 k4
    have nx : x ≠ S.win := fun z => by have := W4.win; rw [z, k4 _ _ m3.win (by simp)] at this; cases this
    have nA : A ≠ S.win := fun z => by have := W4.arr; rw [z, k4 _ _ m3.win (by simp)] at this; cases this
    have nh : h ≠ S.win := fun z => (m.hsL h w4).1 (by simp [Sd.own, z])
    have W5 : ∀ o, WinAt a (updM M4 S.win o) x A h n lim (.ref S.f) xs := fun o => W4.kp Kp.put (by simpa using nx) (by simpa using nA) (by simpa using nh)
    have rm : ∀ o, updM M4 S.win o S.room = some (.lst (il ls)) := fun o => (updM_ne o10.symm).trans (k4 _ _ m3.room (by simp))
    refine ⟨_, rfl, ⟨_, lstOf_ref (rm _)⟩, ?_⟩
    refine ⟨_, rfl, _, insOf_ref (W5 _).win, x, A, h, n, lim, _, xs, rfl, W5 _, ?_⟩
    refine ⟨_, rm _, ll, ?_⟩
    exact fin2 M3 M4 z lim hs k3 hb3 k4 ⟨A, h, i2.toNat + 1, xs, ⟨e4, W4.arr, W4.lst⟩, by omega, by omega, by omega, w4⟩ (fun _ q => q) fun _ q => .inl q
  · refine ifs_of false ?_ fun Q q => ⟨_, rfl, subB (decide_eq_false hj0) q⟩
    by_cases hj1 : j = 1
    · refine ifs_of true ?_ fun Q q => ⟨_, rfl, subB (decide_eq_true hj1) q⟩
      refine dSeq_i ?_
      refine ⟨_, rfl, ⟨_, lstOf_ref m2.win⟩, ?_⟩
      refine ⟨_, rfl, _, insOf_ref W.win, rfl, ?_⟩
      refine ⟨x, A, h, n, lim, _, xs, rfl, W, w1, w2, by omega, fun z A' h' M4 hz hA hh hne k4 W' => ?_⟩
      refine ⟨_, k4 _ _ m2.win (by simp), lw, ?_⟩
      have W4 : WinAt a M4 x A h n lim (.ref S.f) xs := W.kp0 k4
      have nx : x ≠ S.win := fun z => by have := W4.win; rw [z, k4 _ _ m2.win (by simp)] at this; cases this
      have nA : A ≠ S.win := fun z => by have := W4.arr; rw [z, k4 _ _ m2.win (by simp)] at this; cases this
      have nh : h ≠ S.win := fun z => (m.hsL h w4).1 (by simp [Sd.own, z])
      have W5 : ∀ o, WinAt a (updM M4 S.win o) x A h n lim (.ref S.f) xs := fun o => W4.kp Kp.put (by simpa using nx) (by simpa using nA) (by simpa using nh)
      have rm : ∀ o, updM M4 S.win o S.room = some (.lst (il ls)) := fun o => (updM_ne o10.symm).trans (k4 _ _ m2.room (by simp))
      refine ⟨_, rfl, ⟨_, lstOf_ref (rm _)⟩, ?_⟩
      refine ⟨_, rfl, .inr ⟨_, insOf_ref (W5 _).win, x, A, h, n, lim, _, xs, rfl, W5 _, w2, (n : Int), rfl, by omega, by omega, ?_⟩⟩
      refine ⟨_, rm _, ll, ?_⟩
      have lt : (xs.take n).length = n := by rw [List.length_take]; omega
      refine fin2 M2 M4 z (n : Int) (h' :: hs) (Kp.weak (S := []) Kp.refl (by simp)) hb2 k4 ⟨A', h', n, xs.take n, W', by omega, by omega, by omega, List.mem_cons_self⟩ (fun _ q => List.mem_cons_of_mem _ q) fun q hq => ?_
      rcases List.mem_cons.mp hq with rfl | hq
      · exact .inr ⟨hh, _, W'.lst⟩
      · exact .inl hq
    · refine ifs_of false ?_ fun Q q => ⟨_, rfl, subB (decide_eq_false hj1) q⟩
      refine ⟨_, rfl, ?_⟩
      refine ⟨_, rfl, _, rfl, .inr ⟨_, insOf_ref W.win, x, A, h, n, lim, _, xs, rfl, W, w2, (n : Int), rfl, by omega, by omega, ?_⟩⟩
      refine ⟨b, _, rfl, hb2, by omega, by omega, fun i2 M3 e0 e1 k3 hb3 => ?_⟩
      have W3 := W.kp k3 (LB2.nin W.win fun _ z => by cases z) (LB2.nin W.arr fun _ z => by cases z) fun w => n4 _ w w4
      have m3 := m2.kp Y k3 LB2 n3 n4 (Nat.le_refl _)
      refine ⟨_, insOf_ref W3.win, x, A, h, n, lim, _, xs, i2, 3, rfl, W3, w2, e0, e1, ?_⟩
      have kh : Kp [h] M3 (updM M3 h (.lst (il (xs.set i2.toNat 3)))) := Kp.put
      have no : ∀ s ∈ S.own, s ∉ [h] := fun s hs z => (m.hsL h w4).1 (by rw [← List.mem_singleton.mp z]; exact hs)
      have Lh : Lsts [h] M3 := fun s hs => by rw [List.mem_singleton.mp hs]; exact ⟨_, W3.lst⟩
      have W6 : ∀ x lim, Wok a M3 S.f B hs x lim → Wok a (updM M3 h (.lst (il (xs.set i2.toNat 3)))) S.f (B + 3) hs x lim := fun x' lim' ⟨A', h', n', xs', W'', v1, v2, v3, v4⟩ => by
        have nx := Lh.nin W''.win fun _ z => by cases z
        have nA := Lh.nin W''.arr fun _ z => by cases z
        by_cases e : h' = h
        · subst e
          have exx : xs' = xs := by
            have e1 := W''.lst.symm.trans W3.lst
            have e2 : il xs' = il xs := by injection (Option.some.inj e1)
            exact (List.map_inj_right (fun _ _ z => by injection z)).mp e2
          subst exx
          exact ⟨A', h', n', _, ⟨kh _ _ W''.win nx, kh _ _ W''.arr nA, updM_same⟩, v1, by rw [List.length_set]; exact v2, by rw [List.length_set]; omega, w4⟩
        · exact ⟨A', h', n', xs', W''.kp kh nx nA (by simpa using e), v1, v2, by omega, v4⟩
      refine fin _ ws ls hs ⟨kh _ _ m3.ask (no _ (by simp [Sd.own])), kh _ _ m3.call (no _ (by simp [Sd.own])), kh _ _ m3.note (no _ (by simp [Sd.own])), kh _ _ m3.win (no _ (by simp [Sd.own])), kh _ _ m3.room (no _ (by simp [Sd.own])), CloAt.kp m3.clo kh Lh, m3.woks.imp W6, m.ne, m.nd, fun q hq => ?_, m.cd, by have := m.b1; omega, by have := m.b2; omega, by have := m.b3; omega⟩ (BagOk.kp Y hb3 kh fun z => nb2 (by rw [List.mem_singleton.mp z]; exact w4)) (Kp.weak (Kp.trans k3 kh) fun s hs => ?_) fun _ q => .inl q
      · obtain ⟨q1, vs, q2⟩ := m3.hsL q hq
        refine ⟨q1, ?_⟩
        by_cases e : q = h
        · subst e; exact ⟨_, updM_same⟩
        · exact ⟨vs, kh _ _ q2 (by simpa using e)⟩
      · simp only [List.mem_append, List.mem_cons, List.not_mem_nil, or_false] at hs ⊢
        rcases hs with rfl | rfl
        · exact .inl rfl
        · exact .inr (.inr w4)
end
end Q
namespace Q
open PySem PySem.Spec PyProof.Rows L2 SD
theorem hide0 {M : Mp} : hideM M [] = M := by
  funext b
  unfold hideM
  rw [if_neg (by simp)]
section
variable {K : PySem.W.Frag} {mg : Str → Option Value} {a : Ad} (Y : Tx K mg a) {M : Mp} {R : DK} {RX : DX}
include Y
theorem r__law_far_right {ds : List D} (h : sp__law_far_right K a ds M R RX) : rd__law_far_right K a (DnX RX) (ends0 R) (rho0 N__law_far_right ds) M := by
  obtain ⟨rfl, k⟩ := h
  intro f cl hf hcl
  have c1 : CloAt (updM M f (.fn ct__law_far_right___law_rule cl)) f ct__law_far_right___law_rule [] [] := CloAt.none updM_same hcl rfl
  generalize updM M f (.fn ct__law_far_right___law_rule cl) = M1 at c1 ⊢
  have ff : ∀ M', Kp [] M1 M' → CloAt M' f ct__law_far_right___law_rule [] [] ∧ IsFnD K M' (.ref f) := fun M' kk => by
    have c2 := CloAt.kp c1 kk (fun s hs => by simp at hs)
    obtain ⟨cl', e, _⟩ := c2.ex
    exact ⟨c2, f, rfl, .inl ⟨_, _, e⟩⟩
  refine ⟨(by show 2 ≤ sizeLine; decide), ?_⟩
  rw [newL_f]
  refine ⟨_, rfl, rfl, rfl, fun z hz => ?_⟩
  refine ⟨z, _, [1, 2], .ref f, rfl, updM_same, rfl, by simp, by decide, (by intro e; cases e), fun A h M2 hA hh ne k2 W => ⟨rfl, ?_⟩⟩
  have k02 : Kp [] M1 M2 := Kp.off hz (Kp.new hz) k2
  dsimp only
  refine dSeq_i ⟨_, rfl, _, insOf_ref W.win, rfl, ?_⟩
  refine ⟨(by show 1 ≤ sizeLine; decide), ?_⟩
  rw [newL_f]
  refine ⟨z, _, A, h, _, _, .ref f, _, [3], rfl, W, rfl, (by intro e; cases e), Nat.le_refl _, by decide, fun _ => .inr ⟨rfl, (ff M2 k02).2, .inr ⟨f, [], [], rfl, (ff M2 k02).1, _, _, rfl, ?_⟩⟩, fun hle => absurd hle (by decide)⟩
  refine ⟨10 ^ 39, rfl, by decide, ?_⟩
  have e0 : addM (hideM M2 []) (([] : List Addr).zip ([] : List D)) = M2 := hide0
  rw [e0]
  refine ⟨W.win, fun z3 A3 h3 M3 p1 p2 p3 p4 p5 k3 W3 => ?_⟩
  have k03 := k02.trans0 k3
  dsimp only
  refine dSeq_i ⟨_, rfl, _, insOf_ref W3.win, rfl, z3, A3, h3, _, _, _, _, 1, rfl, W3, by decide, by decide, fun z4 M4 q1 k4 e4 => ?_⟩
  have W34 := W3.kp0 k4
  have W4 : WinAt a M4 z4 A3 h3 1 (10 ^ 39) (.ref f) [1, 2, 3] := ⟨e4, W34.arr, W34.lst⟩
  refine ⟨_, insOf_ref W4.win, rfl, ?_⟩
  refine ⟨(by show 1 ≤ sizeLine; decide), ?_⟩
  rw [newL_f]
  refine ⟨z4, _, A3, h3, _, _, .ref f, _, [4], rfl, W4, rfl, (by intro e; cases e), by decide, by decide, fun hlt => absurd hlt (by decide), fun hle z5 M5 q2 k5 W5 => ?_⟩
  have n3 : z3 ∉ [h3] := fun e => by have := W34.win; rw [List.mem_singleton.mp e, W34.lst] at this; cases this
  have n4 : A3 ∉ [h3] := fun e => by have := W34.arr; rw [List.mem_singleton.mp e, W34.lst] at this; cases this
  have W35 : WinAt a M5 z3 A3 h3 3 (10 ^ 39) (.ref f) [1, 4, 3] := ⟨k5 _ _ W34.win n3, k5 _ _ W34.arr n4, W5.lst⟩
  dsimp only
  refine dSeq_i ⟨_, rfl, _, insOf_ref W35.win, z3, A3, h3, _, _, _, _, rfl, W35, ?_⟩
  refine ⟨_, rfl, _, insOf_ref W35.win, z3, A3, h3, _, _, _, _, rfl, W35, ?_⟩
  refine ⟨_, rfl, _, insOf_ref W35.win, rfl, z3, A3, h3, _, _, _, _, rfl, W35, by decide, ?_⟩
  refine ⟨_, rfl, _, insOf_ref W5.win, rfl, z5, A3, h3, _, _, _, _, rfl, W5, by decide, ?_⟩
  refine ⟨_, rfl, _, insOf_ref W5.win, rfl, _, rfl, z5, z3, A3, A3, _, _, _, _, _, _, _, _, rfl, W5.win, W35.win, W5.arr, W35.arr, ?_⟩
  refine ⟨_, rfl, _, insOf_ref W35.win, rfl, z3, A3, h3, _, _, _, _, rfl, W35, by decide, by decide, by decide, fun z6 A6 h6 M6 s1 s2 s3 s4 k6 W6 => ?_⟩
  refine ⟨_, insOf_ref W6.win, z6, A6, h6, _, _, _, _, rfl, W6, ?_⟩
  refine ⟨(by show 6 ≤ sizeLine; decide), ?_⟩
  rw [newL_f]
  rw [decide_eq_true rfl]
  refine ⟨_, rfl, ?_⟩
  refine ⟨⟨by decide, by decide, by decide⟩, ⟨by decide, by decide, by decide⟩, ?_⟩
  refine ⟨(by show 3 ≤ sizeLine; decide), ?_⟩
  rw [newL_f]
  refine ⟨(by show 2 ≤ sizeLine; decide), ?_⟩
  rw [newL_f]
  refine ⟨(by show 6 ≤ sizeLine; decide), ?_⟩
  rw [newL_f]
  refine dEq_same (p := py (.lst [.int (10 ^ 39), .int (10 ^ 39 - 3), .lst [.int 1, .int 4, .int 3], .lst [.int 1, .int 4], .bl true, .int 3])) (see_num ?_) (see_num ?_) (shaped_num ?_ ?_) (dn (k _))
  · rfl
  · rfl
  · rfl
  · decide
end
end Q
namespace Q
open PySem PySem.Spec PyProof.Rows L2 SD
theorem iter_inv {chk : Mp → Prop} {g : DG} {tb : DS} {E : DEnds} (I : Nat → DEnv → Mp → Prop) (hc : ∀ i ρ M, I i ρ M → chk M) : ∀ (xs : List D) (i : Nat), (∀ j x, xs[j]? = some x → ∀ ρ M, I (i + j) ρ M → ∀ nx : DEnv → Mp → Prop, (∀ ρ' M', I (i + j + 1) ρ' M' → nx ρ' M') → g x ρ fun ρ1 => tb { nx := nx, ct := nx, bk := E.nx, rt := E.rt } ρ1 M) →
    (∀ ρ M, I (i + xs.length) ρ M → E.nx ρ M) → ∀ ρ M, I i ρ M → dIter chk g tb E xs ρ M
  | [], i, hs, he, ρ, M, h => ⟨hc _ _ _ h, he ρ M h⟩
  | x :: xs, i, hs, he, ρ, M, h => by
    refine ⟨hc _ _ _ h, hs 0 x rfl ρ M h _ fun ρ' M' h' => ?_⟩
    refine iter_inv I hc xs (i + 1) (fun j y hy ρ M hI nx hn => ?_) (fun ρ M h => he ρ M ?_) ρ' M' h'
    · have e : i + 1 + j = i + (j + 1) := by omega
      rw [e] at hI hn
      exact hs (j + 1) y (by simpa using hy) ρ M hI nx hn
    · have e : i + (x :: xs).length = i + 1 + xs.length := by rw [List.length_cons]; omega
      rw [e]; exact h
structure Two (a : Ad) (M : Mp) (b p : Addr) (o : DO) (S T : Sd) (B : Nat) (hs ht : List Addr) : Prop where
  s : ∃ calls notes ws ls, SideOk a M S B calls notes ws ls hs
  t : ∃ calls notes ws ls, SideOk a M T B calls notes ws ls ht
  bag : BagOk M b
  pl : M p = some o
  dj : ∀ x, x ∈ b :: (S.own ++ hs) → x ∉ T.own ++ ht ∧ x ≠ p
  nb : b ∉ S.own ++ hs
  np : p ∉ T.own ++ ht
theorem Two.swap {a : Ad} {M : Mp} {b p : Addr} {o : DO} {S T : Sd} {B : Nat} {hs ht : List Addr} (h : Two a M b p o S T B hs ht) : Two a M b p o T S B ht hs := by
  refine ⟨h.t, h.s, h.bag, h.pl, fun x hx => ?_, (h.dj b List.mem_cons_self).1, fun z => (h.dj p (List.mem_cons_of_mem _ z)).2 rfl⟩
  rcases List.mem_cons.mp hx with rfl | hx
  · exact ⟨h.nb, (h.dj _ List.mem_cons_self).2⟩
  · exact ⟨fun z => (h.dj x (List.mem_cons_of_mem _ z)).1 hx, fun z => h.np (by rw [← z]; exact hx)⟩
section
variable {K : PySem.W.Frag} {mg : Str → Option Value} {a : Ad} (Y : Tx K mg a) {M M' : Mp} {b p : Addr} {o : DO} {S T : Sd} {B : Nat} {hs hs' ht : List Addr} {calls' notes' : List D} {ws' : List Addr} {ls' : List Int}
include Y
theorem Two.step (h : Two a M b p o S T B hs ht) (s1 : SideOk a M' S (B + 3) calls' notes' ws' ls' hs') (s2 : BagOk M' b) (s3 : Kp (b :: (S.own ++ hs)) M M') (s4 : ∀ h ∈ hs', h ∈ hs ∨ M h = none) : Two a M' b p o S T (B + 3) hs' ht := by
  obtain ⟨calls, notes, ws, ls, m⟩ := h.s
  obtain ⟨calls2, notes2, ws2, ls2, m2⟩ := h.t
  have L : Lsts (b :: (S.own ++ hs)) M := fun s hs => by
    rcases List.mem_cons.mp hs with rfl | hs
    · exact BagOk.lst Y h.bag _ (List.mem_singleton.mpr rfl)
    · rcases List.mem_append.mp hs with hs | hs
      · exact m.lsts Y s hs
      · obtain ⟨_, xs, e⟩ := m.hsL s hs
        exact ⟨_, e⟩
  have told : ∀ x ∈ b :: (T.own ++ ht), M x ≠ none := fun x hx e => by
    rcases List.mem_cons.mp hx with rfl | hx
    · obtain ⟨ds, q⟩ := BagOk.lst Y h.bag _ (List.mem_singleton.mpr rfl)
      rw [e] at q; cases q
    · rcases List.mem_append.mp hx with hx | hx
      · obtain ⟨ds, q⟩ := m2.lsts Y x hx
        rw [e] at q; cases q
      · obtain ⟨_, xs, q⟩ := m2.hsL x hx
        rw [e] at q; cases q
  have own : ∀ x ∈ S.own ++ hs', x ∈ S.own ++ hs ∨ M x = none := fun x hx => by
    rcases List.mem_append.mp hx with hx | hx
    · exact .inl (List.mem_append_left _ hx)
    · exact (s4 x hx).imp (List.mem_append_right _) id
  refine ⟨⟨_, _, _, _, s1⟩, ⟨_, _, _, _, m2.kp Y s3 L (fun s hs z => (h.dj s hs).1 (List.mem_append_left _ z)) (fun s hs z => (h.dj s hs).1 (List.mem_append_right _ z)) (by omega)⟩, s2, s3 _ _ h.pl fun z => (h.dj p z).2 rfl, fun x hx => ?_, fun z => ?_, h.np⟩
  · rcases List.mem_cons.mp hx with rfl | hx
    · exact h.dj _ List.mem_cons_self
    · rcases own x hx with q | q
      · exact h.dj x (List.mem_cons_of_mem _ q)
      · refine ⟨fun z => told x (List.mem_cons_of_mem _ z) q, fun z => ?_⟩
        rw [z, h.pl] at q; cases q
  · rcases own b z with q | q
    · exact h.nb q
    · exact told b List.mem_cons_self q
end
def law_cmp (K : PySem.W.Frag) (a : Ad) (W : DW) : DS :=
  (dIfS (dOrT (dB (dOp dNeA (dV 3) (dV 4))) (dB (dOp dNeA (dComp false (iSeq (dV 6)) (gN 12) (dYes) (dComp false (iSeq (dV 12)) (gN 13) (dYes) (dProp a.c_Window (sp_Window_room K a) (dV 13)) [13]) [12]) (dV 7))))
  (dRet (dC (.bl false)))
  (dNext))
def law_step (K : PySem.W.Frag) (a : Ad) (W : DW) : DS :=
  (dSeq (dSet 8 (dCall (sp__law_take K a) [] W (dCons (dV 1) (dCons (dC (.int 2)) (dNil)))))
  (dSeq (dIfS (dB (dOp dEqA (dCall (sp__law_take K a) [] W (dCons (dV 1) (dCons (dC (.int 2)) (dNil)))) (dC (.int 0))))
  (dIfS (dNotT (dTru (dCall (sp__law_grown K a) [] W (dCons (dV 1) (dCons (dOp dIx (dV 6) (dV 8)) (dCons (dOp dIx (dV 7) (dV 8)) (dCons (dOp dIx (dV 4) (dV 8)) (dCons (dOp dIx (dV 5) (dV 8)) (dNil)))))))))
  (dRet (dC (.bl false)))
  (dNext))
  (dDrop (dCall (sp__law_other K a) [] W (dCons (dV 1) (dCons (dOp dIx (dV 6) (dV 8)) (dCons (dOp dIx (dV 7) (dV 8)) (dNil)))))))
  (law_cmp K a W)))
def law_mk (K : PySem.W.Frag) (a : Ad) (W : DW) : DS :=
  (dSeq (dSet 9 (dCall (sp__law_side K a) [] W (dCons (dOp dIx (dV 3) (dV 8)) (dCons (dOp dIx (dV 6) (dV 8)) (dCons (dOp dIx (dV 5) (dV 8)) (dNil))))))
  (dSeq (dDrop (dML dAppend (dOp dIx (dV 6) (dV 8)) (dCons (dMakeK a.c_Window 1 1 (sp_Window___init__ K a) (fun vs zs => vs ++ zs) W (dCons (dOp (dMul false) (dLst false (dCons (dC (.int 1)) (dNil))) (dOp (dAdd false) (dC (.int 1)) (dCall (sp__law_take K a) [] W (dCons (dV 1) (dCons (dC (.int 3)) (dNil)))))) (dNil)) (dCons (dV 9) (dNil))) dNil)))
  (dDrop (dML dAppend (dV 7) (dCons (dLst true (dCons (dCB (fun ds M Q => dLen ds M Q ∨ dLenO a.c_Window (sp_Window___len__ K a) ds M Q) (dCons (dOp dIx (dOp dIx (dV 6) (dV 8)) (dC (.int 0))) (dNil))) (dNil))) dNil)))))
def law_plain (K : PySem.W.Frag) (a : Ad) (W : DW) : DS :=
  (dSeq (dSet 11 (dMake a.c_Window (sp_Window___init__ K a) [.non] W (dCons (dLst false (dCons (dC (.int 1)) (dCons (dC (.int 2)) (dNil)))) (dNil))))
  (dIfS (dB (dOp dNeA (dLst false (dCons (dProp a.c_Window (sp_Window_room K a) (dMeth a.c_Window "put" (sp_Window_put K a) [] W (dV 11) (dCons (dLst false (dCons (dC (.int 3)) (dNil))) (dNil)))) (dCons (dProp a.c_Window (sp_Window_room K a) (dMeth a.c_Window "put" (sp_Window_put K a) [] W (dMeth a.c_Window "cut" (sp_Window_cut K a) [] W (dV 11) (dCons (dC (.int 1)) (dNil))) (dCons (dLst false (dCons (dC (.int 3)) (dNil))) (dNil)))) (dCons (dProp a.c_Window (sp_Window_room K a) (dMeth a.c_Window "put" (sp_Window_put K a) [] W (dMeth a.c_Window "copied" (sp_Window_copied K a) [] W (dV 11) dNil) (dCons (dLst false (dCons (dC (.int 3)) (dCons (dC (.int 4)) (dNil)))) (dNil)))) (dNil))))) (dLst false (dCons (dC (.int 3)) (dCons (dC (.int 2)) (dCons (dC (.int 4)) (dNil)))))))
  (dRet (dC (.bl false)))
  (dNext)))
def law_turn (K : PySem.W.Frag) (a : Ad) (W : DW) : DS :=
  (dSeq (dAsg (dTup (dCons (dLst false (dCons (dLst true (dNil)) (dCons (dLst true (dNil)) (dNil)))) (dCons (dLst false (dCons (dLst true (dNil)) (dCons (dLst true (dNil)) (dNil)))) (dCons (dLst false (dCons (dLst true (dNil)) (dCons (dLst true (dNil)) (dNil)))) (dCons (dLst false (dCons (dLst true (dNil)) (dCons (dLst true (dNil)) (dNil)))) (dCons (dLst true (dNil)) (dNil))))))) (gT (gsC (gN 3) (gsC (gN 4) (gsC (gN 5) (gsC (gN 6) (gsC (gN 7) (gsN))))))))
  (dSeq (dFor (iR1 (dCons (dC (.int 2)) dNil)) (gN 8) (law_mk K a W))
  (dSeq (dFor (iR1 (dCons (dC (.int 14)) dNil)) (gN 10) (law_step K a W))
  (law_plain K a W))))
theorem rd_law_eq {K : PySem.W.Frag} {a : Ad} {W : DW} : rd_law K a W = dSeq (dSet 1 (dCall (sp__law_bag K a) [] W (dCons (dV 0) (dNil)))) (dSeq (dFor (iR1 (dCons (dC (.int 3)) dNil)) (gN 2) (law_turn K a W)) (dRet (dCall (sp__law_far_right K a) [] W dNil))) := rfl
end Q
namespace Q
open PySem PySem.Spec PyProof.Rows L2 SD
/-- the room of a window at x; the rooms of a list's windows -/
def roomD (M : Mp) : D → D
  | .ref x => match M x with
    | some (.ins _ [(_, .ref A), _, _]) => match M A with
      | some (.ins _ [_, (_, l)]) => l
      | _ => .non
    | _ => .non
  | _ => .non
def roomsD (M : Mp) : D → D
  | .ref w => match M w with
    | some (.lst ds) => .lst (ds.map (roomD M))
    | _ => .non
  | _ => .non
theorem roomD_of {a : Ad} {M : Mp} {x A h : Addr} {n : Nat} {lim : Int} {r : D} {xs : List Int} (W : WinAt a M x A h n lim r xs) : roomD M (.ref x) = .int lim := by
  unfold roomD
  dsimp only
  rw [W.win]
  unfold winF
  dsimp only
  rw [W.arr]
  rfl
theorem rooms_of {a : Ad} {M : Mp} {f : Addr} {B : Nat} {hs : List Addr} : ∀ {ws : List Addr} {ls : List Int}, Woks a M f B hs ws ls → (ws.map D.ref).map (roomD M) = il ls
  | _, _, .nil => rfl
  | _, _, .cons w r => by
    obtain ⟨A, h, n, xs, W, _⟩ := w
    rw [List.map_cons, List.map_cons, rooms_of r, roomD_of W]
    rfl
theorem roomsD_of {M : Mp} {w : Addr} {ds : List D} (h : M w = some (.lst ds)) : roomsD M (.ref w) = .lst (ds.map (roomD M)) := by
  unfold roomsD
  dsimp only
  rw [h]
theorem num_calls {calls : List D} (h : ∀ d ∈ calls, CallD d) : numDs calls = true ∧ deps calls ≤ 1 := by
  refine ⟨numDs_of fun d hd => ?_, deps_le fun d hd => ?_⟩
  · obtain ⟨i, j, rfl⟩ := h d hd
    rfl
  · obtain ⟨i, j, rfl⟩ := h d hd
    exact Nat.le_refl _
section
variable {K : PySem.W.Frag} {mg : Str → Option Value} {a : Ad} (Y : Tx K mg a) {M : Mp} {E : DEnds} {W : DW} {ρ : DEnv} {o0 o1 o2 o3 o4 o5 o6 o7 o8 o9 o10 o11 : Option D}
include Y
theorem plain_ok (k : ∀ M' z, Kp [] M M' → E.nx [o0, o1, o2, o3, o4, o5, o6, o7, o8, o9, o10, some (.ref z), none, none] M') : law_plain K a W E [o0, o1, o2, o3, o4, o5, o6, o7, o8, o9, o10, o11, none, none] M := by
  refine ⟨(by show 2 ≤ sizeLine; decide), ?_⟩
  rw [newL_f]
  intro z hz
  refine ⟨z, _, [1, 2], .non, rfl, updM_same, rfl, by simp, by decide, (by intro e; cases e), fun A h M2 hA hh ne k2 W2 => ⟨rfl, ?_⟩⟩
  have k02 : Kp [] M M2 := Kp.off hz (Kp.new hz) k2
  dsimp only
  -- the three rooms: first a put with no rule
  refine ⟨_, rfl, _, insOf_ref W2.win, rfl, ?_⟩
  refine ⟨(by show 1 ≤ sizeLine; decide), ?_⟩
  rw [newL_f]
  refine ⟨z, _, A, h, _, _, .non, _, [3], rfl, W2, rfl, (by intro e; cases e), Nat.le_refl _, by decide, fun _ => .inl ⟨rfl, W2.win, fun z3 A3 h3 M3 p1 p2 p3 p4 p5 k3 W3 => ?_⟩, fun hle => absurd hle (by decide)⟩
  have k03 := k02.trans0 k3
  refine ⟨_, insOf_ref W3.win, z3, A3, h3, _, _, _, _, rfl, W3, ?_⟩
  have W23 := W2.kp0 k3
  -- a cut, then a put that stays
  refine ⟨_, rfl, _, insOf_ref W23.win, rfl, z, A, h, _, _, _, _, 1, rfl, W23, by decide, by decide, fun z4 M4 q1 k4 e4 => ?_⟩
  have k04 := k03.trans0 k4
  have W34 := W23.kp0 k4
  have W4 : WinAt a M4 z4 A h 1 2 .non [1, 2] := ⟨e4, W34.arr, W34.lst⟩
  refine ⟨_, insOf_ref W4.win, rfl, ?_⟩
  refine ⟨(by show 1 ≤ sizeLine; decide), ?_⟩
  rw [newL_f]
  refine ⟨z4, _, A, h, _, _, .non, _, [3], rfl, W4, rfl, (by intro e; cases e), by decide, by decide, fun hlt => absurd hlt (by decide), fun hle z5 M5 q2 k5 W5 => ?_⟩
  have n3 : z ∉ [h] := fun e => by have := W34.win; rw [List.mem_singleton.mp e, W34.lst] at this; cases this
  have n4 : A ∉ [h] := fun e => by have := W34.arr; rw [List.mem_singleton.mp e, W34.lst] at this; cases this
  have hh0 : M h = none := by
    cases q : M h with
    | none => rfl
    | some o => rw [updM_ne (fun e => by rw [e, hz] at q; cases q), q] at hh; cases hh
  have k05 : Kp [] M M5 := fun c u e _ => k5 _ _ (k04 _ _ e (by simp)) fun w => by rw [List.mem_singleton.mp w, hh0] at e; cases e
  have W35 : WinAt a M5 z A h 2 2 .non [1, 3] := ⟨k5 _ _ W34.win n3, k5 _ _ W34.arr n4, W5.lst⟩
  refine ⟨_, insOf_ref W5.win, z5, A, h, _, _, _, _, rfl, W5, ?_⟩
  -- a copy, then a put
  refine ⟨_, rfl, _, insOf_ref W35.win, rfl, z, A, h, _, _, _, _, rfl, W35, by decide, by decide, by decide, fun z6 A6 h6 M6 s1 s2 s3 s4 k6 W6 => ?_⟩
  refine ⟨_, insOf_ref W6.win, rfl, ?_⟩
  refine ⟨(by show 2 ≤ sizeLine; decide), ?_⟩
  rw [newL_f]
  refine ⟨z6, _, A6, h6, _, _, .non, _, [3, 4], rfl, W6, rfl, (by intro e; cases e), by decide, by decide, fun _ => .inl ⟨rfl, W6.win, fun z7 A7 h7 M7 p1 p2 p3 p4 p5 k7 W7 => ?_⟩, fun hle => absurd hle (by decide)⟩
  refine ⟨_, insOf_ref W7.win, z7, A7, h7, _, _, _, _, rfl, W7, ?_⟩
  refine ⟨(by show 3 ≤ sizeLine; decide), ?_⟩
  rw [newL_f]
  refine ⟨(by show 3 ≤ sizeLine; decide), ?_⟩
  rw [newL_f]
  refine dNe_same (p := py (.lst [.int 3, .int 2, .int 4])) (see_num rfl) (see_num rfl) (shaped_num rfl (by decide)) ?_
  exact k _ z ((k05.trans0 k6).trans0 k7)
theorem cmp_ok {S T : Sd} {b p : Addr} {B : Nat} {hs ht : List Addr} (h : Two a M b p (.lst [.ref S.room, .ref T.room]) S T B hs ht) (hB : B ≤ lim0)
    (k : E.nx [o0, o1, o2, some (.lst [.ref S.ask, .ref T.ask]), some (.lst [.ref S.call, .ref T.call]), o5, some (.lst [.ref S.win, .ref T.win]), some (.ref p), o8, o9, o10, o11, none, none] M) :
    law_cmp K a W E [o0, o1, o2, some (.lst [.ref S.ask, .ref T.ask]), some (.lst [.ref S.call, .ref T.call]), o5, some (.lst [.ref S.win, .ref T.win]), some (.ref p), o8, o9, o10, o11, none, none] M := by
  obtain ⟨calls, notes, ws, ls, m⟩ := h.s
  obtain ⟨calls2, notes2, ws2, ls2, m2⟩ := h.t
  refine ifs_of false k fun Q q => ?_
  obtain ⟨c1, c2⟩ := num_calls m.cd
  obtain ⟨c3, c4⟩ := num_calls m2.cd
  refine ⟨_, rfl, _, rfl, dNe_same (p := .list [.list (pys calls), .list (pys calls2)]) (.lst (.cons (.ref m.ask (sees_num c1)) (.cons (.ref m2.ask (sees_num c3)) .nil))) (.lst (.cons (.ref m.call (sees_num c1)) (.cons (.ref m2.call (sees_num c3)) .nil))) (shaped_num (d := .lst [.lst calls, .lst calls2]) ?_ ?_) ?_⟩
  · show (numDs calls && (numDs calls2 && true)) = true
    rw [c1, c3]; rfl
  · show max (deps calls + 1) (max (deps calls2 + 1) 0) + 1 ≤ 64
    omega
  dsimp only
  have big : lim0 < sizeLine := by decide
  -- the rooms
  refine dComp_i (iseq_go (fun Q q => ⟨_, rfl, q⟩) (ds := [.ref S.win, .ref T.win]) rfl fun chk hc p1 hp1 => ?_)
  have one : ∀ S' B' calls' notes' ws' ls' hs', SideOk a M S' B' calls' notes' ws' ls' hs' → B' ≤ lim0 → roomsD M (.ref S'.win) = .lst (il ls') := fun S' B' calls' notes' ws' ls' hs' m' _ => by
    rw [roomsD_of m'.win, rooms_of m'.woks]
  have each : ∀ S' B' calls' notes' ws' ls' hs', SideOk a M S' B' calls' notes' ws' ls' hs' → B' ≤ lim0 → ∀ (ρ0 : DEnv) acc (Q : DK), ρ0 = [o0, o1, o2, some (.lst [.ref S.ask, .ref T.ask]), some (.lst [.ref S.call, .ref T.call]), o5, some (.lst [.ref S.win, .ref T.win]), some (.ref p), o8, o9, o10, o11, none, none] → Q (roomsD M (.ref S'.win)) (updM M p1 (.lst acc)) →
      (dComp false (iSeq (dV 12)) (gN 13) (dYes) (dProp a.c_Window (sp_Window_room K a) (dV 13)) [13]) (ρ0.set 12 (some (.ref S'.win))) (updM M p1 (.lst acc)) Q := by
    rintro S' B' calls' notes' ws' ls' hs' m' hB' ρ0 acc Q rfl q
    have kp1 : Kp [] M (updM M p1 (.lst acc)) := Kp.new hp1
    have e1 := kp1 _ _ m'.win (by simp)
    refine dComp_i (iseq_go (fun Q q => ⟨_, rfl, q⟩) (lstOf_ref e1) fun chk hc p2 hp2 => ?_)
    refine lc_map (roomD M) hp2 (by rw [List.length_map]; have := m'.b3; omega) (fun acc' => hc _ (lstOf_kp (S := []) (lstOf_ref e1) (Kp.new hp2) fun p hp => by simp at hp)) (fun d hd acc' Q q => ?_) ?_
    · obtain ⟨y, hy, rfl⟩ := List.mem_map.mp hd
      obtain ⟨lim', A', h', n', xs', W', _⟩ := m'.woks.all hy
      have W'' := (W'.kp0 kp1).kp0 (Kp.new (o := .lst acc') hp2)
      refine ⟨_, rfl, _, insOf_ref W''.win, y, A', h', n', lim', _, xs', rfl, W'', ?_⟩
      rw [← roomD_of W']
      exact q
    · rw [roomsD_of m'.win] at q
      exact q
  refine lc_map (roomsD M) hp1 (by show 2 ≤ sizeLine; decide) (fun acc => hc _ rfl) (fun d hd acc Q q => ?_) ?_
  · simp only [List.mem_cons, List.not_mem_nil, or_false] at hd
    rcases hd with rfl | rfl
    · exact each _ _ _ _ _ _ _ m hB _ acc Q rfl q
    · exact each _ _ _ _ _ _ _ m2 hB _ acc Q rfl q
  · refine ⟨_, rfl, ?_⟩
    show dNeA (.lst [roomsD M (.ref S.win), roomsD M (.ref T.win)]) _ _ _
    rw [one _ _ _ _ _ _ _ m hB, one _ _ _ _ _ _ _ m2 hB]
    refine dNe_same (p := .list [.list (pys (il ls)), .list (pys (il ls2))]) (.lst (.cons (.lst (sees_num num_il)) (.cons (.lst (sees_num num_il)) .nil))) (.ref h.pl (.cons (.ref m.room (sees_num num_il)) (.cons (.ref m2.room (sees_num num_il)) .nil))) (shaped_num (d := .lst [.lst (il ls), .lst (il ls2)]) ?_ ?_) q
    · show (numDs (il ls) && (numDs (il ls2) && true)) = true
      rw [num_il, num_il]; rfl
    · show max (deps (il ls) + 1) (max (deps (il ls2) + 1) 0) + 1 ≤ 64
      have := dep_il (xs := ls)
      have := dep_il (xs := ls2)
      omega
end
end Q
namespace Q
open PySem PySem.Spec PyProof.Rows L2 SD
theorem rep1 {k : Nat} : (List.replicate k [D.int 1]).flatten = il (List.replicate k 1) := by
  induction k with
  | zero => rfl
  | succ k ih =>
    rw [List.replicate_succ, List.flatten_cons, ih]
    rfl
/-- the five lists of a side that is not made yet -/
structure Bare (M : Mp) (as c n w : Addr) : Prop where
  ask : M as = some (.lst [])
  call : M c = some (.lst [])
  note : M n = some (.lst [])
  win : M w = some (.lst [])
  nd : [as, c, n, w].Nodup
section
variable {K : PySem.W.Frag} {mg : Str → Option Value} {a : Ad} (Y : Tx K mg a) {M : Mp} {E : DEnds} {W : DW} {o0 o2 o8 o9 o10 o11 : Option D}
include Y
theorem mk_ok {as c n w b p : Addr} {rs la lc ln lw : List D} {i : Int} (h : Bare M as c n w) (hb : BagOk M b) (hp : M p = some (.lst rs)) (hr : rs.length < sizeLine) (nb : b ∉ [as, c, n, w]) (np : p ∉ [as, c, n, w]) (npb : b ≠ p)
    (ea : L2.atI la i = some (.ref as)) (en : L2.atI ln i = some (.ref n)) (ew : L2.atI lw i = some (.ref w))
    (k : ∀ M' (r f : Addr) (cs : List Addr) (hh : Addr) ws ls, SideOk a M' ⟨as, c, n, w, r, f, cs⟩ 3 [] [] ws ls [hh] → BagOk M' b → Kp [b, w, p] M M' → M r = none → M hh = none → M' p = some (.lst (rs ++ [.ref r])) → E.nx [o0, some (.ref b), o2, some (.lst la), some (.lst lc), some (.lst ln), some (.lst lw), some (.ref p), some (.int i), some (.ref f), o10, o11, none, none] M') :
    law_mk K a W E [o0, some (.ref b), o2, some (.lst la), some (.lst lc), some (.lst ln), some (.lst lw), some (.ref p), some (.int i), o9, o10, o11, none, none] M := by
  have nd := h.nd
  simp only [List.nodup_cons, List.mem_cons, List.not_mem_nil, or_false, not_or, List.nodup_nil, and_true, not_false_iff] at nd
  obtain ⟨⟨o1, o2', o3⟩, ⟨o5, o6⟩, o8'⟩ := nd
  simp only [List.mem_cons, List.not_mem_nil, or_false, not_or] at nb np
  obtain ⟨nb1, nb2, nb3, nb4⟩ := nb
  obtain ⟨np1, np2, np3, np4⟩ := np
  refine ⟨_, rfl, _, rfl, _, _, rfl, ea, ?_⟩
  refine ⟨_, rfl, _, rfl, _, _, rfl, ew, ?_⟩
  refine ⟨_, rfl, _, rfl, _, _, rfl, en, ?_⟩
  refine ⟨rfl, [.ref as, .ref n, .ref w], rfl, fun f cs cl hf nf hcs c1 => ?_⟩
  generalize hM1 : addM (updM M f (.fn ct__law_side___law_rule cl)) (cs.zip [D.ref as, D.ref n, D.ref w]) = M1 at c1 ⊢
  have k1 : Kp [] M M1 := fun q o e _ => by
    have n1 : q ∉ cs := fun z => by rw [hcs q z] at e; cases e
    rw [← hM1, addM_out (by rw [map_fst_zip c1.len]; exact n1), updM_ne (neM e hf)]
    exact e
  dsimp only
  refine dSeq_i ?_
  have w1 : M1 w = some (.lst []) := k1 _ _ h.win (by simp)
  refine ⟨_, rfl, _, rfl, _, _, rfl, ew, ⟨_, lstOf_ref w1⟩, ?_⟩
  refine ⟨(by show 1 ≤ sizeLine; decide), ?_⟩
  refine ⟨_, rfl, b, 3, rfl, BagOk.kp Y hb k1 (by simp), by decide, by decide, fun j M2 j0 j1 k2 hb2 => ?_⟩
  refine ⟨_, rfl, by omega, by omega, ?_, ?_⟩
  · show 1 * (1 + j).toNat ≤ sizeLine
    have e : 3 < sizeLine := by decide
    omega
  rw [newL_f, rep1]
  refine ⟨_, rfl, rfl, rfl, fun x hx => ?_⟩
  have k12 : Kp [b] M M2 := Kp.trans0 (Kp.weak k1 (by simp)) k2
  have cb : CloAt M2 f ct__law_side___law_rule cs [.ref as, .ref n, .ref w] := CloAt.kp c1 k2 (BagOk.lst Y (BagOk.kp Y hb k1 (by simp)))
  refine ⟨x, _, List.replicate (1 + j).toNat 1, .ref f, rfl, updM_same, rfl, (by
    intro e
    have := congrArg List.length e
    rw [List.length_replicate] at this
    simp at this
    omega), (by
    rw [List.length_replicate]
    have e : 3 < sizeLine := by decide
    omega), (by intro e; cases e), fun A hh M3 hA hhh ne k3 W3 => ⟨rfl, ?_⟩⟩
  rw [List.length_replicate] at W3
  have k23 : Kp [] M2 M3 := Kp.off hx (Kp.new hx) k3
  have hM2 : M2 hh = none := by
    cases q : M2 hh with
    | none => rfl
    | some o => rw [updM_ne (fun e => by rw [e, hx] at q; cases q), q] at hhh; cases hhh
  have k03 : Kp [b] M M3 := Kp.trans0 k12 (Kp.weak k23 (by simp))
  have nw : w ∉ [b] := by simpa using (Ne.symm nb4)
  have w3 : M3 w = some (.lst []) := k03 _ _ h.win nw
  refine ⟨[], w3, (by decide), ?_⟩
  generalize hM4 : updM M3 w (.lst ([] ++ [D.ref x])) = M4
  have k4 : Kp [w] M3 M4 := by rw [← hM4]; exact Kp.put
  have w4 : M4 w = some (.lst [D.ref x]) := by rw [← hM4]; exact updM_same
  have p4 : M4 p = some (.lst rs) := k4 _ _ (k03 _ _ hp (by simpa using (Ne.symm npb))) (by simpa using np4)
  have Lw : Lsts [w] M3 := fun s hs => by rw [List.mem_singleton.mp hs]; exact ⟨_, w3⟩
  have nhw : hh ∉ [w] := fun z => by
    rw [List.mem_singleton.mp z] at hM2
    have := k12 _ _ h.win nw
    rw [hM2] at this; cases this
  have W4 := W3.kp k4 (Lw.nin W3.win fun _ z => by cases z) (Lw.nin W3.arr fun _ z => by cases z) nhw
  refine ⟨_, rfl, ⟨_, lstOf_ref p4⟩, ?_⟩
  refine ⟨_, rfl, _, rfl, _, _, rfl, ew, _, _, sq w4, rfl, .inr ⟨_, insOf_ref W4.win, x, A, hh, _, _, _, _, rfl, W4, (by rw [List.length_replicate]; exact Nat.le_refl _), _, rfl, by omega, by omega, ?_⟩⟩
  refine ⟨(by show 1 ≤ sizeLine; decide), fun r hr' => ?_⟩
  have pr : p ≠ r := neM p4 hr'
  refine ⟨rs, (updM_ne pr).trans p4, hr, ?_⟩
  generalize hM5 : updM (updM M4 r (.lst [D.int ((1 + j).toNat : Int)])) p (.lst (rs ++ [D.ref r])) = M5
  have k5 : Kp [p] M4 M5 := by rw [← hM5]; exact Kp.trans0 (Kp.new hr') Kp.put
  have k05 : Kp [b, w, p] M M5 := Kp.weak (Kp.trans (Kp.trans k03 k4) k5) (by simp)
  have fr : ∀ z, M4 z = none → M z = none := fun z e => by
    cases q : M z with
    | none => rfl
    | some o =>
      by_cases e1 : z = b
      · obtain ⟨ds, q2⟩ := BagOk.lst Y hb2 b (by simp)
        have nbw : b ∉ [w] := by simpa using nb4
        have := k4 _ _ (k23 _ _ q2 (by simp)) nbw
        rw [← e1, e] at this; cases this
      · by_cases e2 : z = w
        · rw [e2, w4] at e; cases e
        · have := k4 _ _ (k03 _ _ q (by simpa using e1)) (by simpa using e2)
          rw [e] at this; cases this
  have hr0 := fr r hr'
  have hh0 : M hh = none := by
    cases q : M hh with
    | none => rfl
    | some o =>
      by_cases e1 : hh = b
      · obtain ⟨ds, q2⟩ := BagOk.lst Y hb2 b (by simp)
        rw [e1, q2] at hM2; cases hM2
      · have := k12 _ _ q (by simpa using e1)
        rw [hM2] at this; cases this
  have nhr : hh ≠ r := neM W4.lst hr'
  have Lp : Lsts [p] M4 := fun s hs => by rw [List.mem_singleton.mp hs]; exact ⟨_, p4⟩
  have nhp : hh ∉ [p] := fun z => by
    rw [List.mem_singleton.mp z, hp] at hh0; cases hh0
  have W5 := W4.kp k5 (Lp.nin W4.win fun _ z => by cases z) (Lp.nin W4.arr fun _ z => by cases z) nhp
  have ne1 : as ∉ [b, w, p] := by simp [Ne.symm nb1, o3, Ne.symm np1]
  have ne2 : c ∉ [b, w, p] := by simp [Ne.symm nb2, o6, Ne.symm np2]
  have ne3 : n ∉ [b, w, p] := by simp [Ne.symm nb3, o8', Ne.symm np3]
  have nr : ∀ q o, M q = some o → q ≠ r := fun q o e => neM e hr0
  refine k M5 r f cs hh [x] [((1 + j).toNat : Int)] ⟨k05 _ _ h.ask ne1, k05 _ _ h.call ne2, k05 _ _ h.note ne3, k5 _ _ w4 (by simpa using Ne.symm np4), ?_, CloAt.kp (CloAt.kp (CloAt.kp cb k23 (fun s hs => by simp at hs)) k4 Lw) k5 Lp, .cons ⟨A, hh, _, _, W5, by omega, by rw [List.length_replicate]; exact Nat.le_refl _, by rw [List.length_replicate]; omega, by simp⟩ .nil, by simp, ?_, fun q hq => ?_, fun d hd => by simp at hd, Nat.zero_le _, Nat.zero_le _, (by show 1 ≤ 3; decide)⟩ ?_ k05 hr0 hh0 ?_
  · rw [← hM5, updM_ne (Ne.symm pr)]; exact updM_same
  · simp only [Sd.own, List.nodup_cons, List.mem_cons, List.not_mem_nil, or_false, not_or, List.nodup_nil, and_true, not_false_iff]
    exact ⟨⟨o1, o2', o3, nr _ _ h.ask⟩, ⟨o5, o6, nr _ _ h.call⟩, ⟨o8', nr _ _ h.note⟩, nr _ _ h.win⟩
  · rw [List.mem_singleton.mp hq]
    refine ⟨fun z => ?_, _, W5.lst⟩
    simp only [Sd.own, List.mem_cons, List.not_mem_nil, or_false] at z
    rcases z with z | z | z | z | z
    · rw [z, h.ask] at hh0; cases hh0
    · rw [z, h.call] at hh0; cases hh0
    · rw [z, h.note] at hh0; cases hh0
    · rw [z, h.win] at hh0; cases hh0
    · exact nhr z
  · exact BagOk.kp Y (BagOk.kp Y (BagOk.kp Y hb2 k23 (by simp)) k4 (by simpa using nb4)) k5 (by simpa using npb)
  · rw [← hM5]; exact updM_same
end
end Q
namespace Q
open PySem PySem.Spec PyProof.Rows L2 SD
section
variable {K : PySem.W.Frag} {mg : Str → Option Value} {a : Ad} (Y : Tx K mg a) {M : Mp} {E : DEnds} {W : DW} {o0 o2 o8 o9 o10 o11 : Option D} {b p : Addr} {B : Nat} {S T : Sd} {hs ht : List Addr} {o : DO}
include Y
theorem Two.bagged {M' : Mp} (h : Two a M b p o S T B hs ht) (k : Kp [b] M M') (hb : BagOk M' b) : Two a M' b p o S T B hs ht := by
  obtain ⟨calls, notes, ws, ls, m⟩ := h.s
  obtain ⟨calls2, notes2, ws2, ls2, m2⟩ := h.t
  have n1 : b ∉ S.own ++ hs := h.nb
  have n2 : b ∉ T.own ++ ht := (h.dj b List.mem_cons_self).1
  have L := BagOk.lst Y h.bag
  refine ⟨⟨_, _, _, _, m.kp Y k L (fun s hs z => n1 ?_) (fun s hs z => n1 ?_) (Nat.le_refl _)⟩, ⟨_, _, _, _, m2.kp Y k L (fun s hs z => n2 ?_) (fun s hs z => n2 ?_) (Nat.le_refl _)⟩, hb, k _ _ h.pl fun z => ?_, h.dj, h.nb, h.np⟩
  · rw [← List.mem_singleton.mp hs]; exact List.mem_append_left _ z
  · rw [← List.mem_singleton.mp hs]; exact List.mem_append_right _ z
  · rw [← List.mem_singleton.mp hs]; exact List.mem_append_left _ z
  · rw [← List.mem_singleton.mp hs]; exact List.mem_append_right _ z
  · exact (h.dj b List.mem_cons_self).2 (List.mem_singleton.mp z).symm
theorem act_ok {i : Int} {la lc ln lw lr : List D} (h : Two a M b p (.lst lr) S T B hs ht) (hB : B ≤ lim0)
    (ec : L2.atI lc i = some (.ref S.call)) (en : L2.atI ln i = some (.ref S.note)) (ew : L2.atI lw i = some (.ref S.win)) (er : L2.atI lr i = some (.ref S.room))
    (k : ∀ M' hs', Two a M' b p (.lst lr) S T (B + 3) hs' ht → E.nx [o0, some (.ref b), o2, some (.lst la), some (.lst lc), some (.lst ln), some (.lst lw), some (.ref p), some (.int i), o9, o10, o11, none, none] M') :
    (dIfS (dB (dOp dEqA (dCall (sp__law_take K a) [] W (dCons (dV 1) (dCons (dC (.int 2)) (dNil)))) (dC (.int 0))))
  (dIfS (dNotT (dTru (dCall (sp__law_grown K a) [] W (dCons (dV 1) (dCons (dOp dIx (dV 6) (dV 8)) (dCons (dOp dIx (dV 7) (dV 8)) (dCons (dOp dIx (dV 4) (dV 8)) (dCons (dOp dIx (dV 5) (dV 8)) (dNil)))))))))
  (dRet (dC (.bl false)))
  (dNext))
  (dDrop (dCall (sp__law_other K a) [] W (dCons (dV 1) (dCons (dOp dIx (dV 6) (dV 8)) (dCons (dOp dIx (dV 7) (dV 8)) (dNil))))))) E [o0, some (.ref b), o2, some (.lst la), some (.lst lc), some (.lst ln), some (.lst lw), some (.ref p), some (.int i), o9, o10, o11, none, none] M := by
  refine ⟨_, rfl, b, 2, rfl, h.bag, by decide, by decide, fun j M1 j0 j1 k1 hb1 => ?_⟩
  have h1 := Two.bagged Y h k1 hb1
  obtain ⟨calls, notes, ws, ls, m⟩ := h1.s
  have n1 : b ∉ S.own := fun z => h1.nb (List.mem_append_left _ z)
  have n2 : b ∉ hs := fun z => h1.nb (List.mem_append_right _ z)
  dsimp only [dC, dEqA]
  by_cases hj : j = 0
  · rw [decide_eq_true hj]
    dsimp only
    refine ⟨_, rfl, _, rfl, _, rfl, _, _, rfl, ew, ?_⟩
    refine ⟨_, rfl, _, rfl, _, _, sq h1.pl, er, ?_⟩
    refine ⟨_, rfl, _, rfl, _, _, rfl, ec, ?_⟩
    refine ⟨_, rfl, _, rfl, _, _, rfl, en, ?_⟩
    refine ⟨b, S, B, calls, notes, ws, ls, hs, rfl, m, hb1, n1, n2, hB, fun M' calls' notes' ws' ls' hs' s1 s2 s3 s4 => ?_⟩
    exact ⟨true, rfl, k M' hs' (Two.step Y h1 s1 s2 s3 s4)⟩
  · rw [decide_eq_false hj]
    dsimp only
    refine ⟨_, rfl, _, rfl, _, rfl, _, _, rfl, ew, ?_⟩
    refine ⟨_, rfl, _, rfl, _, _, sq h1.pl, er, ?_⟩
    refine ⟨b, S, B, calls, notes, ws, ls, hs, rfl, m, hb1, n1, n2, hB, fun M' ws' ls' hs' s1 s2 s3 s4 => ?_⟩
    exact k M' hs' (Two.step Y h1 s1 s2 s3 s4)
theorem step_ok (h : Two a M b p (.lst [.ref S.room, .ref T.room]) S T B hs ht) (hB : B + 3 ≤ lim0)
    (k : ∀ M' hs' ht' o8, Two a M' b p (.lst [.ref S.room, .ref T.room]) S T (B + 3) hs' ht' → E.nx [o0, some (.ref b), o2, some (.lst [.ref S.ask, .ref T.ask]), some (.lst [.ref S.call, .ref T.call]), some (.lst [.ref S.note, .ref T.note]), some (.lst [.ref S.win, .ref T.win]), some (.ref p), o8, o9, o10, o11, none, none] M') :
    law_step K a W E [o0, some (.ref b), o2, some (.lst [.ref S.ask, .ref T.ask]), some (.lst [.ref S.call, .ref T.call]), some (.lst [.ref S.note, .ref T.note]), some (.lst [.ref S.win, .ref T.win]), some (.ref p), o8, o9, o10, o11, none, none] M := by
  refine ⟨_, rfl, b, 2, rfl, h.bag, by decide, by decide, fun i M1 i0 i1 k1 hb1 => ?_⟩
  have h1 := Two.bagged Y h k1 hb1
  dsimp only
  refine dSeq_i ?_
  have hi : i = 0 ∨ i = 1 := by omega
  rcases hi with rfl | rfl
  · exact act_ok Y h1 (by omega) rfl rfl rfl rfl fun M' hs' h' => cmp_ok (W := W) Y h' hB (k _ _ _ _ h')
  · exact act_ok Y h1.swap (by omega) rfl rfl rfl rfl fun M' hs' h' => cmp_ok (W := W) Y h'.swap hB (k _ _ _ _ h'.swap)
end
end Q
namespace Q
open PySem PySem.Spec PyProof.Rows L2 SD
/-- new empty lists -/
structure News (M M' : Mp) (qs : List Addr) : Prop where
  at_ : ∀ q ∈ qs, M' q = some (.lst [])
  new : ∀ q ∈ qs, M q = none
  nd : qs.Nodup
  kp : Kp [] M M'
theorem News.nil {M : Mp} : News M M [] := ⟨fun _ h => by simp at h, fun _ h => by simp at h, List.nodup_nil, Kp.refl⟩
theorem News.cons {M M' : Mp} {qs : List Addr} {q : Addr} (h : News M M' qs) (hq : M' q = none) : News M (updM M' q (.lst [])) (q :: qs) := by
  refine ⟨fun p hp => ?_, fun p hp => ?_, List.nodup_cons.mpr ⟨fun z => ?_, h.nd⟩, Kp.trans0 h.kp (Kp.new hq)⟩
  · rcases List.mem_cons.mp hp with rfl | hp
    · exact updM_same
    · rw [updM_ne (neM (h.at_ p hp) hq)]; exact h.at_ p hp
  · rcases List.mem_cons.mp hp with rfl | hp
    · cases e : M p with
      | none => rfl
      | some o => rw [h.kp _ _ e (by simp)] at hq; cases hq
    · exact h.new p hp
  · rw [h.at_ q z] at hq; cases hq
section
variable {K : PySem.W.Frag} {mg : Str → Option Value} {a : Ad} (Y : Tx K mg a) {M : Mp} {E : DEnds} {W : DW} {o0 o2 o3 o4 o5 o6 o7 o8 o9 o10 o11 : Option D} {b : Addr}
include Y
theorem sides_ok {p a0 a1 c0 c1 n0 n1 w0 w1 : Addr} (hb : BagOk M b) (nb : b ∉ [p, w1, w0, n1, n0, c1, c0, a1, a0]) (nw : ∀ q ∈ [p, w1, w0, n1, n0, c1, c0, a1, a0], M q = some (.lst [])) (nd : [p, w1, w0, n1, n0, c1, c0, a1, a0].Nodup)
    (k : ∀ M' S T hs ht o8 o9, S.ask = a0 → S.call = c0 → S.note = n0 → S.win = w0 → T.ask = a1 → T.call = c1 → T.note = n1 → T.win = w1 → Two a M' b p (.lst [.ref S.room, .ref T.room]) S T 3 hs ht → E.nx [o0, some (.ref b), o2, some (.lst [.ref a0, .ref a1]), some (.lst [.ref c0, .ref c1]), some (.lst [.ref n0, .ref n1]), some (.lst [.ref w0, .ref w1]), some (.ref p), o8, o9, o10, o11, none, none] M') :
    dFor (iR1 (dCons (dC (.int 2)) dNil)) (gN 8) (law_mk K a W) E [o0, some (.ref b), o2, some (.lst [.ref a0, .ref a1]), some (.lst [.ref c0, .ref c1]), some (.lst [.ref n0, .ref n1]), some (.lst [.ref w0, .ref w1]), some (.ref p), o8, o9, o10, o11, none, none] M := by
  refine ⟨by decide, by decide, trivial, ?_⟩
  have at_ : ∀ q ∈ [p, w1, w0, n1, n0, c1, c0, a1, a0], q ≠ b := fun q hq z => nb (by rw [← z]; exact hq)
  have nd' := nd
  simp only [List.nodup_cons, List.mem_cons, List.not_mem_nil, or_false, not_or, List.nodup_nil, and_true, not_false_iff] at nd'
  obtain ⟨⟨p1, p2, p3, p4, p5, p6, p7, p8⟩, ⟨e1, e2, e3, e4, e5, e6, e7⟩, ⟨f1, f2, f3, f4, f5, f6⟩, ⟨g1, g2, g3, g4, g5⟩, ⟨h1, h2, h3, h4⟩, ⟨i1, i2, i3⟩, ⟨j1, j2⟩, k1⟩ := nd'
  simp only [List.mem_cons, List.not_mem_nil, or_false, not_or] at nb
  obtain ⟨b1, b2, b3, b4, b5, b6, b7, b8, b9⟩ := nb
  simp only [List.mem_cons, List.not_mem_nil, or_false, forall_eq_or_imp, forall_eq] at nw
  obtain ⟨m1, m2, m3, m4, m5, m6, m7, m8, m9⟩ := nw
  obtain ⟨bl, hbl⟩ := BagOk.lst Y hb b (by simp)
  refine mk_ok (rs := []) Y ⟨m9, m7, m5, m3, ?_⟩ hb m1 (by decide) ?_ ?_ b1 rfl rfl rfl fun M1 r0 f0 cs0 hh0 ws0 ls0 s0 hb1 k1' fr0 fh0 hp1 => ?_
  · simp only [List.nodup_cons, List.mem_cons, List.not_mem_nil, or_false, not_or, List.nodup_nil, and_true, not_false_iff]
    exact ⟨⟨Ne.symm j2, Ne.symm h4, Ne.symm f6⟩, ⟨Ne.symm h2, Ne.symm f4⟩, Ne.symm f2⟩
  · simp only [List.mem_cons, List.not_mem_nil, or_false, not_or]; exact ⟨b9, b7, b5, b3⟩
  · simp only [List.mem_cons, List.not_mem_nil, or_false, not_or]; exact ⟨p8, p6, p4, p2⟩
  refine ⟨trivial, ?_⟩
  have q : ∀ y ds, M y = some (.lst ds) → y ≠ b → y ≠ w0 → y ≠ p → M1 y = some (.lst ds) := fun y ds e x1 x2 x3 => k1' _ _ e (by simp [x1, x2, x3])
  have t1 := q a1 _ m8 (Ne.symm b8) (Ne.symm f5) (Ne.symm p7)
  have t2 := q c1 _ m6 (Ne.symm b6) (Ne.symm f3) (Ne.symm p5)
  have t3 := q n1 _ m4 (Ne.symm b4) (Ne.symm f1) (Ne.symm p3)
  have t4 := q w1 _ m2 (Ne.symm b2) e1 (Ne.symm p1)
  refine mk_ok Y (M := M1) (b := b) (p := p) ⟨t1, t2, t3, t4, ?_⟩ hb1 hp1 (by show 1 < sizeLine; decide) ?_ ?_ b1 rfl rfl rfl fun M2 r1 f1' cs1 hh1 ws1 ls1 s1 hb2 k2 fr1 fh1 hp2 => ?_
  · simp only [List.nodup_cons, List.mem_cons, List.not_mem_nil, or_false, not_or, List.nodup_nil, and_true, not_false_iff]
    exact ⟨⟨Ne.symm i2, Ne.symm g4, Ne.symm e6⟩, ⟨Ne.symm g2, Ne.symm e4⟩, Ne.symm e2⟩
  · simp only [List.mem_cons, List.not_mem_nil, or_false, not_or]; exact ⟨b8, b6, b4, b2⟩
  · simp only [List.mem_cons, List.not_mem_nil, or_false, not_or]; exact ⟨p7, p5, p3, p1⟩
  refine ⟨trivial, k M2 ⟨a0, c0, n0, w0, r0, f0, cs0⟩ ⟨a1, c1, n1, w1, r1, f1', cs1⟩ [hh0] [hh1] _ _ rfl rfl rfl rfl rfl rfl rfl rfl ?_⟩
  -- r0, hh0 are none of the lists; r1, hh1 neither, and not r0, hh0
  have x0 : ∀ y ds, M y = some (.lst ds) → y ≠ r0 ∧ y ≠ hh0 := fun y ds e => ⟨neM e fr0, neM e fh0⟩
  have x1 : ∀ y ds, M1 y = some (.lst ds) → y ≠ r1 ∧ y ≠ hh1 := fun y ds e => ⟨neM e fr1, neM e fh1⟩
  obtain ⟨_, vs, hhe⟩ := s0.hsL hh0 (by simp)
  obtain ⟨bl1, hbl1⟩ := BagOk.lst Y hb1 b (by simp)
  have nT : ∀ s ∈ [b, w1, p], s ∉ ([a0, c0, n0, w0, r0] : List Addr) ∧ s ∉ [hh0] := fun s hs => by
    simp only [List.mem_cons, List.not_mem_nil, or_false] at hs
    rcases hs with rfl | rfl | rfl
    · simp [b9, b7, b5, b3, (x0 _ _ hbl).1, (x0 _ _ hbl).2]
    · simp [e7, e5, e3, e1, (x0 _ _ m2).1, (x0 _ _ m2).2]
    · simp [p8, p6, p4, p2, (x0 _ _ m1).1, (x0 _ _ m1).2]
  have LT : Lsts [b, w1, p] M1 := fun s hs => by
    simp only [List.mem_cons, List.not_mem_nil, or_false] at hs
    rcases hs with rfl | rfl | rfl
    · exact ⟨_, hbl1⟩
    · exact ⟨_, t4⟩
    · exact ⟨_, hp1⟩
  refine ⟨⟨_, _, _, _, s0.kp Y k2 LT (fun s hs => (nT s hs).1) (fun s hs => (nT s hs).2) (Nat.le_refl _)⟩, ⟨_, _, _, _, s1⟩, hb2, hp2, fun x hx => ?_, ?_, ?_⟩
  · have inM1 : ∀ y ∈ b :: ([a0, c0, n0, w0, r0] ++ [hh0]), ∃ ds, M1 y = some (.lst ds) := fun y hy => by
      rcases List.mem_cons.mp hy with rfl | hy
      · exact ⟨_, hbl1⟩
      · rcases List.mem_append.mp hy with hy | hy
        · exact s0.lsts Y y hy
        · rw [List.mem_singleton.mp hy]; exact ⟨_, hhe⟩
    obtain ⟨dx, ex⟩ := inM1 x hx
    refine ⟨fun z => ?_, fun z => ?_⟩
    · simp only [Sd.own, List.mem_append, List.mem_cons, List.not_mem_nil, or_false] at z hx
      have nr := (x1 _ _ ex).1
      have nh := (x1 _ _ ex).2
      rcases z with (z | z | z | z | z) | z
      · rcases hx with w | (w | w | w | w | w) | w
        · exact b8 (w.symm.trans z)
        · exact k1 (z.symm.trans w)
        · exact j1 (w.symm.trans z)
        · exact h3 (w.symm.trans z)
        · exact f5 (w.symm.trans z)
        · exact (x0 _ _ m8).1 (z.symm.trans w)
        · exact (x0 _ _ m8).2 (z.symm.trans w)
      · rcases hx with w | (w | w | w | w | w) | w
        · exact b6 (w.symm.trans z)
        · exact i3 (z.symm.trans w)
        · exact i1 (z.symm.trans w)
        · exact h1 (w.symm.trans z)
        · exact f3 (w.symm.trans z)
        · exact (x0 _ _ m6).1 (z.symm.trans w)
        · exact (x0 _ _ m6).2 (z.symm.trans w)
      · rcases hx with w | (w | w | w | w | w) | w
        · exact b4 (w.symm.trans z)
        · exact g5 (z.symm.trans w)
        · exact g3 (z.symm.trans w)
        · exact g1 (z.symm.trans w)
        · exact f1 (w.symm.trans z)
        · exact (x0 _ _ m4).1 (z.symm.trans w)
        · exact (x0 _ _ m4).2 (z.symm.trans w)
      · rcases hx with w | (w | w | w | w | w) | w
        · exact b2 (w.symm.trans z)
        · exact e7 (z.symm.trans w)
        · exact e5 (z.symm.trans w)
        · exact e3 (z.symm.trans w)
        · exact e1 (z.symm.trans w)
        · exact (x0 _ _ m2).1 (z.symm.trans w)
        · exact (x0 _ _ m2).2 (z.symm.trans w)
      · exact nr z
      · exact nh z
    · have := (nT p (by simp))
      rw [z] at hx
      rcases List.mem_cons.mp hx with w | hx
      · exact b1 w.symm
      · rcases List.mem_append.mp hx with w | w
        · exact this.1 w
        · exact this.2 w
  · intro z
    rcases List.mem_append.mp z with w | w
    · exact (nT b (by simp)).1 w
    · exact (nT b (by simp)).2 w
  · intro z
    simp only [Sd.own, List.mem_append, List.mem_cons, List.not_mem_nil, or_false] at z
    rcases z with (z | z | z | z | z) | z
    · exact p7 z
    · exact p5 z
    · exact p3 z
    · exact p1 z
    · exact (x1 _ _ hp1).1 z
    · exact (x1 _ _ hp1).2 z
end
end Q
namespace Q
open PySem PySem.Spec PyProof.Rows L2 SD
section
variable {K : PySem.W.Frag} {mg : Str → Option Value} {a : Ad} (Y : Tx K mg a) {M : Mp} {E : DEnds} {W : DW} {R : DK} {RX : DX} {o0 o2 o3 o4 o5 o6 o7 o8 o9 o10 o11 : Option D} {b : Addr}
include Y
theorem turn_ok (hb : BagOk M b) (k : ∀ M' o3 o4 o5 o6 o7 o8 o9 o10 o11, BagOk M' b → E.nx [o0, some (.ref b), o2, o3, o4, o5, o6, o7, o8, o9, o10, o11, none, none] M') :
    law_turn K a W E [o0, some (.ref b), o2, o3, o4, o5, o6, o7, o8, o9, o10, o11, none, none] M := by
  refine ⟨(by show 0 ≤ sizeLine; decide), fun a0 h1 => ⟨(by show 0 ≤ sizeLine; decide), fun a1 h2 => ⟨(by show 2 ≤ sizeLine; decide), ?_⟩⟩⟩
  refine ⟨(by show 0 ≤ sizeLine; decide), fun c0 h3 => ⟨(by show 0 ≤ sizeLine; decide), fun c1 h4 => ⟨(by show 2 ≤ sizeLine; decide), ?_⟩⟩⟩
  refine ⟨(by show 0 ≤ sizeLine; decide), fun n0 h5 => ⟨(by show 0 ≤ sizeLine; decide), fun n1 h6 => ⟨(by show 2 ≤ sizeLine; decide), ?_⟩⟩⟩
  refine ⟨(by show 0 ≤ sizeLine; decide), fun w0 h7 => ⟨(by show 0 ≤ sizeLine; decide), fun w1 h8 => ⟨(by show 2 ≤ sizeLine; decide), ?_⟩⟩⟩
  refine ⟨(by show 0 ≤ sizeLine; decide), fun p h9 => ?_⟩
  have nw := ((((((((News.nil (M := M)).cons h1).cons h2).cons h3).cons h4).cons h5).cons h6).cons h7).cons h8 |>.cons h9
  generalize updM _ p _ = M9 at nw ⊢
  refine ⟨(by show 5 ≤ sizeLine; decide), ?_⟩
  have hb9 : BagOk M9 b := BagOk.kp Y hb nw.kp (by simp)
  obtain ⟨bl, hbl⟩ := BagOk.lst Y hb b (by simp)
  have nb : b ∉ [p, w1, w0, n1, n0, c1, c0, a1, a0] := fun z => by
    rw [nw.new b z] at hbl; cases hbl
  dsimp only [gT, gsC, gN, gsN]
  refine dSeq_i ?_
  refine sides_ok Y hb9 nb nw.at_ nw.nd fun M' S T hs ht o8' o9' e1 e2 e3 e4 e5 e6 e7 e8 h => ?_
  subst e1 e2 e3 e4 e5 e6 e7 e8
  refine dSeq_i ?_
  refine ⟨by decide, by decide, ?_⟩
  refine iter_inv (I := fun i ρ M => i ≤ 14 ∧ ∃ hs ht o8 o10, Two a M b p (.lst [.ref S.room, .ref T.room]) S T (3 + 3 * i) hs ht ∧ ρ = [o0, some (.ref b), o2, some (.lst [.ref S.ask, .ref T.ask]), some (.lst [.ref S.call, .ref T.call]), some (.lst [.ref S.note, .ref T.note]), some (.lst [.ref S.win, .ref T.win]), some (.ref p), o8, o9', o10, o11, none, none])
    (fun _ _ _ _ => trivial) _ 0 ?_ ?_ _ _ ⟨by decide, hs, ht, _, _, h, rfl⟩
  · rintro j x hx ρ M2 ⟨hj, hs, ht, o8, o10, h, rfl⟩ nx hn
    have hl : j < 14 := by
      have := (List.getElem?_eq_some_iff.mp hx).1
      rwa [rangeD_len] at this
    refine step_ok Y h (by have e : 14 * 3 + 6 ≤ lim0 := by decide
                           omega) fun M3 hs' ht' o8 h' => hn _ _ ⟨by omega, hs', ht', _, _, ?_, rfl⟩
    have e : 3 + 3 * (0 + j + 1) = 3 + 3 * (0 + j) + 3 := by omega
    rw [e]
    exact h'
  · rintro ρ M2 ⟨_, hs, ht, o8, o10, h, rfl⟩
    exact plain_ok Y fun M3 z k3 => k M3 _ _ _ _ _ _ _ _ _ (BagOk.kp Y h.bag k3 (by simp))
theorem r_law {ds : List D} (h : sp_law K a ds M R RX) : rd_law K a (DnX RX) (ends0 R) (rho0 N_law ds) M := by
  obtain ⟨ns, rfl, hl, k⟩ := h
  rw [rd_law_eq]
  refine ⟨_, rfl, ns, rfl, by have e : 63 ≤ sizeLine := by decide
                              omega, fun b M1 hb k1 hb1 => ?_⟩
  refine dSeq_i ?_
  refine ⟨by decide, by decide, ?_⟩
  refine iter_inv (I := fun i ρ M => BagOk M b ∧ ∃ o2 o3 o4 o5 o6 o7 o8 o9 o10 o11, ρ = [some (.scr (il ns)), some (.ref b), o2, o3, o4, o5, o6, o7, o8, o9, o10, o11, none, none])
    (fun _ _ _ _ => trivial) _ 0 ?_ ?_ _ _ ⟨hb1, _, _, _, _, _, _, _, _, _, _, rfl⟩
  · rintro j x hx ρ M2 ⟨hb2, o2, o3, o4, o5, o6, o7, o8, o9, o10, o11, rfl⟩ nx hn
    exact turn_ok Y hb2 fun M3 p3 p4 p5 p6 p7 p8 p9 p10 p11 hb3 => hn _ _ ⟨hb3, _, _, _, _, _, _, _, _, _, _, rfl⟩
  · rintro ρ M2 ⟨hb2, o2, o3, o4, o5, o6, o7, o8, o9, o10, o11, rfl⟩
    exact ⟨rfl, fun M' => dn (k _)⟩
end
end Q
namespace Q
open PySem PySem.Spec PyProof.Rows L2 SD
theorem law_end {K : PySem.W.Frag} {a : Ad} {ns : List Int} {M : Mp} (hl : ns.length ≤ 63) (hb : ∀ z ∈ ns, Builtin.Int.intBits z ≤ 1048576) : sp_law K a [.scr (il ns)] M (fun d _ => d = .bl true) fun _ _ _ => False := ⟨ns, rfl, hl, fun _ => rfl⟩
/-- what the top has written, the law's promise -/
theorem all_mk {l : PySem.W.OpenLaw} {w : World} {K : PySem.W.Frag} {h : Heap} {mg : Str → Option Value} {fa c_Window c_Array f_is_integer f_are_marks m_Array___init__ m_Window___init__ m_Window___len__ m_Window_need_cell m_Window___setitem__ m_Window_marks m_Window_room p_Window_room m_Window_spare p_Window_spare m_Window_shares m_Window_cut m_Window_copied m_Window_new_room m_Window_put m_Window___iadd__ f_window_on f__law_bag f__law_take f__law_grown f__law_other f__law_side f__law_far_right f_law : Addr} {oc_is_integer dc_is_integer pm_is_integer ct_is_integer cd_is_integer kV_is_integer : Value} {od_is_integer an_is_integer : Option Addr} {sl_is_integer : Array (Option Value)} {oc_are_marks dc_are_marks pm_are_marks ct_are_marks cd_are_marks kV_are_marks : Value} {od_are_marks an_are_marks : Option Addr} {sl_are_marks : Array (Option Value)} {oc_Array___init__ dc_Array___init__ pm_Array___init__ ct_Array___init__ cd_Array___init__ kV_Array___init__ : Value} {od_Array___init__ an_Array___init__ : Option Addr} {sl_Array___init__ : Array (Option Value)} {kd_Window___init__ : Addr} {oc_Window___init__ dc_Window___init__ pm_Window___init__ ct_Window___init__ cd_Window___init__ : Value} {od_Window___init__ an_Window___init__ : Option Addr} {sl_Window___init__ : Array (Option Value)} {oc_Window___len__ dc_Window___len__ pm_Window___len__ ct_Window___len__ cd_Window___len__ kV_Window___len__ : Value} {od_Window___len__ an_Window___len__ : Option Addr} {sl_Window___len__ : Array (Option Value)} {oc_Window_need_cell dc_Window_need_cell pm_Window_need_cell ct_Window_need_cell cd_Window_need_cell kV_Window_need_cell : Value} {od_Window_need_cell an_Window_need_cell : Option Addr} {sl_Window_need_cell : Array (Option Value)} {oc_Window___setitem__ dc_Window___setitem__ pm_Window___setitem__ ct_Window___setitem__ cd_Window___setitem__ kV_Window___setitem__ : Value} {od_Window___setitem__ an_Window___setitem__ : Option Addr} {sl_Window___setitem__ : Array (Option Value)} {oc_Window_marks dc_Window_marks pm_Window_marks ct_Window_marks cd_Window_marks kV_Window_marks : Value} {od_Window_marks an_Window_marks : Option Addr} {sl_Window_marks : Array (Option Value)} {oc_Window_room dc_Window_room pm_Window_room ct_Window_room cd_Window_room kV_Window_room : Value} {od_Window_room an_Window_room : Option Addr} {sl_Window_room : Array (Option Value)} {oc_Window_spare dc_Window_spare pm_Window_spare ct_Window_spare cd_Window_spare kV_Window_spare : Value} {od_Window_spare an_Window_spare : Option Addr} {sl_Window_spare : Array (Option Value)} {oc_Window_shares dc_Window_shares pm_Window_shares ct_Window_shares cd_Window_shares kV_Window_shares : Value} {od_Window_shares an_Window_shares : Option Addr} {sl_Window_shares : Array (Option Value)} {oc_Window_cut dc_Window_cut pm_Window_cut ct_Window_cut cd_Window_cut kV_Window_cut : Value} {od_Window_cut an_Window_cut : Option Addr} {sl_Window_cut : Array (Option Value)} {oc_Window_copied dc_Window_copied pm_Window_copied ct_Window_copied cd_Window_copied kV_Window_copied : Value} {od_Window_copied an_Window_copied : Option Addr} {sl_Window_copied : Array (Option Value)} {oc_Window_new_room dc_Window_new_room pm_Window_new_room ct_Window_new_room cd_Window_new_room kV_Window_new_room : Value} {od_Window_new_room an_Window_new_room : Option Addr} {sl_Window_new_room : Array (Option Value)} {oc_Window_put dc_Window_put pm_Window_put ct_Window_put cd_Window_put kV_Window_put : Value} {od_Window_put an_Window_put : Option Addr} {sl_Window_put : Array (Option Value)} {oc_Window___iadd__ dc_Window___iadd__ pm_Window___iadd__ ct_Window___iadd__ cd_Window___iadd__ kV_Window___iadd__ : Value} {od_Window___iadd__ an_Window___iadd__ : Option Addr} {sl_Window___iadd__ : Array (Option Value)} {oc_window_on dc_window_on pm_window_on ct_window_on cd_window_on kV_window_on : Value} {od_window_on an_window_on : Option Addr} {sl_window_on : Array (Option Value)} {oc__law_bag dc__law_bag pm__law_bag ct__law_bag cd__law_bag kV__law_bag : Value} {od__law_bag an__law_bag : Option Addr} {sl__law_bag : Array (Option Value)} {oc__law_take dc__law_take pm__law_take ct__law_take cd__law_take kV__law_take : Value} {od__law_take an__law_take : Option Addr} {sl__law_take : Array (Option Value)} {oc__law_grown dc__law_grown pm__law_grown ct__law_grown cd__law_grown kV__law_grown : Value} {od__law_grown an__law_grown : Option Addr} {sl__law_grown : Array (Option Value)} {oc__law_other dc__law_other pm__law_other ct__law_other cd__law_other kV__law_other : Value} {od__law_other an__law_other : Option Addr} {sl__law_other : Array (Option Value)} {oc__law_side dc__law_side pm__law_side ct__law_side kV__law_side : Value} {od__law_side an__law_side : Option Addr} {sl__law_side : Array (Option Value)} {cd__law_side P__law_side : Addr} {ce__law_side : Value} {cg__law_side : Option Addr} {cv__law_side : Array Value} {cs__law_side : Array (Option Value)} {oc__law_far_right dc__law_far_right pm__law_far_right ct__law_far_right kV__law_far_right : Value} {od__law_far_right an__law_far_right : Option Addr} {sl__law_far_right : Array (Option Value)} {cd__law_far_right P__law_far_right : Addr} {ce__law_far_right : Value} {cg__law_far_right : Option Addr} {cv__law_far_right : Array Value} {cs__law_far_right : Array (Option Value)} {oc_law dc_law pm_law ct_law cd_law kV_law : Value} {od_law an_law : Option Addr} {sl_law : Array (Option Value)} {rest_Window_room : List Value} {rest_Window_spare : List Value} (X : K.In h) (G : h.Ns mainGlobals mg) (hfa : mg "law" = some (.ref fa))
    (q_Window : PySem.W.nsIn K mainGlobals "Window" = some (some (.ref c_Window)))
    (q_Array : PySem.W.nsIn K mainGlobals "Array" = some (some (.ref c_Array)))
    (at_is_integer : PySem.W.nsIn K mainGlobals "is_integer" = some (some (.ref f_is_integer)))
    (at_are_marks : PySem.W.nsIn K mainGlobals "are_marks" = some (some (.ref f_are_marks)))
    (at_Array___init__ : PySem.W.findIn K (.ref c_Array) "__init__" = some (some (.ref m_Array___init__)))
    (at_Window___init__ : PySem.W.findIn K (.ref c_Window) "__init__" = some (some (.ref m_Window___init__)))
    (at_Window___len__ : PySem.W.findIn K (.ref c_Window) "__len__" = some (some (.ref m_Window___len__)))
    (at_Window_need_cell : PySem.W.findIn K (.ref c_Window) "need_cell" = some (some (.ref m_Window_need_cell)))
    (at_Window___setitem__ : PySem.W.findIn K (.ref c_Window) "__setitem__" = some (some (.ref m_Window___setitem__)))
    (at_Window_marks : PySem.W.findIn K (.ref c_Window) "marks" = some (some (.ref m_Window_marks)))
    (at_Window_room : PySem.W.findIn K (.ref c_Window) "room" = some (some (.ref p_Window_room)))
    (ge_Window_room : PySem.W.specialIn K (.ref p_Window_room) "__get__" = some (some (.builtin "property.__get__")))
    (ta_Window_room : PySem.W.takesIn K (.ref p_Window_room) = some true)
    (re_Window_room : PySem.W.recIn K p_Window_room "property" = some (.ref m_Window_room :: rest_Window_room))
    (at_Window_spare : PySem.W.findIn K (.ref c_Window) "spare" = some (some (.ref p_Window_spare)))
    (ge_Window_spare : PySem.W.specialIn K (.ref p_Window_spare) "__get__" = some (some (.builtin "property.__get__")))
    (ta_Window_spare : PySem.W.takesIn K (.ref p_Window_spare) = some true)
    (re_Window_spare : PySem.W.recIn K p_Window_spare "property" = some (.ref m_Window_spare :: rest_Window_spare))
    (at_Window_shares : PySem.W.findIn K (.ref c_Window) "shares" = some (some (.ref m_Window_shares)))
    (at_Window_cut : PySem.W.findIn K (.ref c_Window) "cut" = some (some (.ref m_Window_cut)))
    (at_Window_copied : PySem.W.findIn K (.ref c_Window) "copied" = some (some (.ref m_Window_copied)))
    (at_Window_new_room : PySem.W.findIn K (.ref c_Window) "new_room" = some (some (.ref m_Window_new_room)))
    (at_Window_put : PySem.W.findIn K (.ref c_Window) "put" = some (some (.ref m_Window_put)))
    (at_Window___iadd__ : PySem.W.findIn K (.ref c_Window) "__iadd__" = some (some (.ref m_Window___iadd__)))
    (at_window_on : PySem.W.nsIn K mainGlobals "window_on" = some (some (.ref f_window_on)))
    (at__law_bag : PySem.W.nsIn K mainGlobals "_law_bag" = some (some (.ref f__law_bag)))
    (at__law_take : PySem.W.nsIn K mainGlobals "_law_take" = some (some (.ref f__law_take)))
    (at__law_grown : PySem.W.nsIn K mainGlobals "_law_grown" = some (some (.ref f__law_grown)))
    (at__law_other : PySem.W.nsIn K mainGlobals "_law_other" = some (some (.ref f__law_other)))
    (at__law_side : PySem.W.nsIn K mainGlobals "_law_side" = some (some (.ref f__law_side)))
    (at__law_far_right : PySem.W.nsIn K mainGlobals "_law_far_right" = some (some (.ref f__law_far_right)))
    (at_law : PySem.W.nsIn K mainGlobals "law" = some (some (.ref f_law)))
    (fn_Array___init__ : PySem.W.isFn K (.ref m_Array___init__) = true)
    (fn_Window___init__ : PySem.W.isFn K (.ref m_Window___init__) = true)
    (fn_Window___len__ : PySem.W.isFn K (.ref m_Window___len__) = true)
    (fn_Window_need_cell : PySem.W.isFn K (.ref m_Window_need_cell) = true)
    (fn_Window___setitem__ : PySem.W.isFn K (.ref m_Window___setitem__) = true)
    (fn_Window_marks : PySem.W.isFn K (.ref m_Window_marks) = true)
    (fn_Window_shares : PySem.W.isFn K (.ref m_Window_shares) = true)
    (fn_Window_cut : PySem.W.isFn K (.ref m_Window_cut) = true)
    (fn_Window_copied : PySem.W.isFn K (.ref m_Window_copied) = true)
    (fn_Window_new_room : PySem.W.isFn K (.ref m_Window_new_room) = true)
    (fn_Window_put : PySem.W.isFn K (.ref m_Window_put) = true)
    (fn_Window___iadd__ : PySem.W.isFn K (.ref m_Window___iadd__) = true)
    (l_is_integer : K.lookup f_is_integer = some ⟨oc_is_integer, od_is_integer, .func (PySem.W.fnOf "is_integer" "is_integer" (defArgs st_is_integer) (defBody st_is_integer) (defScope st_is_integer) .none kV_is_integer dc_is_integer pm_is_integer an_is_integer cd_is_integer ct_is_integer), sl_is_integer⟩)
    (co_is_integer : PySem.W.codeIn K cd_is_integer "is_integer" = true)
    (k_is_integer : PySem.W.keepIn K (.ref f_is_integer) = true)
    (l_are_marks : K.lookup f_are_marks = some ⟨oc_are_marks, od_are_marks, .func (PySem.W.fnOf "are_marks" "are_marks" (defArgs st_are_marks) (defBody st_are_marks) (defScope st_are_marks) .none kV_are_marks dc_are_marks pm_are_marks an_are_marks cd_are_marks ct_are_marks), sl_are_marks⟩)
    (co_are_marks : PySem.W.codeIn K cd_are_marks "are_marks" = true)
    (k_are_marks : PySem.W.keepIn K (.ref f_are_marks) = true)
    (l_Array___init__ : K.lookup m_Array___init__ = some ⟨oc_Array___init__, od_Array___init__, .func (PySem.W.fnOf "__init__" "Array.__init__" (defArgs st_Array___init__) (defBody st_Array___init__) (defScope st_Array___init__) .none kV_Array___init__ dc_Array___init__ pm_Array___init__ an_Array___init__ cd_Array___init__ ct_Array___init__), sl_Array___init__⟩)
    (co_Array___init__ : PySem.W.codeIn K cd_Array___init__ "Array.__init__" = true)
    (k_Array___init__ : PySem.W.keepIn K (.ref m_Array___init__) = true)
    (l_Window___init__ : K.lookup m_Window___init__ = some ⟨oc_Window___init__, od_Window___init__, .func (PySem.W.fnOf "__init__" "Window.__init__" (defArgs st_Window___init__) (defBody st_Window___init__) (defScope st_Window___init__) .none (.ref kd_Window___init__) dc_Window___init__ pm_Window___init__ an_Window___init__ cd_Window___init__ ct_Window___init__), sl_Window___init__⟩)
    (co_Window___init__ : PySem.W.codeIn K cd_Window___init__ "Window.__init__" = true)
    (k_Window___init__ : PySem.W.keepIn K (.ref m_Window___init__) = true)
    (kd_Window___init___rule : PySem.W.nsIn K kd_Window___init__ "rule" = some (some .none))
    (l_Window___len__ : K.lookup m_Window___len__ = some ⟨oc_Window___len__, od_Window___len__, .func (PySem.W.fnOf "__len__" "Window.__len__" (defArgs st_Window___len__) (defBody st_Window___len__) (defScope st_Window___len__) .none kV_Window___len__ dc_Window___len__ pm_Window___len__ an_Window___len__ cd_Window___len__ ct_Window___len__), sl_Window___len__⟩)
    (co_Window___len__ : PySem.W.codeIn K cd_Window___len__ "Window.__len__" = true)
    (k_Window___len__ : PySem.W.keepIn K (.ref m_Window___len__) = true)
    (l_Window_need_cell : K.lookup m_Window_need_cell = some ⟨oc_Window_need_cell, od_Window_need_cell, .func (PySem.W.fnOf "need_cell" "Window.need_cell" (defArgs st_Window_need_cell) (defBody st_Window_need_cell) (defScope st_Window_need_cell) .none kV_Window_need_cell dc_Window_need_cell pm_Window_need_cell an_Window_need_cell cd_Window_need_cell ct_Window_need_cell), sl_Window_need_cell⟩)
    (co_Window_need_cell : PySem.W.codeIn K cd_Window_need_cell "Window.need_cell" = true)
    (k_Window_need_cell : PySem.W.keepIn K (.ref m_Window_need_cell) = true)
    (l_Window___setitem__ : K.lookup m_Window___setitem__ = some ⟨oc_Window___setitem__, od_Window___setitem__, .func (PySem.W.fnOf "__setitem__" "Window.__setitem__" (defArgs st_Window___setitem__) (defBody st_Window___setitem__) (defScope st_Window___setitem__) .none kV_Window___setitem__ dc_Window___setitem__ pm_Window___setitem__ an_Window___setitem__ cd_Window___setitem__ ct_Window___setitem__), sl_Window___setitem__⟩)
    (co_Window___setitem__ : PySem.W.codeIn K cd_Window___setitem__ "Window.__setitem__" = true)
    (k_Window___setitem__ : PySem.W.keepIn K (.ref m_Window___setitem__) = true)
    (l_Window_marks : K.lookup m_Window_marks = some ⟨oc_Window_marks, od_Window_marks, .func (PySem.W.fnOf "marks" "Window.marks" (defArgs st_Window_marks) (defBody st_Window_marks) (defScope st_Window_marks) .none kV_Window_marks dc_Window_marks pm_Window_marks an_Window_marks cd_Window_marks ct_Window_marks), sl_Window_marks⟩)
    (co_Window_marks : PySem.W.codeIn K cd_Window_marks "Window.marks" = true)
    (k_Window_marks : PySem.W.keepIn K (.ref m_Window_marks) = true)
    (l_Window_room : K.lookup m_Window_room = some ⟨oc_Window_room, od_Window_room, .func (PySem.W.fnOf "room" "Window.room" (defArgs st_Window_room) (defBody st_Window_room) (defScope st_Window_room) .none kV_Window_room dc_Window_room pm_Window_room an_Window_room cd_Window_room ct_Window_room), sl_Window_room⟩)
    (co_Window_room : PySem.W.codeIn K cd_Window_room "Window.room" = true)
    (k_Window_room : PySem.W.keepIn K (.ref m_Window_room) = true)
    (l_Window_spare : K.lookup m_Window_spare = some ⟨oc_Window_spare, od_Window_spare, .func (PySem.W.fnOf "spare" "Window.spare" (defArgs st_Window_spare) (defBody st_Window_spare) (defScope st_Window_spare) .none kV_Window_spare dc_Window_spare pm_Window_spare an_Window_spare cd_Window_spare ct_Window_spare), sl_Window_spare⟩)
    (co_Window_spare : PySem.W.codeIn K cd_Window_spare "Window.spare" = true)
    (k_Window_spare : PySem.W.keepIn K (.ref m_Window_spare) = true)
    (l_Window_shares : K.lookup m_Window_shares = some ⟨oc_Window_shares, od_Window_shares, .func (PySem.W.fnOf "shares" "Window.shares" (defArgs st_Window_shares) (defBody st_Window_shares) (defScope st_Window_shares) .none kV_Window_shares dc_Window_shares pm_Window_shares an_Window_shares cd_Window_shares ct_Window_shares), sl_Window_shares⟩)
    (co_Window_shares : PySem.W.codeIn K cd_Window_shares "Window.shares" = true)
    (k_Window_shares : PySem.W.keepIn K (.ref m_Window_shares) = true)
    (l_Window_cut : K.lookup m_Window_cut = some ⟨oc_Window_cut, od_Window_cut, .func (PySem.W.fnOf "cut" "Window.cut" (defArgs st_Window_cut) (defBody st_Window_cut) (defScope st_Window_cut) .none kV_Window_cut dc_Window_cut pm_Window_cut an_Window_cut cd_Window_cut ct_Window_cut), sl_Window_cut⟩)
    (co_Window_cut : PySem.W.codeIn K cd_Window_cut "Window.cut" = true)
    (k_Window_cut : PySem.W.keepIn K (.ref m_Window_cut) = true)
    (l_Window_copied : K.lookup m_Window_copied = some ⟨oc_Window_copied, od_Window_copied, .func (PySem.W.fnOf "copied" "Window.copied" (defArgs st_Window_copied) (defBody st_Window_copied) (defScope st_Window_copied) .none kV_Window_copied dc_Window_copied pm_Window_copied an_Window_copied cd_Window_copied ct_Window_copied), sl_Window_copied⟩)
    (co_Window_copied : PySem.W.codeIn K cd_Window_copied "Window.copied" = true)
    (k_Window_copied : PySem.W.keepIn K (.ref m_Window_copied) = true)
    (l_Window_new_room : K.lookup m_Window_new_room = some ⟨oc_Window_new_room, od_Window_new_room, .func (PySem.W.fnOf "new_room" "Window.new_room" (defArgs st_Window_new_room) (defBody st_Window_new_room) (defScope st_Window_new_room) .none kV_Window_new_room dc_Window_new_room pm_Window_new_room an_Window_new_room cd_Window_new_room ct_Window_new_room), sl_Window_new_room⟩)
    (co_Window_new_room : PySem.W.codeIn K cd_Window_new_room "Window.new_room" = true)
    (k_Window_new_room : PySem.W.keepIn K (.ref m_Window_new_room) = true)
    (l_Window_put : K.lookup m_Window_put = some ⟨oc_Window_put, od_Window_put, .func (PySem.W.fnOf "put" "Window.put" (defArgs st_Window_put) (defBody st_Window_put) (defScope st_Window_put) .none kV_Window_put dc_Window_put pm_Window_put an_Window_put cd_Window_put ct_Window_put), sl_Window_put⟩)
    (co_Window_put : PySem.W.codeIn K cd_Window_put "Window.put" = true)
    (k_Window_put : PySem.W.keepIn K (.ref m_Window_put) = true)
    (l_Window___iadd__ : K.lookup m_Window___iadd__ = some ⟨oc_Window___iadd__, od_Window___iadd__, .func (PySem.W.fnOf "__iadd__" "Window.__iadd__" (defArgs st_Window___iadd__) (defBody st_Window___iadd__) (defScope st_Window___iadd__) .none kV_Window___iadd__ dc_Window___iadd__ pm_Window___iadd__ an_Window___iadd__ cd_Window___iadd__ ct_Window___iadd__), sl_Window___iadd__⟩)
    (co_Window___iadd__ : PySem.W.codeIn K cd_Window___iadd__ "Window.__iadd__" = true)
    (k_Window___iadd__ : PySem.W.keepIn K (.ref m_Window___iadd__) = true)
    (l_window_on : K.lookup f_window_on = some ⟨oc_window_on, od_window_on, .func (PySem.W.fnOf "window_on" "window_on" (defArgs st_window_on) (defBody st_window_on) (defScope st_window_on) .none kV_window_on dc_window_on pm_window_on an_window_on cd_window_on ct_window_on), sl_window_on⟩)
    (co_window_on : PySem.W.codeIn K cd_window_on "window_on" = true)
    (k_window_on : PySem.W.keepIn K (.ref f_window_on) = true)
    (l__law_bag : K.lookup f__law_bag = some ⟨oc__law_bag, od__law_bag, .func (PySem.W.fnOf "_law_bag" "_law_bag" (defArgs st__law_bag) (defBody st__law_bag) (defScope st__law_bag) .none kV__law_bag dc__law_bag pm__law_bag an__law_bag cd__law_bag ct__law_bag), sl__law_bag⟩)
    (co__law_bag : PySem.W.codeIn K cd__law_bag "_law_bag" = true)
    (k__law_bag : PySem.W.keepIn K (.ref f__law_bag) = true)
    (l__law_take : K.lookup f__law_take = some ⟨oc__law_take, od__law_take, .func (PySem.W.fnOf "_law_take" "_law_take" (defArgs st__law_take) (defBody st__law_take) (defScope st__law_take) .none kV__law_take dc__law_take pm__law_take an__law_take cd__law_take ct__law_take), sl__law_take⟩)
    (co__law_take : PySem.W.codeIn K cd__law_take "_law_take" = true)
    (k__law_take : PySem.W.keepIn K (.ref f__law_take) = true)
    (l__law_grown : K.lookup f__law_grown = some ⟨oc__law_grown, od__law_grown, .func (PySem.W.fnOf "_law_grown" "_law_grown" (defArgs st__law_grown) (defBody st__law_grown) (defScope st__law_grown) .none kV__law_grown dc__law_grown pm__law_grown an__law_grown cd__law_grown ct__law_grown), sl__law_grown⟩)
    (co__law_grown : PySem.W.codeIn K cd__law_grown "_law_grown" = true)
    (k__law_grown : PySem.W.keepIn K (.ref f__law_grown) = true)
    (l__law_other : K.lookup f__law_other = some ⟨oc__law_other, od__law_other, .func (PySem.W.fnOf "_law_other" "_law_other" (defArgs st__law_other) (defBody st__law_other) (defScope st__law_other) .none kV__law_other dc__law_other pm__law_other an__law_other cd__law_other ct__law_other), sl__law_other⟩)
    (co__law_other : PySem.W.codeIn K cd__law_other "_law_other" = true)
    (k__law_other : PySem.W.keepIn K (.ref f__law_other) = true)
    (l__law_side : K.lookup f__law_side = some ⟨oc__law_side, od__law_side, .func (PySem.W.fnOf "_law_side" "_law_side" (defArgs st__law_side) (defBody st__law_side) (defScope st__law_side) .none kV__law_side dc__law_side pm__law_side an__law_side (.ref cd__law_side) ct__law_side), sl__law_side⟩)
    (co__law_side : PySem.W.codeIn K (.ref cd__law_side) "_law_side" = true)
    (k__law_side : PySem.W.keepIn K (.ref f__law_side) = true)
    (lc__law_side : K.lookup cd__law_side = some ⟨ce__law_side, cg__law_side, .fields cv__law_side, cs__law_side⟩)
    (lp__law_side : cv__law_side[11]? = some (.ref P__law_side))
    (hc__law_side : PySem.W.codeHdIn K cd__law_side P__law_side = true)
    (nt__law_side : K.lookup P__law_side = none)
    (ht__law_side : h.get? P__law_side = some { cls := .none, data := .fields #[] })
    (l__law_far_right : K.lookup f__law_far_right = some ⟨oc__law_far_right, od__law_far_right, .func (PySem.W.fnOf "_law_far_right" "_law_far_right" (defArgs st__law_far_right) (defBody st__law_far_right) (defScope st__law_far_right) .none kV__law_far_right dc__law_far_right pm__law_far_right an__law_far_right (.ref cd__law_far_right) ct__law_far_right), sl__law_far_right⟩)
    (co__law_far_right : PySem.W.codeIn K (.ref cd__law_far_right) "_law_far_right" = true)
    (k__law_far_right : PySem.W.keepIn K (.ref f__law_far_right) = true)
    (lc__law_far_right : K.lookup cd__law_far_right = some ⟨ce__law_far_right, cg__law_far_right, .fields cv__law_far_right, cs__law_far_right⟩)
    (lp__law_far_right : cv__law_far_right[11]? = some (.ref P__law_far_right))
    (hc__law_far_right : PySem.W.codeHdIn K cd__law_far_right P__law_far_right = true)
    (nt__law_far_right : K.lookup P__law_far_right = none)
    (ht__law_far_right : h.get? P__law_far_right = some { cls := .none, data := .fields #[] })
    (l_law : K.lookup f_law = some ⟨oc_law, od_law, .func (PySem.W.fnOf "law" "law" (defArgs st_law) (defBody st_law) (defScope st_law) .none kV_law dc_law pm_law an_law cd_law ct_law), sl_law⟩)
    (co_law : PySem.W.codeIn K cd_law "law" = true)
    (k_law : PySem.W.keepIn K (.ref f_law) = true)
    (ne__law_side__law_far_right : P__law_side ≠ P__law_far_right)
    (pg_Window : PySem.W.plainGet K c_Window Str.empty = true)
    (hd_Window : PySem.W.hasDictIn K c_Window = true)
    (po_Window : PySem.W.plainOver K c_Window = true)
    (sa_Window : PySem.W.findIn K (.ref c_Window) "__setattr__" = some (some (.builtin "object.__setattr__")))
    (ma_Array : PySem.W.makesIn K c_Array = true)
    (kc_Array : PySem.W.keepIn K (.ref c_Array) = true)
    (ma_Window : PySem.W.makesIn K c_Window = true)
    (kc_Window : PySem.W.keepIn K (.ref c_Window) = true)
    (n_abs : PySem.W.nsIn K mainGlobals "abs" = some none)
    (n_all : PySem.W.nsIn K mainGlobals "all" = some none)
    (n_bool : PySem.W.nsIn K mainGlobals "bool" = some none)
    (n_int : PySem.W.nsIn K mainGlobals "int" = some none)
    (n_isinstance : PySem.W.nsIn K mainGlobals "isinstance" = some none)
    (n_len : PySem.W.nsIn K mainGlobals "len" = some none)
    (n_list : PySem.W.nsIn K mainGlobals "list" = some none)
    (n_range : PySem.W.nsIn K mainGlobals "range" = some none)
    (eq_Array : PySem.W.findIn K (.ref c_Array) "__eq__" = some (some (.builtin "object.__eq__")))
    (ob_Array : PySem.W.mroIn K c_Array (.type "object") = some true)
    (ns_Window : PySem.W.noSeq K c_Window = true)
    (sf_Window : PySem.W.selfFirst K c_Window = true)
    (pg_Array : PySem.W.plainGet K c_Array Str.empty = true)
    (hd_Array : PySem.W.hasDictIn K c_Array = true)
    (po_Array : PySem.W.plainOver K c_Array = true)
    (sa_Array : PySem.W.findIn K (.ref c_Array) "__setattr__" = some (some (.builtin "object.__setattr__")))
    (no_Array_held : PySem.W.findIn K (.ref c_Array) "held" = some none)
    (no_Array_limit : PySem.W.findIn K (.ref c_Array) "limit" = some none)
    (no_Window_its_array : PySem.W.findIn K (.ref c_Window) "its_array" = some none)
    (no_Window_its_length : PySem.W.findIn K (.ref c_Window) "its_length" = some none)
    (no_Window_its_rule : PySem.W.findIn K (.ref c_Window) "its_rule" = some none) :
    LawD l w K 15 63 "_law_script" mg fa h := by
  have e := hfa.symm.trans (PySem.W.mg_of X G at_law)
  have e2 : f_law = fa := by cases e; rfl
  subst e2
  let a : Ad := ⟨0, 0, 0, 0, c_Array, c_Window, f_is_integer, f_are_marks, m_Array___init__, m_Window___init__, m_Window___len__, m_Window_need_cell, m_Window___setitem__, m_Window_marks, m_Window_room, p_Window_room, m_Window_spare, p_Window_spare, m_Window_shares, m_Window_cut, m_Window_copied, m_Window_new_room, m_Window_put, m_Window___iadd__, f_window_on, f__law_bag, f__law_take, f__law_grown, f__law_other, f__law_side, f__law_far_right, f_law⟩
  have Y : Tx K mg a := ⟨⟨pg_Window, hd_Window, po_Window, sa_Window⟩, PySem.W.mg_of X G q_Array, PySem.W.mg_of X G q_Window, PySem.W.mg_of X G at__law_bag, PySem.W.mg_of X G at__law_far_right, PySem.W.mg_of X G at__law_grown, PySem.W.mg_of X G at__law_other, PySem.W.mg_of X G at__law_side, PySem.W.mg_of X G at__law_take, PySem.W.mg_of X G at_are_marks, PySem.W.mg_of X G at_is_integer, PySem.W.mg_of X G at_window_on, ⟨at_Window_copied, fn_Window_copied, k_Window_copied⟩, ⟨at_Window_cut, fn_Window_cut, k_Window_cut⟩, ⟨at_Window_marks, fn_Window_marks, k_Window_marks⟩, ⟨at_Window_need_cell, fn_Window_need_cell, k_Window_need_cell⟩, ⟨at_Window_new_room, fn_Window_new_room, k_Window_new_room⟩, ⟨at_Window_put, fn_Window_put, k_Window_put⟩, ⟨at_Window_shares, fn_Window_shares, k_Window_shares⟩, ⟨ma_Array, at_Array___init__, fn_Array___init__, kc_Array⟩, ⟨ma_Window, at_Window___init__, fn_Window___init__, kc_Window⟩, PySem.W.mg_none_of X G n_abs, PySem.W.mg_none_of X G n_all, PySem.W.mg_none_of X G n_bool, PySem.W.mg_none_of X G n_int, PySem.W.mg_none_of X G n_isinstance, PySem.W.mg_none_of X G n_len, PySem.W.mg_none_of X G n_list, PySem.W.mg_none_of X G n_range, ⟨eq_Array, ob_Array⟩, ns_Window, ⟨at_Window_room, ge_Window_room, ta_Window_room, ⟨_, re_Window_room⟩⟩, ⟨at_Window_spare, ge_Window_spare, ta_Window_spare, ⟨_, re_Window_spare⟩⟩, sf_Window, ⟨at_Window___iadd__, fn_Window___iadd__⟩, ⟨at_Window___len__, fn_Window___len__⟩, ⟨at_Window___setitem__, fn_Window___setitem__⟩, ⟨⟨pg_Array, hd_Array, po_Array, sa_Array⟩, no_Array_held⟩, ⟨⟨pg_Array, hd_Array, po_Array, sa_Array⟩, no_Array_limit⟩, ⟨⟨pg_Window, hd_Window, po_Window, sa_Window⟩, no_Window_its_array⟩, ⟨⟨pg_Window, hd_Window, po_Window, sa_Window⟩, no_Window_its_length⟩, ⟨⟨pg_Window, hd_Window, po_Window, sa_Window⟩, no_Window_its_rule⟩⟩
  refine ⟨[(cd__law_side, P__law_side), (cd__law_far_right, P__law_far_right)], [(P__law_side, fun _ _ => "_law_side.<locals>._law_rule"), (P__law_far_right, fun _ _ => "_law_far_right.<locals>._law_rule")], sp_law K a, (List.forall_mem_cons.mpr ⟨ht__law_side, (List.forall_mem_cons.mpr ⟨ht__law_far_right, (fun _ z => by simp at z)⟩)⟩), (List.forall_mem_cons.mpr ⟨nt__law_side, (List.forall_mem_cons.mpr ⟨nt__law_far_right, (fun _ z => by simp at z)⟩)⟩), (List.forall_mem_cons.mpr ⟨PySem.W.codeHd_of_K X hc__law_side, (List.forall_mem_cons.mpr ⟨PySem.W.codeHd_of_K X hc__law_far_right, (fun _ z => by simp at z)⟩)⟩), (List.forall_mem_cons.mpr ⟨⟨cd__law_side, by simp⟩, (List.forall_mem_cons.mpr ⟨⟨cd__law_far_right, by simp⟩, (fun _ z => by simp at z)⟩)⟩), fun ns M hl hb => law_end hl hb, fun base KB GB TB => ?_⟩
  let T : List NdefX.NTab := [(P__law_side, fun _ _ => "_law_side.<locals>._law_rule"), (P__law_far_right, fun _ _ => "_law_far_right.<locals>._law_rule")]
  have tb__law_side : LamX.TabB base mg cd__law_side P__law_side := TB (cd__law_side, P__law_side) (by simp)
  have hm__law_side : ((P__law_side, fun _ _ => "_law_side.<locals>._law_rule") : NdefX.NTab) ∈ T := by simp [T]
  have hu__law_side : ∀ p ∈ T, p.1 = P__law_side → p.2 = (fun _ _ => "_law_side.<locals>._law_rule" : Nat → Nat → Str) := (List.forall_mem_cons.mpr ⟨fun _ => rfl, (List.forall_mem_cons.mpr ⟨fun z => absurd z ne__law_side__law_far_right.symm, (fun _ z => by simp at z)⟩)⟩)
  have tb__law_far_right : LamX.TabB base mg cd__law_far_right P__law_far_right := TB (cd__law_far_right, P__law_far_right) (by simp)
  have hm__law_far_right : ((P__law_far_right, fun _ _ => "_law_far_right.<locals>._law_rule") : NdefX.NTab) ∈ T := by simp [T]
  have hu__law_far_right : ∀ p ∈ T, p.1 = P__law_far_right → p.2 = (fun _ _ => "_law_far_right.<locals>._law_rule" : Nat → Nat → Str) := (List.forall_mem_cons.mpr ⟨fun z => absurd z ne__law_side__law_far_right, (List.forall_mem_cons.mpr ⟨fun _ => rfl, (fun _ z => by simp at z)⟩)⟩)
  have b_is_integer : Binds K _ ["thing"] [] := (fun_mk (st := st_is_integer) l_is_integer co_is_integer k_is_integer).binds (ps := ["thing"]) fun _ _ _ _ _ _ us hl => match us, hl with | [_], _ => rfl
  have D_is_integer : Dfn l.prog w K mg base T 1 f_is_integer ["thing"] [] (sp_is_integer K a) := dfn_by (fun_mk (st := st_is_integer) l_is_integer co_is_integer k_is_integer) b_is_integer sc_is_integer (by
      intro ds M R RX h
      first
        | (obtain ⟨rfl, _⟩ := h; rfl)
        | (obtain ⟨_, rfl, _⟩ := h; rfl)
        | (obtain ⟨_, _, rfl, _⟩ := h; rfl)
        | (obtain ⟨_, _, _, rfl, _⟩ := h; rfl)
        | (obtain ⟨_, _, _, _, rfl, _⟩ := h; rfl)
        | (obtain ⟨_, _, _, _, _, rfl, _⟩ := h; rfl)
        | (obtain ⟨_, _, _, _, _, _, rfl, _⟩ := h; rfl)
        | (obtain ⟨_, _, _, _, _, _, _, rfl, _⟩ := h; rfl)
        | (obtain ⟨_, _, _, _, _, _, _, _, rfl, _⟩ := h; rfl)
        | (obtain ⟨_, _, _, _, _, _, _, _, _, rfl, _⟩ := h; rfl)
        | (obtain ⟨_, _, _, _, _, _, _, _, _, _, rfl, _⟩ := h; rfl)
        | (obtain ⟨_, _, _, _, _, _, _, _, _, _, _, rfl, _⟩ := h; rfl)
        | (obtain ⟨_, _, _, _, _, _, _, _, _, _, _, _, rfl, _⟩ := h; rfl)
        | (obtain ⟨_, _, _, _, _, _, _, _, _, _, _, _, _, rfl, _⟩ := h; rfl)
        | (obtain ⟨_, _, _, _, _, _, _, _, _, _, _, _, _, _, rfl, _⟩ := h; rfl)
        | (obtain ⟨_, _, _, _, _, _, _, _, _, _, _, _, _, _, _, rfl, _⟩ := h; rfl)
        | (obtain rfl := h; rfl)) (d_is_integer Y ) fun ds M R RX h => r_is_integer Y h
  have b_Array___init__ : Binds K _ ["self", "marks", "room"] [] := (fun_mk (st := st_Array___init__) l_Array___init__ co_Array___init__ k_Array___init__).binds (ps := ["self", "marks", "room"]) fun _ _ _ _ _ _ us hl => match us, hl with | [_, _, _], _ => rfl
  have D_Array___init__ : Dfn l.prog w K mg base T 1 m_Array___init__ ["self", "marks", "room"] [] (sp_Array___init__ K a) := dfn_by (fun_mk (st := st_Array___init__) l_Array___init__ co_Array___init__ k_Array___init__) b_Array___init__ sc_Array___init__ (by
      intro ds M R RX h
      first
        | (obtain ⟨rfl, _⟩ := h; rfl)
        | (obtain ⟨_, rfl, _⟩ := h; rfl)
        | (obtain ⟨_, _, rfl, _⟩ := h; rfl)
        | (obtain ⟨_, _, _, rfl, _⟩ := h; rfl)
        | (obtain ⟨_, _, _, _, rfl, _⟩ := h; rfl)
        | (obtain ⟨_, _, _, _, _, rfl, _⟩ := h; rfl)
        | (obtain ⟨_, _, _, _, _, _, rfl, _⟩ := h; rfl)
        | (obtain ⟨_, _, _, _, _, _, _, rfl, _⟩ := h; rfl)
        | (obtain ⟨_, _, _, _, _, _, _, _, rfl, _⟩ := h; rfl)
        | (obtain ⟨_, _, _, _, _, _, _, _, _, rfl, _⟩ := h; rfl)
        | (obtain ⟨_, _, _, _, _, _, _, _, _, _, rfl, _⟩ := h; rfl)
        | (obtain ⟨_, _, _, _, _, _, _, _, _, _, _, rfl, _⟩ := h; rfl)
        | (obtain ⟨_, _, _, _, _, _, _, _, _, _, _, _, rfl, _⟩ := h; rfl)
        | (obtain ⟨_, _, _, _, _, _, _, _, _, _, _, _, _, rfl, _⟩ := h; rfl)
        | (obtain ⟨_, _, _, _, _, _, _, _, _, _, _, _, _, _, rfl, _⟩ := h; rfl)
        | (obtain ⟨_, _, _, _, _, _, _, _, _, _, _, _, _, _, _, rfl, _⟩ := h; rfl)
        | (obtain rfl := h; rfl)) (d_Array___init__ Y ) fun ds M R RX h => r_Array___init__ Y h
  have b_Window___len__ : Binds K _ ["self"] [] := (fun_mk (st := st_Window___len__) l_Window___len__ co_Window___len__ k_Window___len__).binds (ps := ["self"]) fun _ _ _ _ _ _ us hl => match us, hl with | [_], _ => rfl
  have D_Window___len__ : Dfn l.prog w K mg base T 1 m_Window___len__ ["self"] [] (sp_Window___len__ K a) := dfn_by (fun_mk (st := st_Window___len__) l_Window___len__ co_Window___len__ k_Window___len__) b_Window___len__ sc_Window___len__ (by
      intro ds M R RX h
      first
        | (obtain ⟨rfl, _⟩ := h; rfl)
        | (obtain ⟨_, rfl, _⟩ := h; rfl)
        | (obtain ⟨_, _, rfl, _⟩ := h; rfl)
        | (obtain ⟨_, _, _, rfl, _⟩ := h; rfl)
        | (obtain ⟨_, _, _, _, rfl, _⟩ := h; rfl)
        | (obtain ⟨_, _, _, _, _, rfl, _⟩ := h; rfl)
        | (obtain ⟨_, _, _, _, _, _, rfl, _⟩ := h; rfl)
        | (obtain ⟨_, _, _, _, _, _, _, rfl, _⟩ := h; rfl)
        | (obtain ⟨_, _, _, _, _, _, _, _, rfl, _⟩ := h; rfl)
        | (obtain ⟨_, _, _, _, _, _, _, _, _, rfl, _⟩ := h; rfl)
        | (obtain ⟨_, _, _, _, _, _, _, _, _, _, rfl, _⟩ := h; rfl)
        | (obtain ⟨_, _, _, _, _, _, _, _, _, _, _, rfl, _⟩ := h; rfl)
        | (obtain ⟨_, _, _, _, _, _, _, _, _, _, _, _, rfl, _⟩ := h; rfl)
        | (obtain ⟨_, _, _, _, _, _, _, _, _, _, _, _, _, rfl, _⟩ := h; rfl)
        | (obtain ⟨_, _, _, _, _, _, _, _, _, _, _, _, _, _, rfl, _⟩ := h; rfl)
        | (obtain ⟨_, _, _, _, _, _, _, _, _, _, _, _, _, _, _, rfl, _⟩ := h; rfl)
        | (obtain rfl := h; rfl)) (d_Window___len__ Y ) fun ds M R RX h => r_Window___len__ Y h
  have b_Window_marks : Binds K _ ["self"] [] := (fun_mk (st := st_Window_marks) l_Window_marks co_Window_marks k_Window_marks).binds (ps := ["self"]) fun _ _ _ _ _ _ us hl => match us, hl with | [_], _ => rfl
  have D_Window_marks : Dfn l.prog w K mg base T 1 m_Window_marks ["self"] [] (sp_Window_marks K a) := dfn_by (fun_mk (st := st_Window_marks) l_Window_marks co_Window_marks k_Window_marks) b_Window_marks sc_Window_marks (by
      intro ds M R RX h
      first
        | (obtain ⟨rfl, _⟩ := h; rfl)
        | (obtain ⟨_, rfl, _⟩ := h; rfl)
        | (obtain ⟨_, _, rfl, _⟩ := h; rfl)
        | (obtain ⟨_, _, _, rfl, _⟩ := h; rfl)
        | (obtain ⟨_, _, _, _, rfl, _⟩ := h; rfl)
        | (obtain ⟨_, _, _, _, _, rfl, _⟩ := h; rfl)
        | (obtain ⟨_, _, _, _, _, _, rfl, _⟩ := h; rfl)
        | (obtain ⟨_, _, _, _, _, _, _, rfl, _⟩ := h; rfl)
        | (obtain ⟨_, _, _, _, _, _, _, _, rfl, _⟩ := h; rfl)
        | (obtain ⟨_, _, _, _, _, _, _, _, _, rfl, _⟩ := h; rfl)
        | (obtain ⟨_, _, _, _, _, _, _, _, _, _, rfl, _⟩ := h; rfl)
        | (obtain ⟨_, _, _, _, _, _, _, _, _, _, _, rfl, _⟩ := h; rfl)
        | (obtain ⟨_, _, _, _, _, _, _, _, _, _, _, _, rfl, _⟩ := h; rfl)
        | (obtain ⟨_, _, _, _, _, _, _, _, _, _, _, _, _, rfl, _⟩ := h; rfl)
        | (obtain ⟨_, _, _, _, _, _, _, _, _, _, _, _, _, _, rfl, _⟩ := h; rfl)
        | (obtain ⟨_, _, _, _, _, _, _, _, _, _, _, _, _, _, _, rfl, _⟩ := h; rfl)
        | (obtain rfl := h; rfl)) (d_Window_marks Y ) fun ds M R RX h => r_Window_marks Y h
  have b_Window_room : Binds K _ ["self"] [] := (fun_mk (st := st_Window_room) l_Window_room co_Window_room k_Window_room).binds (ps := ["self"]) fun _ _ _ _ _ _ us hl => match us, hl with | [_], _ => rfl
  have D_Window_room : Dfn l.prog w K mg base T 1 m_Window_room ["self"] [] (sp_Window_room K a) := dfn_by (fun_mk (st := st_Window_room) l_Window_room co_Window_room k_Window_room) b_Window_room sc_Window_room (by
      intro ds M R RX h
      first
        | (obtain ⟨rfl, _⟩ := h; rfl)
        | (obtain ⟨_, rfl, _⟩ := h; rfl)
        | (obtain ⟨_, _, rfl, _⟩ := h; rfl)
        | (obtain ⟨_, _, _, rfl, _⟩ := h; rfl)
        | (obtain ⟨_, _, _, _, rfl, _⟩ := h; rfl)
        | (obtain ⟨_, _, _, _, _, rfl, _⟩ := h; rfl)
        | (obtain ⟨_, _, _, _, _, _, rfl, _⟩ := h; rfl)
        | (obtain ⟨_, _, _, _, _, _, _, rfl, _⟩ := h; rfl)
        | (obtain ⟨_, _, _, _, _, _, _, _, rfl, _⟩ := h; rfl)
        | (obtain ⟨_, _, _, _, _, _, _, _, _, rfl, _⟩ := h; rfl)
        | (obtain ⟨_, _, _, _, _, _, _, _, _, _, rfl, _⟩ := h; rfl)
        | (obtain ⟨_, _, _, _, _, _, _, _, _, _, _, rfl, _⟩ := h; rfl)
        | (obtain ⟨_, _, _, _, _, _, _, _, _, _, _, _, rfl, _⟩ := h; rfl)
        | (obtain ⟨_, _, _, _, _, _, _, _, _, _, _, _, _, rfl, _⟩ := h; rfl)
        | (obtain ⟨_, _, _, _, _, _, _, _, _, _, _, _, _, _, rfl, _⟩ := h; rfl)
        | (obtain ⟨_, _, _, _, _, _, _, _, _, _, _, _, _, _, _, rfl, _⟩ := h; rfl)
        | (obtain rfl := h; rfl)) (d_Window_room Y ) fun ds M R RX h => r_Window_room Y h
  have b_Window_spare : Binds K _ ["self"] [] := (fun_mk (st := st_Window_spare) l_Window_spare co_Window_spare k_Window_spare).binds (ps := ["self"]) fun _ _ _ _ _ _ us hl => match us, hl with | [_], _ => rfl
  have D_Window_spare : Dfn l.prog w K mg base T 1 m_Window_spare ["self"] [] (sp_Window_spare K a) := dfn_by (fun_mk (st := st_Window_spare) l_Window_spare co_Window_spare k_Window_spare) b_Window_spare sc_Window_spare (by
      intro ds M R RX h
      first
        | (obtain ⟨rfl, _⟩ := h; rfl)
        | (obtain ⟨_, rfl, _⟩ := h; rfl)
        | (obtain ⟨_, _, rfl, _⟩ := h; rfl)
        | (obtain ⟨_, _, _, rfl, _⟩ := h; rfl)
        | (obtain ⟨_, _, _, _, rfl, _⟩ := h; rfl)
        | (obtain ⟨_, _, _, _, _, rfl, _⟩ := h; rfl)
        | (obtain ⟨_, _, _, _, _, _, rfl, _⟩ := h; rfl)
        | (obtain ⟨_, _, _, _, _, _, _, rfl, _⟩ := h; rfl)
        | (obtain ⟨_, _, _, _, _, _, _, _, rfl, _⟩ := h; rfl)
        | (obtain ⟨_, _, _, _, _, _, _, _, _, rfl, _⟩ := h; rfl)
        | (obtain ⟨_, _, _, _, _, _, _, _, _, _, rfl, _⟩ := h; rfl)
        | (obtain ⟨_, _, _, _, _, _, _, _, _, _, _, rfl, _⟩ := h; rfl)
        | (obtain ⟨_, _, _, _, _, _, _, _, _, _, _, _, rfl, _⟩ := h; rfl)
        | (obtain ⟨_, _, _, _, _, _, _, _, _, _, _, _, _, rfl, _⟩ := h; rfl)
        | (obtain ⟨_, _, _, _, _, _, _, _, _, _, _, _, _, _, rfl, _⟩ := h; rfl)
        | (obtain ⟨_, _, _, _, _, _, _, _, _, _, _, _, _, _, _, rfl, _⟩ := h; rfl)
        | (obtain rfl := h; rfl)) (d_Window_spare Y ) fun ds M R RX h => r_Window_spare Y h
  have b_Window_shares : Binds K _ ["self", "other"] [] := (fun_mk (st := st_Window_shares) l_Window_shares co_Window_shares k_Window_shares).binds (ps := ["self", "other"]) fun _ _ _ _ _ _ us hl => match us, hl with | [_, _], _ => rfl
  have D_Window_shares : Dfn l.prog w K mg base T 1 m_Window_shares ["self", "other"] [] (sp_Window_shares K a) := dfn_by (fun_mk (st := st_Window_shares) l_Window_shares co_Window_shares k_Window_shares) b_Window_shares sc_Window_shares (by
      intro ds M R RX h
      first
        | (obtain ⟨rfl, _⟩ := h; rfl)
        | (obtain ⟨_, rfl, _⟩ := h; rfl)
        | (obtain ⟨_, _, rfl, _⟩ := h; rfl)
        | (obtain ⟨_, _, _, rfl, _⟩ := h; rfl)
        | (obtain ⟨_, _, _, _, rfl, _⟩ := h; rfl)
        | (obtain ⟨_, _, _, _, _, rfl, _⟩ := h; rfl)
        | (obtain ⟨_, _, _, _, _, _, rfl, _⟩ := h; rfl)
        | (obtain ⟨_, _, _, _, _, _, _, rfl, _⟩ := h; rfl)
        | (obtain ⟨_, _, _, _, _, _, _, _, rfl, _⟩ := h; rfl)
        | (obtain ⟨_, _, _, _, _, _, _, _, _, rfl, _⟩ := h; rfl)
        | (obtain ⟨_, _, _, _, _, _, _, _, _, _, rfl, _⟩ := h; rfl)
        | (obtain ⟨_, _, _, _, _, _, _, _, _, _, _, rfl, _⟩ := h; rfl)
        | (obtain ⟨_, _, _, _, _, _, _, _, _, _, _, _, rfl, _⟩ := h; rfl)
        | (obtain ⟨_, _, _, _, _, _, _, _, _, _, _, _, _, rfl, _⟩ := h; rfl)
        | (obtain ⟨_, _, _, _, _, _, _, _, _, _, _, _, _, _, rfl, _⟩ := h; rfl)
        | (obtain ⟨_, _, _, _, _, _, _, _, _, _, _, _, _, _, _, rfl, _⟩ := h; rfl)
        | (obtain rfl := h; rfl)) (d_Window_shares Y ) fun ds M R RX h => r_Window_shares Y h
  have b__law_bag : Binds K _ ["_law_script"] [] := (fun_mk (st := st__law_bag) l__law_bag co__law_bag k__law_bag).binds (ps := ["_law_script"]) fun _ _ _ _ _ _ us hl => match us, hl with | [_], _ => rfl
  have D__law_bag : Dfn l.prog w K mg base T 1 f__law_bag ["_law_script"] [] (sp__law_bag K a) := dfn_by (fun_mk (st := st__law_bag) l__law_bag co__law_bag k__law_bag) b__law_bag sc__law_bag (by
      intro ds M R RX h
      first
        | (obtain ⟨rfl, _⟩ := h; rfl)
        | (obtain ⟨_, rfl, _⟩ := h; rfl)
        | (obtain ⟨_, _, rfl, _⟩ := h; rfl)
        | (obtain ⟨_, _, _, rfl, _⟩ := h; rfl)
        | (obtain ⟨_, _, _, _, rfl, _⟩ := h; rfl)
        | (obtain ⟨_, _, _, _, _, rfl, _⟩ := h; rfl)
        | (obtain ⟨_, _, _, _, _, _, rfl, _⟩ := h; rfl)
        | (obtain ⟨_, _, _, _, _, _, _, rfl, _⟩ := h; rfl)
        | (obtain ⟨_, _, _, _, _, _, _, _, rfl, _⟩ := h; rfl)
        | (obtain ⟨_, _, _, _, _, _, _, _, _, rfl, _⟩ := h; rfl)
        | (obtain ⟨_, _, _, _, _, _, _, _, _, _, rfl, _⟩ := h; rfl)
        | (obtain ⟨_, _, _, _, _, _, _, _, _, _, _, rfl, _⟩ := h; rfl)
        | (obtain ⟨_, _, _, _, _, _, _, _, _, _, _, _, rfl, _⟩ := h; rfl)
        | (obtain ⟨_, _, _, _, _, _, _, _, _, _, _, _, _, rfl, _⟩ := h; rfl)
        | (obtain ⟨_, _, _, _, _, _, _, _, _, _, _, _, _, _, rfl, _⟩ := h; rfl)
        | (obtain ⟨_, _, _, _, _, _, _, _, _, _, _, _, _, _, _, rfl, _⟩ := h; rfl)
        | (obtain rfl := h; rfl)) (d__law_bag Y ) fun ds M R RX h => r__law_bag Y h
  have b__law_take : Binds K _ ["_law_bag_here", "_law_many"] [] := (fun_mk (st := st__law_take) l__law_take co__law_take k__law_take).binds (ps := ["_law_bag_here", "_law_many"]) fun _ _ _ _ _ _ us hl => match us, hl with | [_, _], _ => rfl
  have D__law_take : Dfn l.prog w K mg base T 1 f__law_take ["_law_bag_here", "_law_many"] [] (sp__law_take K a) := dfn_by (fun_mk (st := st__law_take) l__law_take co__law_take k__law_take) b__law_take sc__law_take (by
      intro ds M R RX h
      first
        | (obtain ⟨rfl, _⟩ := h; rfl)
        | (obtain ⟨_, rfl, _⟩ := h; rfl)
        | (obtain ⟨_, _, rfl, _⟩ := h; rfl)
        | (obtain ⟨_, _, _, rfl, _⟩ := h; rfl)
        | (obtain ⟨_, _, _, _, rfl, _⟩ := h; rfl)
        | (obtain ⟨_, _, _, _, _, rfl, _⟩ := h; rfl)
        | (obtain ⟨_, _, _, _, _, _, rfl, _⟩ := h; rfl)
        | (obtain ⟨_, _, _, _, _, _, _, rfl, _⟩ := h; rfl)
        | (obtain ⟨_, _, _, _, _, _, _, _, rfl, _⟩ := h; rfl)
        | (obtain ⟨_, _, _, _, _, _, _, _, _, rfl, _⟩ := h; rfl)
        | (obtain ⟨_, _, _, _, _, _, _, _, _, _, rfl, _⟩ := h; rfl)
        | (obtain ⟨_, _, _, _, _, _, _, _, _, _, _, rfl, _⟩ := h; rfl)
        | (obtain ⟨_, _, _, _, _, _, _, _, _, _, _, _, rfl, _⟩ := h; rfl)
        | (obtain ⟨_, _, _, _, _, _, _, _, _, _, _, _, _, rfl, _⟩ := h; rfl)
        | (obtain ⟨_, _, _, _, _, _, _, _, _, _, _, _, _, _, rfl, _⟩ := h; rfl)
        | (obtain ⟨_, _, _, _, _, _, _, _, _, _, _, _, _, _, _, rfl, _⟩ := h; rfl)
        | (obtain rfl := h; rfl)) (d__law_take Y ) fun ds M R RX h => r__law_take Y h
  have b__law_side : Binds K _ ["_law_side_here", "_law_windows", "_law_notes"] [] := (fun_mk (st := st__law_side) l__law_side co__law_side k__law_side).binds (ps := ["_law_side_here", "_law_windows", "_law_notes"]) fun _ _ _ _ _ _ us hl => match us, hl with | [_, _, _], _ => rfl
  have D__law_side : Dfn l.prog w K mg base T 1 f__law_side ["_law_side_here", "_law_windows", "_law_notes"] [] (sp__law_side K a) := ⟨⟨_, [], [], fun B => fnG_mk (F := ct__law_side___law_rule) (js := [0, 2, 1]) (i := 3) l__law_side co__law_side sc__law_side rfl rfl tb__law_side hm__law_side hu__law_side (fun _ => by rfl) rfl (by decide +kernel) (by decide +kernel) (by decide +kernel) rfl rfl (fun _ => by rfl) rfl (by rfl) (by decide +kernel) (by rfl) (by decide) (by decide) (by decide +kernel) (by decide +kernel) B, b__law_side, .nil, fun _ => .nil⟩, k__law_side⟩
  have D__law_far_right___law_rule : CloOk l.prog w K mg base T 1 ct__law_far_right___law_rule (sp__law_far_right___law_rule K a) := clo_by sc__law_far_right___law_rule (fun _ _ _ _ _ us hl => match us, hl with | [_, _], _ => rfl) (by
      intro ws ds M R RX h
      first
        | (obtain ⟨rfl, _⟩ := h; rfl)
        | (obtain ⟨_, rfl, _⟩ := h; rfl)
        | (obtain ⟨_, rfl, _⟩ := h; rfl)
        | (obtain ⟨_, _, rfl, _⟩ := h; rfl)
        | (obtain ⟨_, _, rfl, _⟩ := h; rfl)
        | (obtain ⟨_, _, _, rfl, _⟩ := h; rfl)
        | (obtain ⟨_, _, _, rfl, _⟩ := h; rfl)
        | (obtain ⟨_, _, _, _, rfl, _⟩ := h; rfl)
        | (obtain ⟨_, _, _, _, rfl, _⟩ := h; rfl)
        | (obtain ⟨_, _, _, _, _, rfl, _⟩ := h; rfl)
        | (obtain ⟨_, _, _, _, _, rfl, _⟩ := h; rfl)
        | (obtain ⟨_, _, _, _, _, _, rfl, _⟩ := h; rfl)
        | (obtain ⟨_, _, _, _, _, _, rfl, _⟩ := h; rfl)
        | (obtain ⟨_, _, _, _, _, _, _, rfl, _⟩ := h; rfl)
        | (obtain ⟨_, _, _, _, _, _, _, rfl, _⟩ := h; rfl)
        | (obtain ⟨_, _, _, _, _, _, _, _, rfl, _⟩ := h; rfl)
        | (obtain ⟨_, _, _, _, _, _, _, _, rfl, _⟩ := h; rfl)
        | (obtain ⟨_, _, _, _, _, _, _, _, _, rfl, _⟩ := h; rfl)
        | (obtain ⟨_, _, _, _, _, _, _, _, _, rfl, _⟩ := h; rfl)
        | (obtain ⟨_, _, _, _, _, _, _, _, _, _, rfl, _⟩ := h; rfl)
        | (obtain ⟨_, _, _, _, _, _, _, _, _, _, rfl, _⟩ := h; rfl)
        | (obtain ⟨_, _, _, _, _, _, _, _, _, _, _, rfl, _⟩ := h; rfl)
        | (obtain ⟨_, _, _, _, _, _, _, _, _, _, _, rfl, _⟩ := h; rfl)
        | (obtain ⟨_, _, _, _, _, _, _, _, _, _, _, _, rfl, _⟩ := h; rfl)
        | (obtain ⟨_, _, _, _, _, _, _, _, _, _, _, _, rfl, _⟩ := h; rfl)
        | (obtain ⟨_, _, _, _, _, _, _, _, _, _, _, _, _, rfl, _⟩ := h; rfl)
        | (obtain ⟨_, _, _, _, _, _, _, _, _, _, _, _, _, rfl, _⟩ := h; rfl)
        | (obtain ⟨_, _, _, _, _, _, _, _, _, _, _, _, _, _, rfl, _⟩ := h; rfl)
        | (obtain ⟨_, _, _, _, _, _, _, _, _, _, _, _, _, _, rfl, _⟩ := h; rfl)
        | (obtain ⟨_, _, _, _, _, _, _, _, _, _, _, _, _, _, _, rfl, _⟩ := h; rfl)
        | (obtain ⟨_, _, _, _, _, _, _, _, _, _, _, _, _, _, _, rfl, _⟩ := h; rfl)
        | (obtain ⟨_, _, _, _, _, _, _, _, _, _, _, _, _, _, _, _, rfl, _⟩ := h; rfl)) (d__law_far_right___law_rule Y ) fun ws ds M R RX h hw => r__law_far_right___law_rule Y h hw
  have b_are_marks : Binds K _ ["thing"] [] := (fun_mk (st := st_are_marks) l_are_marks co_are_marks k_are_marks).binds (ps := ["thing"]) fun _ _ _ _ _ _ us hl => match us, hl with | [_], _ => rfl
  have D_are_marks : Dfn l.prog w K mg base T 3 f_are_marks ["thing"] [] (sp_are_marks K a) := dfn_by (fun_mk (st := st_are_marks) l_are_marks co_are_marks k_are_marks) b_are_marks sc_are_marks (by
      intro ds M R RX h
      first
        | (obtain ⟨rfl, _⟩ := h; rfl)
        | (obtain ⟨_, rfl, _⟩ := h; rfl)
        | (obtain ⟨_, _, rfl, _⟩ := h; rfl)
        | (obtain ⟨_, _, _, rfl, _⟩ := h; rfl)
        | (obtain ⟨_, _, _, _, rfl, _⟩ := h; rfl)
        | (obtain ⟨_, _, _, _, _, rfl, _⟩ := h; rfl)
        | (obtain ⟨_, _, _, _, _, _, rfl, _⟩ := h; rfl)
        | (obtain ⟨_, _, _, _, _, _, _, rfl, _⟩ := h; rfl)
        | (obtain ⟨_, _, _, _, _, _, _, _, rfl, _⟩ := h; rfl)
        | (obtain ⟨_, _, _, _, _, _, _, _, _, rfl, _⟩ := h; rfl)
        | (obtain ⟨_, _, _, _, _, _, _, _, _, _, rfl, _⟩ := h; rfl)
        | (obtain ⟨_, _, _, _, _, _, _, _, _, _, _, rfl, _⟩ := h; rfl)
        | (obtain ⟨_, _, _, _, _, _, _, _, _, _, _, _, rfl, _⟩ := h; rfl)
        | (obtain ⟨_, _, _, _, _, _, _, _, _, _, _, _, _, rfl, _⟩ := h; rfl)
        | (obtain ⟨_, _, _, _, _, _, _, _, _, _, _, _, _, _, rfl, _⟩ := h; rfl)
        | (obtain ⟨_, _, _, _, _, _, _, _, _, _, _, _, _, _, _, rfl, _⟩ := h; rfl)
        | (obtain rfl := h; rfl)) (d_are_marks Y D_is_integer) fun ds M R RX h => r_are_marks Y h
  have b_Window_need_cell : Binds K _ ["self", "at"] [] := (fun_mk (st := st_Window_need_cell) l_Window_need_cell co_Window_need_cell k_Window_need_cell).binds (ps := ["self", "at"]) fun _ _ _ _ _ _ us hl => match us, hl with | [_, _], _ => rfl
  have D_Window_need_cell : Dfn l.prog w K mg base T 3 m_Window_need_cell ["self", "at"] [] (sp_Window_need_cell K a) := dfn_by (fun_mk (st := st_Window_need_cell) l_Window_need_cell co_Window_need_cell k_Window_need_cell) b_Window_need_cell sc_Window_need_cell (by
      intro ds M R RX h
      first
        | (obtain ⟨rfl, _⟩ := h; rfl)
        | (obtain ⟨_, rfl, _⟩ := h; rfl)
        | (obtain ⟨_, _, rfl, _⟩ := h; rfl)
        | (obtain ⟨_, _, _, rfl, _⟩ := h; rfl)
        | (obtain ⟨_, _, _, _, rfl, _⟩ := h; rfl)
        | (obtain ⟨_, _, _, _, _, rfl, _⟩ := h; rfl)
        | (obtain ⟨_, _, _, _, _, _, rfl, _⟩ := h; rfl)
        | (obtain ⟨_, _, _, _, _, _, _, rfl, _⟩ := h; rfl)
        | (obtain ⟨_, _, _, _, _, _, _, _, rfl, _⟩ := h; rfl)
        | (obtain ⟨_, _, _, _, _, _, _, _, _, rfl, _⟩ := h; rfl)
        | (obtain ⟨_, _, _, _, _, _, _, _, _, _, rfl, _⟩ := h; rfl)
        | (obtain ⟨_, _, _, _, _, _, _, _, _, _, _, rfl, _⟩ := h; rfl)
        | (obtain ⟨_, _, _, _, _, _, _, _, _, _, _, _, rfl, _⟩ := h; rfl)
        | (obtain ⟨_, _, _, _, _, _, _, _, _, _, _, _, _, rfl, _⟩ := h; rfl)
        | (obtain ⟨_, _, _, _, _, _, _, _, _, _, _, _, _, _, rfl, _⟩ := h; rfl)
        | (obtain ⟨_, _, _, _, _, _, _, _, _, _, _, _, _, _, _, rfl, _⟩ := h; rfl)
        | (obtain rfl := h; rfl)) (d_Window_need_cell Y D_is_integer) fun ds M R RX h => r_Window_need_cell Y h
  have D__law_side___law_rule : CloOk l.prog w K mg base T 3 ct__law_side___law_rule (sp__law_side___law_rule K a) := clo_by sc__law_side___law_rule (fun _ _ _ _ _ us hl => match us, hl with | [_, _], _ => rfl) (by
      intro ws ds M R RX h
      first
        | (obtain ⟨rfl, _⟩ := h; rfl)
        | (obtain ⟨_, rfl, _⟩ := h; rfl)
        | (obtain ⟨_, rfl, _⟩ := h; rfl)
        | (obtain ⟨_, _, rfl, _⟩ := h; rfl)
        | (obtain ⟨_, _, rfl, _⟩ := h; rfl)
        | (obtain ⟨_, _, _, rfl, _⟩ := h; rfl)
        | (obtain ⟨_, _, _, rfl, _⟩ := h; rfl)
        | (obtain ⟨_, _, _, _, rfl, _⟩ := h; rfl)
        | (obtain ⟨_, _, _, _, rfl, _⟩ := h; rfl)
        | (obtain ⟨_, _, _, _, _, rfl, _⟩ := h; rfl)
        | (obtain ⟨_, _, _, _, _, rfl, _⟩ := h; rfl)
        | (obtain ⟨_, _, _, _, _, _, rfl, _⟩ := h; rfl)
        | (obtain ⟨_, _, _, _, _, _, rfl, _⟩ := h; rfl)
        | (obtain ⟨_, _, _, _, _, _, _, rfl, _⟩ := h; rfl)
        | (obtain ⟨_, _, _, _, _, _, _, rfl, _⟩ := h; rfl)
        | (obtain ⟨_, _, _, _, _, _, _, _, rfl, _⟩ := h; rfl)
        | (obtain ⟨_, _, _, _, _, _, _, _, rfl, _⟩ := h; rfl)
        | (obtain ⟨_, _, _, _, _, _, _, _, _, rfl, _⟩ := h; rfl)
        | (obtain ⟨_, _, _, _, _, _, _, _, _, rfl, _⟩ := h; rfl)
        | (obtain ⟨_, _, _, _, _, _, _, _, _, _, rfl, _⟩ := h; rfl)
        | (obtain ⟨_, _, _, _, _, _, _, _, _, _, rfl, _⟩ := h; rfl)
        | (obtain ⟨_, _, _, _, _, _, _, _, _, _, _, rfl, _⟩ := h; rfl)
        | (obtain ⟨_, _, _, _, _, _, _, _, _, _, _, rfl, _⟩ := h; rfl)
        | (obtain ⟨_, _, _, _, _, _, _, _, _, _, _, _, rfl, _⟩ := h; rfl)
        | (obtain ⟨_, _, _, _, _, _, _, _, _, _, _, _, rfl, _⟩ := h; rfl)
        | (obtain ⟨_, _, _, _, _, _, _, _, _, _, _, _, _, rfl, _⟩ := h; rfl)
        | (obtain ⟨_, _, _, _, _, _, _, _, _, _, _, _, _, rfl, _⟩ := h; rfl)
        | (obtain ⟨_, _, _, _, _, _, _, _, _, _, _, _, _, _, rfl, _⟩ := h; rfl)
        | (obtain ⟨_, _, _, _, _, _, _, _, _, _, _, _, _, _, rfl, _⟩ := h; rfl)
        | (obtain ⟨_, _, _, _, _, _, _, _, _, _, _, _, _, _, _, rfl, _⟩ := h; rfl)
        | (obtain ⟨_, _, _, _, _, _, _, _, _, _, _, _, _, _, _, rfl, _⟩ := h; rfl)
        | (obtain ⟨_, _, _, _, _, _, _, _, _, _, _, _, _, _, _, _, rfl, _⟩ := h; rfl)) (d__law_side___law_rule Y D_Window_marks) fun ws ds M R RX h hw => r__law_side___law_rule Y h hw
  have F_Window___init__ : FunD K "__init__" "Window.__init__" (defArgs st_Window___init__) (defBody st_Window___init__) (defScope st_Window___init__) [] [("rule", V.non)] m_Window___init__ _ := ⟨⟨_, _, _, _, _, _, _, _, _, _, rfl, l_Window___init__, co_Window___init__, .inl ⟨rfl, rfl⟩, .inr ⟨_, rfl, (List.forall_mem_cons.mpr ⟨⟨_, kd_Window___init___rule, rfl⟩, fun _ z => by simp at z⟩)⟩⟩, k_Window___init__⟩
  have G_Window___init__ : ∀ B, FnG l.prog w K mg base 5 m_Window___init__ _ ["self", "marks", "rule"] (toSp K ⟨T, B⟩ (sp_Window___init__ K a)) := fn_by l_Window___init__ co_Window___init__ sc_Window___init__ (by
      intro ds M R RX h
      first
        | (obtain ⟨rfl, _⟩ := h; rfl)
        | (obtain ⟨_, rfl, _⟩ := h; rfl)
        | (obtain ⟨_, _, rfl, _⟩ := h; rfl)
        | (obtain ⟨_, _, _, rfl, _⟩ := h; rfl)
        | (obtain ⟨_, _, _, _, rfl, _⟩ := h; rfl)
        | (obtain ⟨_, _, _, _, _, rfl, _⟩ := h; rfl)
        | (obtain ⟨_, _, _, _, _, _, rfl, _⟩ := h; rfl)
        | (obtain ⟨_, _, _, _, _, _, _, rfl, _⟩ := h; rfl)
        | (obtain ⟨_, _, _, _, _, _, _, _, rfl, _⟩ := h; rfl)
        | (obtain ⟨_, _, _, _, _, _, _, _, _, rfl, _⟩ := h; rfl)
        | (obtain ⟨_, _, _, _, _, _, _, _, _, _, rfl, _⟩ := h; rfl)
        | (obtain ⟨_, _, _, _, _, _, _, _, _, _, _, rfl, _⟩ := h; rfl)
        | (obtain ⟨_, _, _, _, _, _, _, _, _, _, _, _, rfl, _⟩ := h; rfl)
        | (obtain ⟨_, _, _, _, _, _, _, _, _, _, _, _, _, rfl, _⟩ := h; rfl)
        | (obtain ⟨_, _, _, _, _, _, _, _, _, _, _, _, _, _, rfl, _⟩ := h; rfl)
        | (obtain ⟨_, _, _, _, _, _, _, _, _, _, _, _, _, _, _, rfl, _⟩ := h; rfl)
        | (obtain rfl := h; rfl)) ((d_Window___init__ Y D_are_marks D_Array___init__).one _) fun ds M R RX h => r_Window___init__ Y h
  have D_Window___init__ : DfnK l.prog w K mg base T 5 m_Window___init__ ["self", "marks", "rule"] 2 ["rule"] (fun vs zs => vs ++ zs) (sp_Window___init__ K a) := by
    obtain ⟨mv, kb⟩ := FunD.kbinds0 F_Window___init__ (ps := ["self", "marks", "rule"]) 2 ["rule"] [] (fun us _ ws => us ++ ws) (by simp) (fun _ z => by simp at z) (fun r1 _ r3 => r1.append r3) fun _ _ _ _ _ _ us _ ws h1 _ h3 => match us, ws, h1, h3 with | [_, _], [_], _, _ => rfl
    exact ⟨⟨_, _, _, G_Window___init__, kb, fun _ _ _ _ _ i1 i2 => i1.append i2⟩⟩
  have D_Window___init__0 : Dfn l.prog w K mg base T 5 m_Window___init__ ["self", "marks", "rule"] [.non] (sp_Window___init__ K a) := by
    obtain ⟨ds, dv, bn⟩ := FunD.binds0 F_Window___init__ (ps := ["self", "marks", "rule"]) 2 (by simp) rfl fun _ _ _ _ _ _ us ks h1 h2 => match us, ks, h1, h2 with | [_, _], [_], _, _ => ⟨_, _, _, _, _, _, rfl, rfl, rfl⟩
    exact ⟨⟨_, ds, _, G_Window___init__, bn, dv, fun _ => .cons .non .nil⟩, k_Window___init__⟩
  have b_Window___setitem__ : Binds K _ ["self", "at", "mark"] [] := (fun_mk (st := st_Window___setitem__) l_Window___setitem__ co_Window___setitem__ k_Window___setitem__).binds (ps := ["self", "at", "mark"]) fun _ _ _ _ _ _ us hl => match us, hl with | [_, _, _], _ => rfl
  have D_Window___setitem__ : Dfn l.prog w K mg base T 5 m_Window___setitem__ ["self", "at", "mark"] [] (sp_Window___setitem__ K a) := dfn_by (fun_mk (st := st_Window___setitem__) l_Window___setitem__ co_Window___setitem__ k_Window___setitem__) b_Window___setitem__ sc_Window___setitem__ (by
      intro ds M R RX h
      first
        | (obtain ⟨rfl, _⟩ := h; rfl)
        | (obtain ⟨_, rfl, _⟩ := h; rfl)
        | (obtain ⟨_, _, rfl, _⟩ := h; rfl)
        | (obtain ⟨_, _, _, rfl, _⟩ := h; rfl)
        | (obtain ⟨_, _, _, _, rfl, _⟩ := h; rfl)
        | (obtain ⟨_, _, _, _, _, rfl, _⟩ := h; rfl)
        | (obtain ⟨_, _, _, _, _, _, rfl, _⟩ := h; rfl)
        | (obtain ⟨_, _, _, _, _, _, _, rfl, _⟩ := h; rfl)
        | (obtain ⟨_, _, _, _, _, _, _, _, rfl, _⟩ := h; rfl)
        | (obtain ⟨_, _, _, _, _, _, _, _, _, rfl, _⟩ := h; rfl)
        | (obtain ⟨_, _, _, _, _, _, _, _, _, _, rfl, _⟩ := h; rfl)
        | (obtain ⟨_, _, _, _, _, _, _, _, _, _, _, rfl, _⟩ := h; rfl)
        | (obtain ⟨_, _, _, _, _, _, _, _, _, _, _, _, rfl, _⟩ := h; rfl)
        | (obtain ⟨_, _, _, _, _, _, _, _, _, _, _, _, _, rfl, _⟩ := h; rfl)
        | (obtain ⟨_, _, _, _, _, _, _, _, _, _, _, _, _, _, rfl, _⟩ := h; rfl)
        | (obtain ⟨_, _, _, _, _, _, _, _, _, _, _, _, _, _, _, rfl, _⟩ := h; rfl)
        | (obtain rfl := h; rfl)) (d_Window___setitem__ Y D_Window_need_cell) fun ds M R RX h => r_Window___setitem__ Y h
  have b_Window_new_room : Binds K _ ["self", "needed"] [] := (fun_mk (st := st_Window_new_room) l_Window_new_room co_Window_new_room k_Window_new_room).binds (ps := ["self", "needed"]) fun _ _ _ _ _ _ us hl => match us, hl with | [_, _], _ => rfl
  have D_Window_new_room : Dfn l.prog w K mg base T 5 m_Window_new_room ["self", "needed"] [] (sp_Window_new_room K a) := dfn_by (fun_mk (st := st_Window_new_room) l_Window_new_room co_Window_new_room k_Window_new_room) b_Window_new_room sc_Window_new_room (by
      intro ds M R RX h
      first
        | (obtain ⟨rfl, _⟩ := h; rfl)
        | (obtain ⟨_, rfl, _⟩ := h; rfl)
        | (obtain ⟨_, _, rfl, _⟩ := h; rfl)
        | (obtain ⟨_, _, _, rfl, _⟩ := h; rfl)
        | (obtain ⟨_, _, _, _, rfl, _⟩ := h; rfl)
        | (obtain ⟨_, _, _, _, _, rfl, _⟩ := h; rfl)
        | (obtain ⟨_, _, _, _, _, _, rfl, _⟩ := h; rfl)
        | (obtain ⟨_, _, _, _, _, _, _, rfl, _⟩ := h; rfl)
        | (obtain ⟨_, _, _, _, _, _, _, _, rfl, _⟩ := h; rfl)
        | (obtain ⟨_, _, _, _, _, _, _, _, _, rfl, _⟩ := h; rfl)
        | (obtain ⟨_, _, _, _, _, _, _, _, _, _, rfl, _⟩ := h; rfl)
        | (obtain ⟨_, _, _, _, _, _, _, _, _, _, _, rfl, _⟩ := h; rfl)
        | (obtain ⟨_, _, _, _, _, _, _, _, _, _, _, _, rfl, _⟩ := h; rfl)
        | (obtain ⟨_, _, _, _, _, _, _, _, _, _, _, _, _, rfl, _⟩ := h; rfl)
        | (obtain ⟨_, _, _, _, _, _, _, _, _, _, _, _, _, _, rfl, _⟩ := h; rfl)
        | (obtain ⟨_, _, _, _, _, _, _, _, _, _, _, _, _, _, _, rfl, _⟩ := h; rfl)
        | (obtain rfl := h; rfl)) (d_Window_new_room Y D__law_side___law_rule D__law_far_right___law_rule D_is_integer) fun ds M R RX h => r_Window_new_room Y h
  have b_Window_copied : Binds K _ ["self"] [] := (fun_mk (st := st_Window_copied) l_Window_copied co_Window_copied k_Window_copied).binds (ps := ["self"]) fun _ _ _ _ _ _ us hl => match us, hl with | [_], _ => rfl
  have D_Window_copied : Dfn l.prog w K mg base T 7 m_Window_copied ["self"] [] (sp_Window_copied K a) := dfn_by (fun_mk (st := st_Window_copied) l_Window_copied co_Window_copied k_Window_copied) b_Window_copied sc_Window_copied (by
      intro ds M R RX h
      first
        | (obtain ⟨rfl, _⟩ := h; rfl)
        | (obtain ⟨_, rfl, _⟩ := h; rfl)
        | (obtain ⟨_, _, rfl, _⟩ := h; rfl)
        | (obtain ⟨_, _, _, rfl, _⟩ := h; rfl)
        | (obtain ⟨_, _, _, _, rfl, _⟩ := h; rfl)
        | (obtain ⟨_, _, _, _, _, rfl, _⟩ := h; rfl)
        | (obtain ⟨_, _, _, _, _, _, rfl, _⟩ := h; rfl)
        | (obtain ⟨_, _, _, _, _, _, _, rfl, _⟩ := h; rfl)
        | (obtain ⟨_, _, _, _, _, _, _, _, rfl, _⟩ := h; rfl)
        | (obtain ⟨_, _, _, _, _, _, _, _, _, rfl, _⟩ := h; rfl)
        | (obtain ⟨_, _, _, _, _, _, _, _, _, _, rfl, _⟩ := h; rfl)
        | (obtain ⟨_, _, _, _, _, _, _, _, _, _, _, rfl, _⟩ := h; rfl)
        | (obtain ⟨_, _, _, _, _, _, _, _, _, _, _, _, rfl, _⟩ := h; rfl)
        | (obtain ⟨_, _, _, _, _, _, _, _, _, _, _, _, _, rfl, _⟩ := h; rfl)
        | (obtain ⟨_, _, _, _, _, _, _, _, _, _, _, _, _, _, rfl, _⟩ := h; rfl)
        | (obtain ⟨_, _, _, _, _, _, _, _, _, _, _, _, _, _, _, rfl, _⟩ := h; rfl)
        | (obtain rfl := h; rfl)) (d_Window_copied Y D_Window___init__ D_Window_marks) fun ds M R RX h => r_Window_copied Y h
  have b_window_on : Binds K _ ["array", "length", "rule"] [] := (fun_mk (st := st_window_on) l_window_on co_window_on k_window_on).binds (ps := ["array", "length", "rule"]) fun _ _ _ _ _ _ us hl => match us, hl with | [_, _, _], _ => rfl
  have D_window_on : Dfn l.prog w K mg base T 7 f_window_on ["array", "length", "rule"] [] (sp_window_on K a) := dfn_by (fun_mk (st := st_window_on) l_window_on co_window_on k_window_on) b_window_on sc_window_on (by
      intro ds M R RX h
      first
        | (obtain ⟨rfl, _⟩ := h; rfl)
        | (obtain ⟨_, rfl, _⟩ := h; rfl)
        | (obtain ⟨_, _, rfl, _⟩ := h; rfl)
        | (obtain ⟨_, _, _, rfl, _⟩ := h; rfl)
        | (obtain ⟨_, _, _, _, rfl, _⟩ := h; rfl)
        | (obtain ⟨_, _, _, _, _, rfl, _⟩ := h; rfl)
        | (obtain ⟨_, _, _, _, _, _, rfl, _⟩ := h; rfl)
        | (obtain ⟨_, _, _, _, _, _, _, rfl, _⟩ := h; rfl)
        | (obtain ⟨_, _, _, _, _, _, _, _, rfl, _⟩ := h; rfl)
        | (obtain ⟨_, _, _, _, _, _, _, _, _, rfl, _⟩ := h; rfl)
        | (obtain ⟨_, _, _, _, _, _, _, _, _, _, rfl, _⟩ := h; rfl)
        | (obtain ⟨_, _, _, _, _, _, _, _, _, _, _, rfl, _⟩ := h; rfl)
        | (obtain ⟨_, _, _, _, _, _, _, _, _, _, _, _, rfl, _⟩ := h; rfl)
        | (obtain ⟨_, _, _, _, _, _, _, _, _, _, _, _, _, rfl, _⟩ := h; rfl)
        | (obtain ⟨_, _, _, _, _, _, _, _, _, _, _, _, _, _, rfl, _⟩ := h; rfl)
        | (obtain ⟨_, _, _, _, _, _, _, _, _, _, _, _, _, _, _, rfl, _⟩ := h; rfl)
        | (obtain rfl := h; rfl)) (d_window_on Y D_Window___init__) fun ds M R RX h => r_window_on Y h
  have b_Window_cut : Binds K _ ["self", "many"] [] := (fun_mk (st := st_Window_cut) l_Window_cut co_Window_cut k_Window_cut).binds (ps := ["self", "many"]) fun _ _ _ _ _ _ us hl => match us, hl with | [_, _], _ => rfl
  have D_Window_cut : Dfn l.prog w K mg base T 9 m_Window_cut ["self", "many"] [] (sp_Window_cut K a) := dfn_by (fun_mk (st := st_Window_cut) l_Window_cut co_Window_cut k_Window_cut) b_Window_cut sc_Window_cut (by
      intro ds M R RX h
      first
        | (obtain ⟨rfl, _⟩ := h; rfl)
        | (obtain ⟨_, rfl, _⟩ := h; rfl)
        | (obtain ⟨_, _, rfl, _⟩ := h; rfl)
        | (obtain ⟨_, _, _, rfl, _⟩ := h; rfl)
        | (obtain ⟨_, _, _, _, rfl, _⟩ := h; rfl)
        | (obtain ⟨_, _, _, _, _, rfl, _⟩ := h; rfl)
        | (obtain ⟨_, _, _, _, _, _, rfl, _⟩ := h; rfl)
        | (obtain ⟨_, _, _, _, _, _, _, rfl, _⟩ := h; rfl)
        | (obtain ⟨_, _, _, _, _, _, _, _, rfl, _⟩ := h; rfl)
        | (obtain ⟨_, _, _, _, _, _, _, _, _, rfl, _⟩ := h; rfl)
        | (obtain ⟨_, _, _, _, _, _, _, _, _, _, rfl, _⟩ := h; rfl)
        | (obtain ⟨_, _, _, _, _, _, _, _, _, _, _, rfl, _⟩ := h; rfl)
        | (obtain ⟨_, _, _, _, _, _, _, _, _, _, _, _, rfl, _⟩ := h; rfl)
        | (obtain ⟨_, _, _, _, _, _, _, _, _, _, _, _, _, rfl, _⟩ := h; rfl)
        | (obtain ⟨_, _, _, _, _, _, _, _, _, _, _, _, _, _, rfl, _⟩ := h; rfl)
        | (obtain ⟨_, _, _, _, _, _, _, _, _, _, _, _, _, _, _, rfl, _⟩ := h; rfl)
        | (obtain rfl := h; rfl)) (d_Window_cut Y D_is_integer D_window_on) fun ds M R RX h => r_Window_cut Y h
  have b_Window_put : Binds K _ ["self", "marks"] [] := (fun_mk (st := st_Window_put) l_Window_put co_Window_put k_Window_put).binds (ps := ["self", "marks"]) fun _ _ _ _ _ _ us hl => match us, hl with | [_, _], _ => rfl
  have D_Window_put : Dfn l.prog w K mg base T 9 m_Window_put ["self", "marks"] [] (sp_Window_put K a) := dfn_by (fun_mk (st := st_Window_put) l_Window_put co_Window_put k_Window_put) b_Window_put sc_Window_put (by
      intro ds M R RX h
      first
        | (obtain ⟨rfl, _⟩ := h; rfl)
        | (obtain ⟨_, rfl, _⟩ := h; rfl)
        | (obtain ⟨_, _, rfl, _⟩ := h; rfl)
        | (obtain ⟨_, _, _, rfl, _⟩ := h; rfl)
        | (obtain ⟨_, _, _, _, rfl, _⟩ := h; rfl)
        | (obtain ⟨_, _, _, _, _, rfl, _⟩ := h; rfl)
        | (obtain ⟨_, _, _, _, _, _, rfl, _⟩ := h; rfl)
        | (obtain ⟨_, _, _, _, _, _, _, rfl, _⟩ := h; rfl)
        | (obtain ⟨_, _, _, _, _, _, _, _, rfl, _⟩ := h; rfl)
        | (obtain ⟨_, _, _, _, _, _, _, _, _, rfl, _⟩ := h; rfl)
        | (obtain ⟨_, _, _, _, _, _, _, _, _, _, rfl, _⟩ := h; rfl)
        | (obtain ⟨_, _, _, _, _, _, _, _, _, _, _, rfl, _⟩ := h; rfl)
        | (obtain ⟨_, _, _, _, _, _, _, _, _, _, _, _, rfl, _⟩ := h; rfl)
        | (obtain ⟨_, _, _, _, _, _, _, _, _, _, _, _, _, rfl, _⟩ := h; rfl)
        | (obtain ⟨_, _, _, _, _, _, _, _, _, _, _, _, _, _, rfl, _⟩ := h; rfl)
        | (obtain ⟨_, _, _, _, _, _, _, _, _, _, _, _, _, _, _, rfl, _⟩ := h; rfl)
        | (obtain rfl := h; rfl)) (d_Window_put Y D_window_on D_Array___init__ D_Window_marks D_Window_new_room) fun ds M R RX h => r_Window_put Y h
  have b_Window___iadd__ : Binds K _ ["self", "marks"] [] := (fun_mk (st := st_Window___iadd__) l_Window___iadd__ co_Window___iadd__ k_Window___iadd__).binds (ps := ["self", "marks"]) fun _ _ _ _ _ _ us hl => match us, hl with | [_, _], _ => rfl
  have D_Window___iadd__ : Dfn l.prog w K mg base T 11 m_Window___iadd__ ["self", "marks"] [] (sp_Window___iadd__ K a) := dfn_by (fun_mk (st := st_Window___iadd__) l_Window___iadd__ co_Window___iadd__ k_Window___iadd__) b_Window___iadd__ sc_Window___iadd__ (by
      intro ds M R RX h
      first
        | (obtain ⟨rfl, _⟩ := h; rfl)
        | (obtain ⟨_, rfl, _⟩ := h; rfl)
        | (obtain ⟨_, _, rfl, _⟩ := h; rfl)
        | (obtain ⟨_, _, _, rfl, _⟩ := h; rfl)
        | (obtain ⟨_, _, _, _, rfl, _⟩ := h; rfl)
        | (obtain ⟨_, _, _, _, _, rfl, _⟩ := h; rfl)
        | (obtain ⟨_, _, _, _, _, _, rfl, _⟩ := h; rfl)
        | (obtain ⟨_, _, _, _, _, _, _, rfl, _⟩ := h; rfl)
        | (obtain ⟨_, _, _, _, _, _, _, _, rfl, _⟩ := h; rfl)
        | (obtain ⟨_, _, _, _, _, _, _, _, _, rfl, _⟩ := h; rfl)
        | (obtain ⟨_, _, _, _, _, _, _, _, _, _, rfl, _⟩ := h; rfl)
        | (obtain ⟨_, _, _, _, _, _, _, _, _, _, _, rfl, _⟩ := h; rfl)
        | (obtain ⟨_, _, _, _, _, _, _, _, _, _, _, _, rfl, _⟩ := h; rfl)
        | (obtain ⟨_, _, _, _, _, _, _, _, _, _, _, _, _, rfl, _⟩ := h; rfl)
        | (obtain ⟨_, _, _, _, _, _, _, _, _, _, _, _, _, _, rfl, _⟩ := h; rfl)
        | (obtain ⟨_, _, _, _, _, _, _, _, _, _, _, _, _, _, _, rfl, _⟩ := h; rfl)
        | (obtain rfl := h; rfl)) (d_Window___iadd__ Y D_Window_put) fun ds M R RX h => r_Window___iadd__ Y h
  have b__law_other : Binds K _ ["_law_bag_here", "_law_windows", "_law_spots"] [] := (fun_mk (st := st__law_other) l__law_other co__law_other k__law_other).binds (ps := ["_law_bag_here", "_law_windows", "_law_spots"]) fun _ _ _ _ _ _ us hl => match us, hl with | [_, _, _], _ => rfl
  have D__law_other : Dfn l.prog w K mg base T 11 f__law_other ["_law_bag_here", "_law_windows", "_law_spots"] [] (sp__law_other K a) := dfn_by (fun_mk (st := st__law_other) l__law_other co__law_other k__law_other) b__law_other sc__law_other (by
      intro ds M R RX h
      first
        | (obtain ⟨rfl, _⟩ := h; rfl)
        | (obtain ⟨_, rfl, _⟩ := h; rfl)
        | (obtain ⟨_, _, rfl, _⟩ := h; rfl)
        | (obtain ⟨_, _, _, rfl, _⟩ := h; rfl)
        | (obtain ⟨_, _, _, _, rfl, _⟩ := h; rfl)
        | (obtain ⟨_, _, _, _, _, rfl, _⟩ := h; rfl)
        | (obtain ⟨_, _, _, _, _, _, rfl, _⟩ := h; rfl)
        | (obtain ⟨_, _, _, _, _, _, _, rfl, _⟩ := h; rfl)
        | (obtain ⟨_, _, _, _, _, _, _, _, rfl, _⟩ := h; rfl)
        | (obtain ⟨_, _, _, _, _, _, _, _, _, rfl, _⟩ := h; rfl)
        | (obtain ⟨_, _, _, _, _, _, _, _, _, _, rfl, _⟩ := h; rfl)
        | (obtain ⟨_, _, _, _, _, _, _, _, _, _, _, rfl, _⟩ := h; rfl)
        | (obtain ⟨_, _, _, _, _, _, _, _, _, _, _, _, rfl, _⟩ := h; rfl)
        | (obtain ⟨_, _, _, _, _, _, _, _, _, _, _, _, _, rfl, _⟩ := h; rfl)
        | (obtain ⟨_, _, _, _, _, _, _, _, _, _, _, _, _, _, rfl, _⟩ := h; rfl)
        | (obtain ⟨_, _, _, _, _, _, _, _, _, _, _, _, _, _, _, rfl, _⟩ := h; rfl)
        | (obtain rfl := h; rfl)) (d__law_other Y D__law_take D_Window___len__ D_Window_cut D_Window_room D_Window_copied D_Window___setitem__) fun ds M R RX h => r__law_other Y h
  have b__law_far_right : Binds K _ [] [] := (fun_mk (st := st__law_far_right) l__law_far_right co__law_far_right k__law_far_right).binds (ps := []) fun _ _ _ _ _ _ us hl => match us, hl with | [], _ => rfl
  have D__law_far_right : Dfn l.prog w K mg base T 11 f__law_far_right [] [] (sp__law_far_right K a) := ⟨⟨_, [], [], fn_by l__law_far_right co__law_far_right sc__law_far_right (by
      intro ds M R RX h
      first
        | (obtain ⟨rfl, _⟩ := h; rfl)
        | (obtain ⟨_, rfl, _⟩ := h; rfl)
        | (obtain ⟨_, _, rfl, _⟩ := h; rfl)
        | (obtain ⟨_, _, _, rfl, _⟩ := h; rfl)
        | (obtain ⟨_, _, _, _, rfl, _⟩ := h; rfl)
        | (obtain ⟨_, _, _, _, _, rfl, _⟩ := h; rfl)
        | (obtain ⟨_, _, _, _, _, _, rfl, _⟩ := h; rfl)
        | (obtain ⟨_, _, _, _, _, _, _, rfl, _⟩ := h; rfl)
        | (obtain ⟨_, _, _, _, _, _, _, _, rfl, _⟩ := h; rfl)
        | (obtain ⟨_, _, _, _, _, _, _, _, _, rfl, _⟩ := h; rfl)
        | (obtain ⟨_, _, _, _, _, _, _, _, _, _, rfl, _⟩ := h; rfl)
        | (obtain ⟨_, _, _, _, _, _, _, _, _, _, _, rfl, _⟩ := h; rfl)
        | (obtain ⟨_, _, _, _, _, _, _, _, _, _, _, _, rfl, _⟩ := h; rfl)
        | (obtain ⟨_, _, _, _, _, _, _, _, _, _, _, _, _, rfl, _⟩ := h; rfl)
        | (obtain ⟨_, _, _, _, _, _, _, _, _, _, _, _, _, _, rfl, _⟩ := h; rfl)
        | (obtain ⟨_, _, _, _, _, _, _, _, _, _, _, _, _, _, _, rfl, _⟩ := h; rfl)
        | (obtain rfl := h; rfl)) (d__law_far_right Y D_Window___init__ D_Window_put D_Window_cut D_Window_room D_Window_spare D_Window_marks D_Window_shares D_Window_copied tb__law_far_right hm__law_far_right hu__law_far_right rfl) fun ds M R RX h => r__law_far_right Y h, b__law_far_right, .nil, fun _ => .nil⟩, k__law_far_right⟩
  have b__law_grown : Binds K _ ["_law_bag_here", "_law_windows", "_law_spots", "_law_calls", "_law_notes"] [] := (fun_mk (st := st__law_grown) l__law_grown co__law_grown k__law_grown).binds (ps := ["_law_bag_here", "_law_windows", "_law_spots", "_law_calls", "_law_notes"]) fun _ _ _ _ _ _ us hl => match us, hl with | [_, _, _, _, _], _ => rfl
  have D__law_grown : Dfn l.prog w K mg base T 13 f__law_grown ["_law_bag_here", "_law_windows", "_law_spots", "_law_calls", "_law_notes"] [] (sp__law_grown K a) := dfn_by (fun_mk (st := st__law_grown) l__law_grown co__law_grown k__law_grown) b__law_grown sc__law_grown (by
      intro ds M R RX h
      first
        | (obtain ⟨rfl, _⟩ := h; rfl)
        | (obtain ⟨_, rfl, _⟩ := h; rfl)
        | (obtain ⟨_, _, rfl, _⟩ := h; rfl)
        | (obtain ⟨_, _, _, rfl, _⟩ := h; rfl)
        | (obtain ⟨_, _, _, _, rfl, _⟩ := h; rfl)
        | (obtain ⟨_, _, _, _, _, rfl, _⟩ := h; rfl)
        | (obtain ⟨_, _, _, _, _, _, rfl, _⟩ := h; rfl)
        | (obtain ⟨_, _, _, _, _, _, _, rfl, _⟩ := h; rfl)
        | (obtain ⟨_, _, _, _, _, _, _, _, rfl, _⟩ := h; rfl)
        | (obtain ⟨_, _, _, _, _, _, _, _, _, rfl, _⟩ := h; rfl)
        | (obtain ⟨_, _, _, _, _, _, _, _, _, _, rfl, _⟩ := h; rfl)
        | (obtain ⟨_, _, _, _, _, _, _, _, _, _, _, rfl, _⟩ := h; rfl)
        | (obtain ⟨_, _, _, _, _, _, _, _, _, _, _, _, rfl, _⟩ := h; rfl)
        | (obtain ⟨_, _, _, _, _, _, _, _, _, _, _, _, _, rfl, _⟩ := h; rfl)
        | (obtain ⟨_, _, _, _, _, _, _, _, _, _, _, _, _, _, rfl, _⟩ := h; rfl)
        | (obtain ⟨_, _, _, _, _, _, _, _, _, _, _, _, _, _, _, rfl, _⟩ := h; rfl)
        | (obtain rfl := h; rfl)) (d__law_grown Y D__law_take D_Window___len__ D_Window_marks D_Window_room D_Window___iadd__ D_Window_put) fun ds M R RX h => r__law_grown Y h
  have b_law : Binds K _ ["_law_script"] [] := (fun_mk (st := st_law) l_law co_law k_law).binds (ps := ["_law_script"]) fun _ _ _ _ _ _ us hl => match us, hl with | [_], _ => rfl
  have D_law : Dfn l.prog w K mg base T 15 f_law ["_law_script"] [] (sp_law K a) := dfn_by (fun_mk (st := st_law) l_law co_law k_law) b_law sc_law (by
      intro ds M R RX h
      first
        | (obtain ⟨rfl, _⟩ := h; rfl)
        | (obtain ⟨_, rfl, _⟩ := h; rfl)
        | (obtain ⟨_, _, rfl, _⟩ := h; rfl)
        | (obtain ⟨_, _, _, rfl, _⟩ := h; rfl)
        | (obtain ⟨_, _, _, _, rfl, _⟩ := h; rfl)
        | (obtain ⟨_, _, _, _, _, rfl, _⟩ := h; rfl)
        | (obtain ⟨_, _, _, _, _, _, rfl, _⟩ := h; rfl)
        | (obtain ⟨_, _, _, _, _, _, _, rfl, _⟩ := h; rfl)
        | (obtain ⟨_, _, _, _, _, _, _, _, rfl, _⟩ := h; rfl)
        | (obtain ⟨_, _, _, _, _, _, _, _, _, rfl, _⟩ := h; rfl)
        | (obtain ⟨_, _, _, _, _, _, _, _, _, _, rfl, _⟩ := h; rfl)
        | (obtain ⟨_, _, _, _, _, _, _, _, _, _, _, rfl, _⟩ := h; rfl)
        | (obtain ⟨_, _, _, _, _, _, _, _, _, _, _, _, rfl, _⟩ := h; rfl)
        | (obtain ⟨_, _, _, _, _, _, _, _, _, _, _, _, _, rfl, _⟩ := h; rfl)
        | (obtain ⟨_, _, _, _, _, _, _, _, _, _, _, _, _, _, rfl, _⟩ := h; rfl)
        | (obtain ⟨_, _, _, _, _, _, _, _, _, _, _, _, _, _, _, rfl, _⟩ := h; rfl)
        | (obtain rfl := h; rfl)) (d_law Y D__law_bag D__law_side D_Window___init__ D__law_take D_Window___len__ D__law_grown D__law_other D_Window_room D_Window_put D_Window_cut D_Window_copied D__law_far_right D_Window___init__0) fun ds M R RX h => r_law Y h
  exact D_law
end Q
open PySem PySem.W PyProof.Rows in
set_option maxRecDepth 100000 in
set_option maxHeartbeats 0 in
theorem PySem.Challenge.cw_sparetails_k28_rules_called_holds : PySem.Challenge.rw_sparetails_k28_rules_called.Holds := by
  w_on; o_law; k_head; (case hw => w_witness2)
  k_fill
  refine SD.walk_sd (l := PySem.Challenge.rw_sparetails_k28_rules_called) (n := 63) (k := 15) (x := "_law_script") rfl (by decide) rfl ⟨⟨rfl, by decide, by decide⟩, rfl⟩ (fun w h Y => PySem.W.km_in_of Y) ?F
  case F =>
    intro w mg fa h YP KX G hmg
    have hT8 := PySem.W.km_tabs_of YP
    refine' Q.all_mk KX G hmg ?q_Window ?q_Array ?at_is_integer ?at_are_marks ?at_Array___init__ ?at_Window___init__ ?at_Window___len__ ?at_Window_need_cell ?at_Window___setitem__ ?at_Window_marks ?at_Window_room ?ge_Window_room ?ta_Window_room ?re_Window_room ?at_Window_spare ?ge_Window_spare ?ta_Window_spare ?re_Window_spare ?at_Window_shares ?at_Window_cut ?at_Window_copied ?at_Window_new_room ?at_Window_put ?at_Window___iadd__ ?at_window_on ?at__law_bag ?at__law_take ?at__law_grown ?at__law_other ?at__law_side ?at__law_far_right ?at_law ?fn_Array___init__ ?fn_Window___init__ ?fn_Window___len__ ?fn_Window_need_cell ?fn_Window___setitem__ ?fn_Window_marks ?fn_Window_shares ?fn_Window_cut ?fn_Window_copied ?fn_Window_new_room ?fn_Window_put ?fn_Window___iadd__ ?l_is_integer ?co_is_integer ?k_is_integer ?l_are_marks ?co_are_marks ?k_are_marks ?l_Array___init__ ?co_Array___init__ ?k_Array___init__ ?l_Window___init__ ?co_Window___init__ ?k_Window___init__ ?kd_Window___init___rule ?l_Window___len__ ?co_Window___len__ ?k_Window___len__ ?l_Window_need_cell ?co_Window_need_cell ?k_Window_need_cell ?l_Window___setitem__ ?co_Window___setitem__ ?k_Window___setitem__ ?l_Window_marks ?co_Window_marks ?k_Window_marks ?l_Window_room ?co_Window_room ?k_Window_room ?l_Window_spare ?co_Window_spare ?k_Window_spare ?l_Window_shares ?co_Window_shares ?k_Window_shares ?l_Window_cut ?co_Window_cut ?k_Window_cut ?l_Window_copied ?co_Window_copied ?k_Window_copied ?l_Window_new_room ?co_Window_new_room ?k_Window_new_room ?l_Window_put ?co_Window_put ?k_Window_put ?l_Window___iadd__ ?co_Window___iadd__ ?k_Window___iadd__ ?l_window_on ?co_window_on ?k_window_on ?l__law_bag ?co__law_bag ?k__law_bag ?l__law_take ?co__law_take ?k__law_take ?l__law_grown ?co__law_grown ?k__law_grown ?l__law_other ?co__law_other ?k__law_other ?l__law_side ?co__law_side ?k__law_side ?lc__law_side ?lp__law_side ?hc__law_side ?nt__law_side ?ht__law_side ?l__law_far_right ?co__law_far_right ?k__law_far_right ?lc__law_far_right ?lp__law_far_right ?hc__law_far_right ?nt__law_far_right ?ht__law_far_right ?l_law ?co_law ?k_law ?ne__law_side__law_far_right ?pg_Window ?hd_Window ?po_Window ?sa_Window ?ma_Array ?kc_Array ?ma_Window ?kc_Window ?n_abs ?n_all ?n_bool ?n_int ?n_isinstance ?n_len ?n_list ?n_range ?eq_Array ?ob_Array ?ns_Window ?sf_Window ?pg_Array ?hd_Array ?po_Array ?sa_Array ?no_Array_held ?no_Array_limit ?no_Window_its_array ?no_Window_its_length ?no_Window_its_rule
    (case q_Window => k_is)
    (case q_Array => k_is)
    (case at_is_integer => k_is)
    (case at_are_marks => k_is)
    (case at_Array___init__ => k_is)
    (case at_Window___init__ => k_is)
    (case at_Window___len__ => k_is)
    (case at_Window_need_cell => k_is)
    (case at_Window___setitem__ => k_is)
    (case at_Window_marks => k_is)
    (case at_Window_room => k_is)
    (case ge_Window_room => k_is)
    (case ta_Window_room => k_is)
    (case re_Window_room => k_is)
    (case at_Window_spare => k_is)
    (case ge_Window_spare => k_is)
    (case ta_Window_spare => k_is)
    (case re_Window_spare => k_is)
    (case at_Window_shares => k_is)
    (case at_Window_cut => k_is)
    (case at_Window_copied => k_is)
    (case at_Window_new_room => k_is)
    (case at_Window_put => k_is)
    (case at_Window___iadd__ => k_is)
    (case at_window_on => k_is)
    (case at__law_bag => k_is)
    (case at__law_take => k_is)
    (case at__law_grown => k_is)
    (case at__law_other => k_is)
    (case at__law_side => k_is)
    (case at__law_far_right => k_is)
    (case at_law => k_is)
    (case fn_Array___init__ => k_is)
    (case fn_Window___init__ => k_is)
    (case fn_Window___len__ => k_is)
    (case fn_Window_need_cell => k_is)
    (case fn_Window___setitem__ => k_is)
    (case fn_Window_marks => k_is)
    (case fn_Window_shares => k_is)
    (case fn_Window_cut => k_is)
    (case fn_Window_copied => k_is)
    (case fn_Window_new_room => k_is)
    (case fn_Window_put => k_is)
    (case fn_Window___iadd__ => k_is)
    (case l_is_integer => k_is)
    (case co_is_integer => k_is)
    (case k_is_integer => k_is)
    (case l_are_marks => k_is)
    (case co_are_marks => k_is)
    (case k_are_marks => k_is)
    (case l_Array___init__ => k_is)
    (case co_Array___init__ => k_is)
    (case k_Array___init__ => k_is)
    (case l_Window___init__ => k_is)
    (case co_Window___init__ => k_is)
    (case k_Window___init__ => k_is)
    (case kd_Window___init___rule => k_is)
    (case l_Window___len__ => k_is)
    (case co_Window___len__ => k_is)
    (case k_Window___len__ => k_is)
    (case l_Window_need_cell => k_is)
    (case co_Window_need_cell => k_is)
    (case k_Window_need_cell => k_is)
    (case l_Window___setitem__ => k_is)
    (case co_Window___setitem__ => k_is)
    (case k_Window___setitem__ => k_is)
    (case l_Window_marks => k_is)
    (case co_Window_marks => k_is)
    (case k_Window_marks => k_is)
    (case l_Window_room => k_is)
    (case co_Window_room => k_is)
    (case k_Window_room => k_is)
    (case l_Window_spare => k_is)
    (case co_Window_spare => k_is)
    (case k_Window_spare => k_is)
    (case l_Window_shares => k_is)
    (case co_Window_shares => k_is)
    (case k_Window_shares => k_is)
    (case l_Window_cut => k_is)
    (case co_Window_cut => k_is)
    (case k_Window_cut => k_is)
    (case l_Window_copied => k_is)
    (case co_Window_copied => k_is)
    (case k_Window_copied => k_is)
    (case l_Window_new_room => k_is)
    (case co_Window_new_room => k_is)
    (case k_Window_new_room => k_is)
    (case l_Window_put => k_is)
    (case co_Window_put => k_is)
    (case k_Window_put => k_is)
    (case l_Window___iadd__ => k_is)
    (case co_Window___iadd__ => k_is)
    (case k_Window___iadd__ => k_is)
    (case l_window_on => k_is)
    (case co_window_on => k_is)
    (case k_window_on => k_is)
    (case l__law_bag => k_is)
    (case co__law_bag => k_is)
    (case k__law_bag => k_is)
    (case l__law_take => k_is)
    (case co__law_take => k_is)
    (case k__law_take => k_is)
    (case l__law_grown => k_is)
    (case co__law_grown => k_is)
    (case k__law_grown => k_is)
    (case l__law_other => k_is)
    (case co__law_other => k_is)
    (case k__law_other => k_is)
    (case l__law_side => k_is)
    (case co__law_side => k_is)
    (case k__law_side => k_is)
    (case lc__law_side => k_is)
    (case lp__law_side => rfl)
    (case hc__law_side => kernel_rfl)
    (case nt__law_side => kernel_rfl)
    (case ht__law_side => exact hT8 _ (by k_mem))
    (case l__law_far_right => k_is)
    (case co__law_far_right => k_is)
    (case k__law_far_right => k_is)
    (case lc__law_far_right => k_is)
    (case lp__law_far_right => rfl)
    (case hc__law_far_right => kernel_rfl)
    (case nt__law_far_right => kernel_rfl)
    (case ht__law_far_right => exact hT8 _ (by k_mem))
    (case l_law => k_is)
    (case co_law => k_is)
    (case k_law => k_is)
    (case ne__law_side__law_far_right => decide)
    (case pg_Window => k_is)
    (case hd_Window => k_is)
    (case po_Window => k_is)
    (case sa_Window => k_is)
    (case ma_Array => k_is)
    (case kc_Array => k_is)
    (case ma_Window => k_is)
    (case kc_Window => k_is)
    (case n_abs => k_is)
    (case n_all => k_is)
    (case n_bool => k_is)
    (case n_int => k_is)
    (case n_isinstance => k_is)
    (case n_len => k_is)
    (case n_list => k_is)
    (case n_range => k_is)
    (case eq_Array => k_is)
    (case ob_Array => k_is)
    (case ns_Window => k_is)
    (case sf_Window => k_is)
    (case pg_Array => k_is)
    (case hd_Array => k_is)
    (case po_Array => k_is)
    (case sa_Array => k_is)
    (case no_Array_held => k_is)
    (case no_Array_limit => k_is)
    (case no_Window_its_array => k_is)
    (case no_Window_its_length => k_is)
    (case no_Window_its_rule => k_is)
