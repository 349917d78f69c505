import PyProof.Rows.All
import Wide.All
import OpenK.AllK
import Wide.FinOn
import HandS.ForMost
import HandS.IsInst
import HandS.Deep
import HandS.Defaults
import HandS.Steps
import HandS.More
import HandS.TryOnly
import HandS.HeadHook1
import HandS.HeadHook2
import KE.KStateDown
import Lean
import HandS.Head0
import HandS.Head1
import HandS.Head2
import HandS.HeadEnd
import PySem.Challenge.RW_gridwhole_k10_files_keep_a_beginning
set_option Elab.async false
set_option linter.all false
set_option maxRecDepth 100000
set_option maxHeartbeats 0
/-! DL: data that stands in a frozen region F of the heap, owned regions beside it, and what a def may do to them. -/
namespace DL
open PySem PySem.Spec L2

/-! ### regions -/
def emp : Hp := fun _ => Option.none
def cell (p : Addr) (o : HO) : Hp := fun a => if a = p then some o else Option.none
def un (F R : Hp) : Hp := fun a => match F a with | some o => some o | Option.none => R a
def Dj (A B : Hp) : Prop := ∀ a, A a ≠ Option.none → B a = Option.none
theorem ns {α : Type} {x : Option α} {a : α} (h : x = some a) : x ≠ Option.none := by rw [h]; intro q; cases q
theorem sn {α : Type} {x : Option α} (h : x ≠ Option.none) : ∃ a, x = some a := by
  cases x with
  | none => exact absurd rfl h
  | some a => exact ⟨a, rfl⟩
theorem Dj.symm {A B : Hp} (h : Dj A B) : Dj B A := fun a hb => by
  cases q : A a with
  | none => rfl
  | some o => exact absurd (h a (ns q)) hb
theorem cell_same {p : Addr} {o : HO} : cell p o p = some o := by unfold cell; rw [if_pos rfl]
theorem cell_ne {p a : Addr} {o : HO} (h : a ≠ p) : cell p o a = Option.none := by unfold cell; rw [if_neg h]
theorem cell_at {p a : Addr} {o : HO} (h : cell p o a ≠ Option.none) : a = p := by
  by_cases e : a = p
  · exact e
  · exact absurd (cell_ne e) h
theorem cell_some {p a : Addr} {o u : HO} (h : cell p o a = some u) : a = p ∧ u = o := by
  have e := cell_at (ns h)
  subst e
  rw [cell_same] at h
  cases h
  exact ⟨rfl, rfl⟩
theorem upd_cell {p : Addr} {o u : HO} : upd (cell p o) p u = cell p u := by
  funext b
  unfold upd cell
  split <;> rfl
theorem emp_dj {A : Hp} : Dj A emp := fun _ _ => rfl
theorem emp_same {A : Hp} : Same emp A := fun _ _ h => by cases h
theorem un_l {F R : Hp} : Same F (un F R) := fun a o h => by unfold un; rw [h]
theorem un_r {F R : Hp} (d : Dj F R) : Same R (un F R) := fun a o h => by
  unfold un
  cases q : F a with
  | none => exact h
  | some u =>
    have := d a (ns q)
    rw [this] at h
    cases h
theorem un_some {F R : Hp} {a : Addr} {o : HO} (h : un F R a = some o) : F a = some o ∨ (F a = Option.none ∧ R a = some o) := by
  unfold un at h
  cases q : F a with
  | none => rw [q] at h; exact .inr ⟨rfl, h⟩
  | some u => rw [q] at h; cases h; exact .inl rfl
theorem un_ne {F R : Hp} {a : Addr} (h : un F R a ≠ Option.none) : F a ≠ Option.none ∨ R a ≠ Option.none := by
  obtain ⟨o, e⟩ := sn h
  rcases un_some e with q | ⟨_, q⟩
  · exact .inl (ns q)
  · exact .inr (ns q)
theorem same_upd {F : Hp} {p : Addr} {o : HO} (h : F p = Option.none) : Same F (upd F p o) := fun a u e => by
  rw [upd_ne (ne_of_none e h)]
  exact e
theorem same_none {F H : Hp} (s : Same F H) {p : Addr} (h : H p = Option.none) : F p = Option.none := s.free h

/-! ### data in a region -/
mutual
inductive Da (F : Hp) : V → PyData → Prop
  | non : Da F .non .none
  | bl (b : Bool) : Da F (.bl b) (.bool b)
  | int (i : Int) : Da F (.int i) (.int i)
  | str (x : Str) : Da F (.str x) (.str x)
  | lst {a : Addr} {xs : List V} {ds : List PyData} : F a = some (.lst xs) → DaA F xs ds → Da F (.ref a) (.list ds)
  | tup {a : Addr} {xs : List V} {ds : List PyData} : F a = some (.tup xs) → DaA F xs ds → Da F (.ref a) (.tuple ds)
inductive DaA (F : Hp) : List V → List PyData → Prop
  | nil : DaA F [] []
  | cons {v : V} {vs : List V} {d : PyData} {ds : List PyData} : Da F v d → DaA F vs ds → DaA F (v :: vs) (d :: ds)
end
section
variable {F F' H : Hp} {K : PySem.W.Frag}
mutual
theorem Da.mono (s : Same F F') : ∀ {v : V} {d : PyData}, Da F v d → Da F' v d
  | _, _, .non => .non
  | _, _, .bl b => .bl b
  | _, _, .int i => .int i
  | _, _, .str x => .str x
  | _, _, .lst h a => .lst (s _ _ h) (DaA.mono s a)
  | _, _, .tup h a => .tup (s _ _ h) (DaA.mono s a)
theorem DaA.mono (s : Same F F') : ∀ {vs : List V} {ds : List PyData}, DaA F vs ds → DaA F' vs ds
  | _, _, .nil => .nil
  | _, _, .cons h a => .cons (Da.mono s h) (DaA.mono s a)
end
mutual
theorem Da.dp (s : Same F H) : ∀ {v : V} {d : PyData}, Da F v d → Dp K H v d
  | _, _, .non => .non
  | _, _, .bl b => .bl b
  | _, _, .int i => .int i
  | _, _, .str x => .str x
  | _, _, .lst h a => .lst (SqL.of (s _ _ h)) (DaA.dp s a)
  | _, _, .tup h a => .tup (SqT.of (s _ _ h)) (DaA.dp s a)
theorem DaA.dp (s : Same F H) : ∀ {vs : List V} {ds : List PyData}, DaA F vs ds → DpAll K H vs ds
  | _, _, .nil => .nil
  | _, _, .cons h a => .cons (Da.dp s h) (DaA.dp s a)
end
theorem DaA.length : ∀ {vs : List V} {ds : List PyData}, DaA F vs ds → vs.length = ds.length
  | _, _, .nil => rfl
  | _, _, .cons _ a => by rw [List.length_cons, List.length_cons, DaA.length a]
theorem DaA.get : ∀ {vs : List V} {ds : List PyData} {i : Nat} {v : V} {d : PyData}, DaA F vs ds → vs[i]? = some v → ds[i]? = some d → Da F v d
  | _, _, 0, _, _, .cons h _, e1, e2 => by
    simp only [List.length_cons, Nat.zero_lt_succ, List.getElem?_eq_getElem, List.getElem_cons_zero, Option.some.injEq] at e1 e2
    subst e1 e2
    exact h
  | _, _, i + 1, _, _, .cons _ a, e1, e2 => by
    simp only [List.getElem?_cons_succ] at e1 e2
    exact DaA.get a e1 e2
theorem DaA.ex {vs : List V} {ds : List PyData} (a : DaA F vs ds) {i : Nat} {d : PyData} (e : ds[i]? = some d) : ∃ v, vs[i]? = some v ∧ Da F v d := by
  have hi : i < ds.length := (List.getElem?_eq_some_iff.mp e).1
  have hv : i < vs.length := by rw [a.length]; exact hi
  exact ⟨vs[i], List.getElem?_eq_getElem hv, a.get (List.getElem?_eq_getElem hv) e⟩
theorem DaA.exV {vs : List V} {ds : List PyData} (a : DaA F vs ds) {i : Nat} {v : V} (e : vs[i]? = some v) : ∃ d, ds[i]? = some d ∧ Da F v d := by
  have hv : i < vs.length := (List.getElem?_eq_some_iff.mp e).1
  have hi : i < ds.length := by rw [← a.length]; exact hv
  exact ⟨ds[i], List.getElem?_eq_getElem hi, a.get e (List.getElem?_eq_getElem hi)⟩
theorem DaA.append : ∀ {vs ws : List V} {ds es : List PyData}, DaA F vs ds → DaA F ws es → DaA F (vs ++ ws) (ds ++ es)
  | _, _, _, _, .nil, b => b
  | _, _, _, _, .cons h a, b => .cons h (DaA.append a b)
theorem DaA.one {v : V} {d : PyData} (h : Da F v d) : DaA F [v] [d] := .cons h .nil
theorem DaA.snoc {vs : List V} {ds : List PyData} {v : V} {d : PyData} (a : DaA F vs ds) (h : Da F v d) : DaA F (vs ++ [v]) (ds ++ [d]) := a.append (.one h)
theorem DaA.take : ∀ {vs : List V} {ds : List PyData} (n : Nat), DaA F vs ds → DaA F (vs.take n) (ds.take n)
  | _, _, 0, _ => by rw [List.take_zero, List.take_zero]; exact .nil
  | _, _, _ + 1, .nil => .nil
  | _, _, n + 1, .cons h a => .cons h (DaA.take n a)
theorem DaA.drop : ∀ {vs : List V} {ds : List PyData} (n : Nat), DaA F vs ds → DaA F (vs.drop n) (ds.drop n)
  | _, _, 0, a => a
  | _, _, _ + 1, .nil => .nil
  | _, _, n + 1, .cons _ a => DaA.drop n a
theorem DaA.set : ∀ {vs : List V} {ds : List PyData} (i : Nat) {v : V} {d : PyData}, DaA F vs ds → Da F v d → DaA F (vs.set i v) (ds.set i d)
  | _, _, _, _, _, .nil, _ => .nil
  | _, _, 0, _, _, .cons _ a, h => .cons h a
  | _, _, i + 1, _, _, .cons g a, h => .cons g (DaA.set i a h)
theorem DaA.reverse : ∀ {vs : List V} {ds : List PyData}, DaA F vs ds → DaA F vs.reverse ds.reverse
  | _, _, .nil => .nil
  | _, _, .cons h a => by rw [List.reverse_cons, List.reverse_cons]; exact (DaA.reverse a).snoc h
theorem DaA.ints : ∀ {ns : List Int}, DaA F (ns.map V.int) (ns.map PyData.int)
  | [] => .nil
  | n :: r => .cons (.int n) (DaA.ints (ns := r))
theorem DaA.strs : ∀ {ns : List Str}, DaA F (ns.map V.str) (ns.map PyData.str)
  | [] => .nil
  | n :: r => .cons (.str n) (DaA.strs (ns := r))
theorem DaA.bls : ∀ {ns : List Bool}, DaA F (ns.map V.bl) (ns.map PyData.bool)
  | [] => .nil
  | n :: r => .cons (.bl n) (DaA.bls (ns := r))
theorem Da.of_int {v : V} {i : Int} (h : Da F v (.int i)) : v = .int i := by cases h; rfl
theorem Da.of_str {v : V} {i : Str} (h : Da F v (.str i)) : v = .str i := by cases h; rfl
theorem Da.of_bl {v : V} {i : Bool} (h : Da F v (.bool i)) : v = .bl i := by cases h; rfl
theorem Da.of_non {v : V} (h : Da F v .none) : v = .non := by cases h; rfl
theorem Da.of_lst {v : V} {ds : List PyData} (h : Da F v (.list ds)) : ∃ a xs, v = .ref a ∧ F a = some (.lst xs) ∧ DaA F xs ds := by
  cases h with
  | lst e a => exact ⟨_, _, rfl, e, a⟩
theorem Da.of_tup {v : V} {ds : List PyData} (h : Da F v (.tuple ds)) : ∃ a xs, v = .ref a ∧ F a = some (.tup xs) ∧ DaA F xs ds := by
  cases h with
  | tup e a => exact ⟨_, _, rfl, e, a⟩
theorem DaA.ints_inv : ∀ {vs : List V} {ns : List Int}, DaA F vs (ns.map PyData.int) → vs = ns.map V.int
  | [], [], .nil => rfl
  | _ :: _, n :: r, .cons h a => by
    rw [h.of_int, DaA.ints_inv (ns := r) a]
    rfl
theorem DaA.strs_inv : ∀ {vs : List V} {ns : List Str}, DaA F vs (ns.map PyData.str) → vs = ns.map V.str
  | [], [], .nil => rfl
  | _ :: _, n :: r, .cons h a => by
    rw [h.of_str, DaA.strs_inv (ns := r) a]
    rfl
theorem DaA.bls_inv : ∀ {vs : List V} {ns : List Bool}, DaA F vs (ns.map PyData.bool) → vs = ns.map V.bl
  | [], [], .nil => rfl
  | _ :: _, n :: r, .cons h a => by
    rw [h.of_bl, DaA.bls_inv (ns := r) a]
    rfl
end

/-! ### what a call may do: (F, H) and the region R that it was lent become (F', H') and R' -/
structure Go (F H R F' H' R' : Hp) : Prop where
  ff : Same F F'
  fh : Same F' H'
  rh : Same R' H'
  dj : Dj F' R'
  keep : ∀ a o, H a = some o → R a = Option.none → H' a = some o
  dom : ∀ a, H a ≠ Option.none → H' a ≠ Option.none
  newF : ∀ a, F' a ≠ Option.none → F a ≠ Option.none ∨ R a ≠ Option.none ∨ H a = Option.none
  newR : ∀ a, R' a ≠ Option.none → R a ≠ Option.none ∨ H a = Option.none

/-- where a body stands: entered at F0, H0 with the lent region B; now at F, H with the owned regions -/
structure Mem (F0 H0 B F H : Hp) (own : List Hp) : Prop where
  ff : Same F0 F
  fh : Same F H
  oh : ∀ R ∈ own, Same R H
  fo : ∀ R ∈ own, Dj F R
  oo : own.Pairwise Dj
  keep : ∀ a o, H0 a = some o → B a = Option.none → H a = some o
  dom : ∀ a, H0 a ≠ Option.none → H a ≠ Option.none
  newF : ∀ a, F a ≠ Option.none → F0 a ≠ Option.none ∨ B a ≠ Option.none ∨ H0 a = Option.none
  newO : ∀ R ∈ own, ∀ a, R a ≠ Option.none → B a ≠ Option.none ∨ H0 a = Option.none

section
variable {F0 H0 B F H R R' A C F' H' : Hp} {own : List Hp} {p : Addr} {o : HO}
theorem Mem.start (s : Same F H) (r : Same B H) (d : Dj F B) : Mem F H B F H [B] :=
  ⟨.refl F, s, fun R h => (by cases List.mem_singleton.mp h; exact r), fun R h => (by cases List.mem_singleton.mp h; exact d), List.pairwise_singleton _ _, fun _ _ e _ => e, fun _ e => e, fun _ e => .inl e, fun R h a e => (by cases List.mem_singleton.mp h; exact .inl e)⟩
theorem Mem.start0 (s : Same F H) : Mem F H emp F H [] :=
  ⟨.refl F, s, fun R h => (nomatch h), fun R h => (nomatch h), List.Pairwise.nil, fun _ _ e _ => e, fun _ e => e, fun _ e => .inl e, fun R h => (nomatch h)⟩
theorem Mem.perm {own' : List Hp} (m : Mem F0 H0 B F H own) (h : own.Perm own') : Mem F0 H0 B F H own' :=
  ⟨m.ff, m.fh, fun R q => m.oh R (h.mem_iff.mpr q), fun R q => m.fo R (h.mem_iff.mpr q), (h.pairwise_iff (fun {_ _} d => Dj.symm d)).mp m.oo, m.keep, m.dom, m.newF, fun R q => m.newO R (h.mem_iff.mpr q)⟩
theorem Mem.drop (m : Mem F0 H0 B F H (R :: own)) : Mem F0 H0 B F H own :=
  ⟨m.ff, m.fh, fun R q => m.oh R (List.mem_cons_of_mem _ q), fun R q => m.fo R (List.mem_cons_of_mem _ q), (List.pairwise_cons.mp m.oo).2, m.keep, m.dom, m.newF, fun R q => m.newO R (List.mem_cons_of_mem _ q)⟩
/-- a new object joins the frozen region -/
theorem Mem.allocF (m : Mem F0 H0 B F H own) (h : H p = Option.none) : Mem F0 H0 B (upd F p o) (upd H p o) own := by
  have fp := m.fh.free h
  have hop : ∀ R ∈ own, R p = Option.none := fun R q => (m.oh R q).free h
  have h0p : H0 p = Option.none := by
    cases q : H0 p with
    | none => rfl
    | some u => exact absurd h (m.dom p (ns q))
  refine ⟨m.ff.trans (same_upd fp), fun a u e => ?_, fun R q => (m.oh R q).trans (same_upd h), fun R q a e => ?_, m.oo, fun a u e b => same_upd h a u (m.keep a u e b), fun a e => ?_, fun a e => ?_, m.newO⟩
  · by_cases hp : a = p
    · subst hp
      rw [upd_same] at e ⊢
      exact e
    · rw [upd_ne hp] at e ⊢
      exact m.fh a u e
  · by_cases hp : a = p
    · rw [hp]; exact hop R q
    · rw [upd_ne hp] at e; exact m.fo R q a e
  · obtain ⟨u, q⟩ := sn (m.dom a e)
    exact ns (same_upd h a u q)
  · by_cases hp : a = p
    · exact .inr (.inr (by rw [hp]; exact h0p))
    · rw [upd_ne hp] at e; exact m.newF a e
/-- a new object of one's own -/
theorem Mem.alloc (m : Mem F0 H0 B F H own) (h : H p = Option.none) : Mem F0 H0 B F (upd H p o) (cell p o :: own) := by
  have fp := m.fh.free h
  have hop : ∀ R ∈ own, R p = Option.none := fun R q => (m.oh R q).free h
  have h0p : H0 p = Option.none := by
    cases q : H0 p with
    | none => rfl
    | some u => exact absurd h (m.dom p (ns q))
  refine ⟨m.ff, m.fh.trans (same_upd h), fun R q => ?_, fun R q => ?_, List.pairwise_cons.mpr ⟨fun R q a e => ?_, m.oo⟩, fun a u e b => same_upd h a u (m.keep a u e b), fun a e => ?_, m.newF, fun R q a e => ?_⟩
  · rcases List.mem_cons.mp q with rfl | q
    · intro a u e
      obtain ⟨rfl, rfl⟩ := cell_some e
      exact upd_same
    · exact (m.oh R q).trans (same_upd h)
  · rcases List.mem_cons.mp q with rfl | q
    · refine Dj.symm fun a e => ?_
      rw [cell_at e]; exact fp
    · exact m.fo R q
  · rw [cell_at e]; exact hop R q
  · obtain ⟨u, q⟩ := sn (m.dom a e)
    exact ns (same_upd h a u q)
  · rcases List.mem_cons.mp q with rfl | q
    · exact .inr (by rw [cell_at e]; exact h0p)
    · exact m.newO R q a e
/-- a call that was lent the first region -/
theorem Mem.go (m : Mem F0 H0 B F H (R :: own)) (g : Go F H R F' H' R') : Mem F0 H0 B F' H' (R' :: own) := by
  have rH : Same R H := m.oh R List.mem_cons_self
  have rs : ∀ S ∈ own, ∀ a, S a ≠ Option.none → R a = Option.none := fun S q a e => (Dj.symm ((List.pairwise_cons.mp m.oo).1 S q)) a e
  have sH : ∀ S ∈ own, Same S H' := fun S q a u e => g.keep a u (m.oh S (List.mem_cons_of_mem _ q) a u e) (rs S q a (ns e))
  refine ⟨m.ff.trans g.ff, g.fh, fun S q => ?_, fun S q => ?_, List.pairwise_cons.mpr ⟨fun S q a e => ?_, (List.pairwise_cons.mp m.oo).2⟩, fun a u e b => ?_, fun a e => g.dom a (m.dom a e), fun a e => ?_, fun S q a e => ?_⟩
  · rcases List.mem_cons.mp q with rfl | q
    · exact g.rh
    · exact sH S q
  · rcases List.mem_cons.mp q with rfl | q
    · exact g.dj
    · intro a e
      rcases g.newF a e with z | z | z
      · exact m.fo S (List.mem_cons_of_mem _ q) a z
      · exact (List.pairwise_cons.mp m.oo).1 S q a z
      · exact (m.oh S (List.mem_cons_of_mem _ q)).free z
  · rcases g.newR a e with z | z
    · exact (List.pairwise_cons.mp m.oo).1 S q a z
    · exact (m.oh S (List.mem_cons_of_mem _ q)).free z
  · refine g.keep a u (m.keep a u e b) ?_
    cases z : R a with
    | none => rfl
    | some w =>
      rcases m.newO R List.mem_cons_self a (ns z) with y | y
      · exact absurd b y
      · rw [y] at e; cases e
  · rcases g.newF a e with z | z | z
    · exact m.newF a z
    · exact .inr (m.newO R List.mem_cons_self a z)
    · refine .inr (.inr ?_)
      cases y : H0 a with
      | none => rfl
      | some w => exact absurd z (m.dom a (ns y))
  · rcases List.mem_cons.mp q with rfl | q
    · rcases g.newR a e with z | z
      · exact m.newO R List.mem_cons_self a z
      · refine .inr ?_
        cases y : H0 a with
        | none => rfl
        | some w => exact absurd z (m.dom a (ns y))
    · exact m.newO S (List.mem_cons_of_mem _ q) a e
theorem Mem.addE (m : Mem F0 H0 B F H own) : Mem F0 H0 B F H (emp :: own) :=
  ⟨m.ff, m.fh, fun R q => (by rcases List.mem_cons.mp q with rfl | q; exact emp_same; exact m.oh R q), fun R q => (by rcases List.mem_cons.mp q with rfl | q; exact emp_dj; exact m.fo R q),
    List.pairwise_cons.mpr ⟨fun R _ a e => absurd rfl e, m.oo⟩, m.keep, m.dom, m.newF, fun R q a e => (by rcases List.mem_cons.mp q with rfl | q; exact absurd rfl e; exact m.newO R q a e)⟩
/-- a call that was lent nothing -/
theorem Mem.go0 (m : Mem F0 H0 B F H own) (g : Go F H emp F' H' emp) : Mem F0 H0 B F' H' own := (m.addE.go g).drop
/-- a region is written at p -/
theorem Go.write (s : Same F H) (r : Same R H) (d : Dj F R) (h : R p ≠ Option.none) : Go F H R F (upd H p o) (upd R p o) := by
  have fp : F p = Option.none := Dj.symm d p h
  have at_ : ∀ {a : Addr}, upd R p o a ≠ Option.none → R a ≠ Option.none := fun {a} e => by
    by_cases hp : a = p
    · rw [hp]; exact h
    · rw [upd_ne hp] at e; exact e
  refine ⟨.refl F, fun a u e => ?_, fun a u e => ?_, fun a e => ?_, fun a u e b => ?_, fun a e => ?_, fun a e => .inl e, fun a e => .inl (at_ e)⟩
  · rw [upd_ne (ne_of_none e fp)]; exact s a u e
  · by_cases hp : a = p
    · subst hp; rw [upd_same] at e ⊢; exact e
    · rw [upd_ne hp] at e ⊢; exact r a u e
  · by_cases hp : a = p
    · rw [hp] at e; exact absurd fp e
    · rw [upd_ne hp]; exact d a e
  · rw [upd_ne (show a ≠ p from fun q => h (by rw [← q]; exact b))]; exact e
  · by_cases hp : a = p
    · rw [hp, upd_same]; intro q; cases q
    · rw [upd_ne hp]; exact e
theorem Mem.write (m : Mem F0 H0 B F H (R :: own)) (h : R p ≠ Option.none) : Mem F0 H0 B F (upd H p o) (upd R p o :: own) :=
  m.go (Go.write m.fh (m.oh R List.mem_cons_self) (m.fo R List.mem_cons_self) h)
theorem Mem.put {u : HO} (m : Mem F0 H0 B F H (cell p o :: own)) : Mem F0 H0 B F (upd H p u) (cell p u :: own) := by
  have q := m.write (p := p) (o := u) (by rw [cell_same]; intro z; cases z)
  rw [upd_cell] at q
  exact q
/-- a region is frozen -/
theorem Mem.freeze (m : Mem F0 H0 B F H (R :: own)) : Mem F0 H0 B (un F R) H own := by
  refine ⟨m.ff.trans un_l, fun a u e => ?_, fun S q => m.oh S (List.mem_cons_of_mem _ q), fun S q a e => ?_, (List.pairwise_cons.mp m.oo).2, m.keep, m.dom, fun a e => ?_, fun S q => m.newO S (List.mem_cons_of_mem _ q)⟩
  · rcases un_some e with z | ⟨_, z⟩
    · exact m.fh a u z
    · exact m.oh R List.mem_cons_self a u z
  · rcases un_ne e with z | z
    · exact m.fo S (List.mem_cons_of_mem _ q) a z
    · exact (List.pairwise_cons.mp m.oo).1 S q a z
  · rcases un_ne e with z | z
    · exact m.newF a z
    · exact .inr (m.newO R List.mem_cons_self a z)
/-- the end of a body: what it was lent stands first -/
theorem Mem.fin (m : Mem F0 H0 B F H (R :: own)) : Go F0 H0 B F H R :=
  ⟨m.ff, m.fh, m.oh R List.mem_cons_self, m.fo R List.mem_cons_self, m.keep, m.dom, m.newF, m.newO R List.mem_cons_self⟩
theorem Mem.fin0 (m : Mem F0 H0 emp F H own) : Go F0 H0 emp F H emp := m.addE.fin
theorem Mem.swap (m : Mem F0 H0 B F H (A :: C :: own)) : Mem F0 H0 B F H (C :: A :: own) := m.perm (.swap C A own)
theorem Mem.rot3 {S : Hp} (m : Mem F0 H0 B F H (A :: C :: S :: own)) : Mem F0 H0 B F H (S :: A :: C :: own) := (m.perm (.cons A (.swap S C own))).perm (.swap S A (C :: own))
theorem Mem.at0 (m : Mem F0 H0 B F H (cell p o :: own)) : H p = some o := m.oh _ List.mem_cons_self p o cell_same
theorem Mem.at1 (m : Mem F0 H0 B F H (A :: cell p o :: own)) : H p = some o := m.oh _ (List.mem_cons_of_mem _ List.mem_cons_self) p o cell_same
theorem Mem.at2 (m : Mem F0 H0 B F H (A :: C :: cell p o :: own)) : H p = some o := m.oh _ (List.mem_cons_of_mem _ (List.mem_cons_of_mem _ List.mem_cons_self)) p o cell_same
theorem Mem.at3 {S : Hp} (m : Mem F0 H0 B F H (A :: C :: S :: cell p o :: own)) : H p = some o := m.oh _ (List.mem_cons_of_mem _ (List.mem_cons_of_mem _ (List.mem_cons_of_mem _ List.mem_cons_self))) p o cell_same
/-- an owned cell of a pure body (nothing is lent) is frozen -/
theorem Mem.freeze0 (m : Mem F0 H0 emp F H (R :: own)) : Mem F0 H0 emp (un F R) H own := m.freeze
end
/-- a list of one's own becomes data -/
theorem Da.frozen {F : Hp} {p : Addr} {vs : List V} {ds : List PyData} (d : Dj F (cell p (.lst vs))) (a : DaA F vs ds) : Da (un F (cell p (.lst vs))) (.ref p) (.list ds) :=
  .lst (un_r d p _ cell_same) (a.mono un_l)
end DL

/-! DLs: the steps of a reading, each as a lemma. -/
namespace DL
open PySem PySem.Spec L2

section
variable {F0 H0 B F H R R' A C F' H' : Hp} {own : List Hp} {p : Addr} {o : HO}
theorem Mem.go1 (m : Mem F0 H0 B F H (A :: R :: own)) (g : Go F H R F' H' R') : Mem F0 H0 B F' H' (A :: R' :: own) := (m.swap.go g).swap
theorem Mem.go2 (m : Mem F0 H0 B F H (A :: C :: R :: own)) (g : Go F H R F' H' R') : Mem F0 H0 B F' H' (A :: C :: R' :: own) :=
  ((m.rot3.go g).perm (.swap A R' (C :: own))).perm (.cons A (.swap C R' own))
theorem Mem.go3 {S : Hp} (m : Mem F0 H0 B F H (A :: C :: S :: R :: own)) (g : Go F H R F' H' R') : Mem F0 H0 B F' H' (A :: C :: S :: R' :: own) := by
  have q : (A :: C :: S :: R :: own).Perm (R :: A :: C :: S :: own) := ((((List.Perm.swap R S own).cons C).trans (.swap R C (S :: own))).cons A).trans (.swap R A (C :: S :: own))
  have q' : (R' :: A :: C :: S :: own).Perm (A :: C :: S :: R' :: own) := (((((List.Perm.swap R' S own).cons C).trans (.swap R' C (S :: own))).cons A).trans (.swap R' A (C :: S :: own))).symm
  exact ((m.perm q).go g).perm q'
theorem Mem.put1 {u : HO} (m : Mem F0 H0 B F H (A :: cell p o :: own)) : Mem F0 H0 B F (upd H p u) (A :: cell p u :: own) := m.swap.put.swap
theorem Mem.put2 {u : HO} (m : Mem F0 H0 B F H (A :: C :: cell p o :: own)) : Mem F0 H0 B F (upd H p u) (A :: C :: cell p u :: own) := ((m.rot3.put).perm (.swap A _ (C :: own))).perm (.cons A (.swap C _ own))
theorem Mem.put3 {S : Hp} {u : HO} (m : Mem F0 H0 B F H (A :: C :: S :: cell p o :: own)) : Mem F0 H0 B F (upd H p u) (A :: C :: S :: cell p u :: own) := by
  have q : ∀ R : Hp, (A :: C :: S :: R :: own).Perm (R :: A :: C :: S :: own) := fun R => ((((List.Perm.swap R S own).cons C).trans (.swap R C (S :: own))).cons A).trans (.swap R A (C :: S :: own))
  exact ((m.perm (q _)).put).perm (q _).symm
theorem Mem.drop1 (m : Mem F0 H0 B F H (A :: R :: own)) : Mem F0 H0 B F H (A :: own) := m.swap.drop
theorem Mem.oh0 (m : Mem F0 H0 B F H (R :: own)) : Same R H := m.oh _ List.mem_cons_self
theorem Mem.oh1 (m : Mem F0 H0 B F H (A :: R :: own)) : Same R H := m.oh _ (List.mem_cons_of_mem _ List.mem_cons_self)
theorem Mem.oh2 (m : Mem F0 H0 B F H (A :: C :: R :: own)) : Same R H := m.oh _ (List.mem_cons_of_mem _ (List.mem_cons_of_mem _ List.mem_cons_self))
theorem Mem.fo0 (m : Mem F0 H0 B F H (R :: own)) : Dj F R := m.fo _ List.mem_cons_self
theorem Mem.fo1 (m : Mem F0 H0 B F H (A :: R :: own)) : Dj F R := m.fo _ (List.mem_cons_of_mem _ List.mem_cons_self)
theorem Mem.fo2 (m : Mem F0 H0 B F H (A :: C :: R :: own)) : Dj F R := m.fo _ (List.mem_cons_of_mem _ (List.mem_cons_of_mem _ List.mem_cons_self))
end
/-- a call that changed nothing that was there -/
theorem Go.same {F H H' : Hp} (s : Same F H) (h : Same H H') : Go F H emp F H' emp :=
  ⟨.refl F, s.trans h, emp_same, emp_dj, fun a o e _ => h a o e, fun a e => (let ⟨o, q⟩ := sn e; ns (h a o q)), fun _ e => .inl e, fun _ e => absurd rfl e⟩
theorem Mem.refl0 {F0 H0 B F H : Hp} {own : List Hp} (m : Mem F0 H0 B F H own) : Go F H emp F H emp := .same m.fh (.refl H)
theorem Go.same0 {F H F' H' : Hp} (g : Go F H emp F' H' emp) : Same H H' := fun a o e => g.keep a o e rfl

/-! ### expressions -/
section
variable {σ : L2.St} {H : Hp} {Q : VK} {v w : V} {ta tb tc : TE} {r : R2} {K : PySem.W.Frag}
theorem s_var {i : Nat} (h : σ[i]? = some (some v)) (q : Q v H) : tVar i σ H Q := ⟨v, h, q⟩
theorem s_c (q : Q v H) : tC v σ H Q := q
theorem s_op (q : ta σ H (fun x H1 => tb σ H1 fun y H2 => r x y H2 Q)) : tOp r ta tb σ H Q := q
theorem s_un {r : V → Hp → VK → Prop} (q : ta σ H (fun x H1 => r x H1 Q)) : tUn r ta σ H Q := q
theorem s_I0 {g : Int → Int → V} {i j : Int} (q : Q (g i j) H) : rI0 g (.int i) (.int j) H Q := ⟨i, j, rfl, rfl, q⟩
theorem s_I {c : Int → Int → Prop} {g : Int → Int → V} {i j : Int} (hc : c i j) (q : Q (g i j) H) : rI c g (.int i) (.int j) H Q := ⟨i, j, rfl, rfl, hc, q⟩
theorem s_U {g : Int → V} {i : Int} (q : Q (g i) H) : rU g (.int i) H Q := ⟨i, rfl, q⟩
theorem dec_int {i j : Int} : decide (V.int i = V.int j) = decide (i = j) := by
  by_cases h : i = j
  · rw [decide_eq_true h, decide_eq_true (congrArg V.int h)]
  · rw [decide_eq_false h, decide_eq_false (fun q => h (V.int.inj q))]
theorem dec_str {i j : Str} : decide (V.str i = V.str j) = decide (i = j) := by
  by_cases h : i = j
  · rw [decide_eq_true h, decide_eq_true (congrArg V.str h)]
  · rw [decide_eq_false h, decide_eq_false (fun q => h (V.str.inj q))]
theorem dec_bl {i j : Bool} : decide (V.bl i = V.bl j) = decide (i = j) := by
  by_cases h : i = j
  · rw [decide_eq_true h, decide_eq_true (congrArg V.bl h)]
  · rw [decide_eq_false h, decide_eq_false (fun q => h (V.bl.inj q))]
theorem s_eqI {i j : Int} (q : Q (.bl (decide (i = j))) H) : rEq (.int i) (.int j) H Q := ⟨rfl, by rw [dec_int]; exact q⟩
theorem s_eqS {i j : Str} (q : Q (.bl (decide (i = j))) H) : rEq (.str i) (.str j) H Q := ⟨rfl, by rw [dec_str]; exact q⟩
theorem s_eqB {i j : Bool} (q : Q (.bl (decide (i = j))) H) : rEq (.bl i) (.bl j) H Q := ⟨rfl, by rw [dec_bl]; exact q⟩
theorem s_neI {i j : Int} (q : Q (.bl (!decide (i = j))) H) : rNe (.int i) (.int j) H Q := ⟨rfl, by rw [dec_int]; exact q⟩
theorem s_neS {i j : Str} (q : Q (.bl (!decide (i = j))) H) : rNe (.str i) (.str j) H Q := ⟨rfl, by rw [dec_str]; exact q⟩
theorem s_neB {i j : Bool} (q : Q (.bl (!decide (i = j))) H) : rNe (.bl i) (.bl j) H Q := ⟨rfl, by rw [dec_bl]; exact q⟩
theorem s_isN (q : Q (.bl (decide (v = .non))) H) : rIsN v .non H Q := ⟨rfl, q⟩
theorem s_notN (q : Q (.bl (!decide (v = .non))) H) : rNotN v .non H Q := ⟨rfl, q⟩
/-! tests -/
variable {c : TT} {t u : TT} {QB : Bool → Hp → Prop}
def tqB (QB : Bool → Hp → Prop) : VK := fun x H => ∃ k, x = .bl k ∧ QB k H
theorem s_test (q : ta σ H (tqB QB)) : tTest ta σ H QB := q
theorem s_tB (q : ta σ H (tqB QB)) : tB ta σ H QB := q
theorem s_tq {k : Bool} (q : QB k H) : tqB QB (.bl k) H := ⟨k, rfl, q⟩
theorem s_not (q : t σ H (fun c H1 => QB (!c) H1)) : tNot t σ H QB := q
theorem s_and (q : t σ H (fun c H1 => if c = true then u σ H1 QB else QB false H1)) : tAnd t u σ H QB := q
theorem s_or (q : t σ H (fun c H1 => if c = true then QB true H1 else u σ H1 QB)) : tOr t u σ H QB := q
theorem s_ifE (q : t σ H (fun c H1 => if c = true then ta σ H1 Q else tb σ H1 Q)) : tIf t ta tb σ H Q := q
/-- a value that is an `and`, an `or` of truth values -/
theorem s_andV (q : ta σ H (tqB fun c H1 => if c = true then tb σ H1 Q else Q (.bl false) H1)) : tAndV ta tb σ H Q := q
theorem s_orV (q : ta σ H (tqB fun c H1 => if c = true then Q (.bl true) H1 else tb σ H1 Q)) : tOrV ta tb σ H Q := q
theorem s_notV (q : ta σ H (tqB fun c H1 => Q (.bl (!c)) H1)) : tNotV ta σ H Q := q
/-- a cut: what is known of the value behind an expression -/
theorem s_cut {te : TE} (P : V → Hp → Prop) (h : ∀ Q : VK, (∀ v H', P v H' → Q v H') → te σ H Q) (q : ∀ v H', P v H' → Q v H') : te σ H Q := h Q q
theorem s_cutT (P : Bool → Hp → Prop) (h : ∀ Q : Bool → Hp → Prop, (∀ b H', P b H' → Q b H') → c σ H Q) (q : ∀ b H', P b H' → QB b H') : c σ H QB := h QB q
/-! arguments -/
variable {tr : TA} {QA : List V → Hp → Prop}
theorem s_nil (q : QA [] H) : tNil σ H QA := q
theorem s_cons (q : ta σ H (fun x H1 => tr σ H1 fun xs H2 => QA (x :: xs) H2)) : tCons ta tr σ H QA := q
theorem s_CB {r : List V → Hp → VK → Prop} (q : tr σ H (fun vs H1 => r vs H1 Q)) : tCB r tr σ H Q := q
theorem s_call {sp : Sp} {E : XK} (q : tr σ H (fun vs H1 => sp vs H1 Q E)) : tCall sp [] E tr σ H Q := by
  have e : tCall sp [] E tr σ H Q = tr σ H (fun vs H1 => sp (vs ++ []) H1 Q E) := rfl
  simp only [List.append_nil] at e
  rw [e]
  exact q
end

/-! ### statements: the ends n, r, b, c -/
section
variable {σ : L2.St} {H : Hp} {n b c : L2.St → Hp → Prop} {r : VK} {t u : TS} {te : TE} {tc : TT}
theorem s_seq (q : t ⟨u ⟨n, r, b, c⟩, r, b, c⟩ σ H) : tSeq t u ⟨n, r, b, c⟩ σ H := q
theorem s_next (q : n σ H) : tNext ⟨n, r, b, c⟩ σ H := q
theorem s_brk (q : b σ H) : tBreak ⟨n, r, b, c⟩ σ H := q
theorem s_cont (q : c σ H) : tCont ⟨n, r, b, c⟩ σ H := q
theorem s_drop (q : te σ H fun _ H1 => n σ H1) : tDrop te ⟨n, r, b, c⟩ σ H := q
theorem s_ret (q : te σ H r) : tRet te ⟨n, r, b, c⟩ σ H := q
theorem s_retN (q : r .non H) : tRetN ⟨n, r, b, c⟩ σ H := q
theorem s_if (q : tc σ H fun k H1 => if k = true then t ⟨n, r, b, c⟩ σ H1 else u ⟨n, r, b, c⟩ σ H1) : tIfS tc t u ⟨n, r, b, c⟩ σ H := q
theorem s_asg {g : TG} (q : te σ H fun x H1 => g x σ H1 n) : tAsg te g ⟨n, r, b, c⟩ σ H := q
theorem s_name {i : Nat} {v : V} {N : L2.St → Hp → Prop} (q : N (σ.set i (some v)) H) : gName i v σ H N := q
theorem s_aug {i : Nat} {x : V} {ti : TIp} (h : σ[i]? = some (some x)) (q : te σ H fun y H1 => ti x y H1 fun z H2 => n (σ.set i (some z)) H2) : tAug i te ti ⟨n, r, b, c⟩ σ H := ⟨x, h, q⟩
theorem s_ipI {f : Int → Int → Int} {i j : Int} {Q : VK} (q : Q (.int (f i j)) H) : ipI f (.int i) (.int j) H Q := ⟨i, j, rfl, rfl, q⟩
/-- the ways through a statement are joined -/
theorem s_join (P : L2.St → Hp → Prop) (h : ∀ N : L2.St → Hp → Prop, (∀ σ' H', P σ' H' → N σ' H') → t ⟨N, r, b, c⟩ σ H) (q : ∀ σ' H', P σ' H' → n σ' H') : t ⟨n, r, b, c⟩ σ H := h n q
end

/-! ### objects -/
section
variable {σ : L2.St} {F0 H0 B F H : Hp} {own : List Hp} {Q : VK} {K : PySem.W.Frag} {tr : TA} {v : V}
/-- a new object -/
def AlO (H : Hp) (o : HO) (Q : VK) : Prop := ∀ p, H p = Option.none → Q (.ref p) (upd H p o)
theorem s_tup (q : tr σ H fun xs H1 => xs.length ≤ sizeLine ∧ AlO H1 (.tup xs) Q) : tTup tr σ H Q := q
theorem s_lst (q : tr σ H fun xs H1 => xs.length ≤ sizeLine ∧ AlO H1 (.lst xs) Q) : tLst tr σ H Q := q
theorem m_tup {vs : List V} {ds : List PyData} (m : Mem F0 H0 B F H own) (a : DaA F vs ds) (hz : vs.length ≤ sizeLine) (q : ∀ p F' H', Mem F0 H0 B F' H' own → Same F F' → Da F' (.ref p) (.tuple ds) → Q (.ref p) H') :
    vs.length ≤ sizeLine ∧ AlO H (.tup vs) Q :=
  ⟨hz, fun p hp => q p _ _ (m.allocF hp) (same_upd (m.fh.free hp)) (.tup upd_same (a.mono (same_upd (m.fh.free hp))))⟩
/-- a new list: data at once, or one's own -/
theorem m_lstF {vs : List V} {ds : List PyData} (m : Mem F0 H0 B F H own) (a : DaA F vs ds) (q : ∀ p F' H', Mem F0 H0 B F' H' own → Same F F' → Da F' (.ref p) (.list ds) → Q (.ref p) H') :
    AlO H (.lst vs) Q :=
  fun p hp => q p _ _ (m.allocF hp) (same_upd (m.fh.free hp)) (.lst upd_same (a.mono (same_upd (m.fh.free hp))))
theorem m_lst {vs : List V} (m : Mem F0 H0 B F H own) (q : ∀ p H', Mem F0 H0 B F H' (cell p (.lst vs) :: own) → Q (.ref p) H') :
    AlO H (.lst vs) Q := fun p hp => q p _ (m.alloc hp)
theorem m_lz {n : Nat} {P : Prop} (h : n ≤ 1000) (q : P) : n ≤ sizeLine ∧ P := ⟨Nat.le_of_lt (small1000 h), q⟩
/-- an item of data -/
theorem at_da {xs : List V} {ds : List PyData} {i : Int} {d : PyData} (a : DaA F xs ds) (h : atI ds i = some d) : ∃ v, atI xs i = some v ∧ Da F v d := by
  unfold atI at h ⊢
  rw [a.length]
  cases e : ixN ds.length i with
  | none => rw [e] at h; cases h
  | some j =>
    rw [e] at h
    exact a.ex h
theorem m_ixT {x : V} {ds : List PyData} {i : Int} {d : PyData} (m : Mem F0 H0 B F H own) (h : Da F x (.tuple ds)) (hi : atI ds i = some d) (q : ∀ v, Da F v d → Q v H) : rIxT K x (.int i) H Q := by
  obtain ⟨a, xs, rfl, e, aa⟩ := h.of_tup
  obtain ⟨v, ev, dv⟩ := at_da aa hi
  exact ⟨a, xs, i, v, rfl, rfl, SqT.of (m.fh _ _ e), ev, q v dv⟩
theorem m_ixL {x : V} {ds : List PyData} {i : Int} {d : PyData} (m : Mem F0 H0 B F H own) (h : Da F x (.list ds)) (hi : atI ds i = some d) (q : ∀ v, Da F v d → Q v H) : rIxL K x (.int i) H Q := by
  obtain ⟨a, xs, rfl, e, aa⟩ := h.of_lst
  obtain ⟨v, ev, dv⟩ := at_da aa hi
  exact ⟨a, xs, i, v, rfl, rfl, SqL.of (m.fh _ _ e), ev, q v dv⟩
theorem s_ixL {a : Addr} {xs : List V} {i : Int} {v : V} (h : H a = some (.lst xs)) (hi : atI xs i = some v) (q : Q v H) : rIxL K (.ref a) (.int i) H Q := ⟨a, xs, i, v, rfl, rfl, SqL.of h, hi, q⟩
theorem s_ixQ {a : Addr} {xs : List V} {i : Int} {v : V} (h : SqL K H a xs) (hi : atI xs i = some v) (q : Q v H) : rIxL K (.ref a) (.int i) H Q := ⟨a, xs, i, v, rfl, rfl, h, hi, q⟩
theorem s_ixS {z : Str} {i : Int} {c : Nat} (hz : z.length ≤ sizeLine) (hi : atI z.cps.toList i = some c) (q : Q (.str ⟨#[c]⟩) H) : rIxS (.str z) (.int i) H Q := ⟨z, i, c, rfl, rfl, hz, hi, q⟩
/-- targets -/
theorem s_setL {a : Addr} {xs : List V} {k : Int} {j : Nat} {N : Hp → Prop} (h : H a = some (.lst xs)) (hj : ixN xs.length k = some j) (q : N (upd H a (.lst (xs.set j v)))) : rSetL (.ref a) (.int k) v H N := ⟨a, xs, k, j, rfl, rfl, h, hj, q⟩
theorem s_sub {to ti : TE} {t : TSet} {N : L2.St → Hp → Prop} (q : to σ H fun o H1 => ti σ H1 fun i H2 => t o i v H2 fun H3 => N σ H3) : gSub to ti t v σ H N := q
theorem s_tupG {a : Addr} {xs : List V} {n : Nat} {t : TGs} {N : L2.St → Hp → Prop} (h : SqT K H a xs) (hn : xs.length = n) (q : t xs σ H N) : gTup K n t (.ref a) σ H N := ⟨a, xs, rfl, h, hn, q⟩
theorem s_gCons {w : V} {t : TG} {u : TGs} {ws : List V} {N : L2.St → Hp → Prop} (q : t w σ H fun σ' H' => u ws σ' H' N) : gCons t u (w :: ws) σ H N := ⟨w, ws, rfl, q⟩
theorem s_gNil {N : L2.St → Hp → Prop} (q : N σ H) : gNil [] σ H N := ⟨rfl, q⟩
end

/-! ### lists: read by place within an augmented store -/
section
variable {X : Cx}
theorem get_list : PGet X (rIxL X.K) := by
  intro pins s σ H o i ov iv Q I ro ri h
  obtain ⟨p, xs, k, z, rfl, rfl, hq, he, q⟩ := h
  cases ro
  obtain ⟨t, rfl⟩ := ri
  obtain ⟨its, r, pl, hz⟩ := I.list hq
  obtain ⟨j, h1, h2, h3, h4, h5⟩ := atI_get he
  obtain ⟨w, ew, rw'⟩ := r.get h2
  have hl := r.length
  have hn := line63
  have fin : EP X pins σ Q w s := ⟨z, H, I, rw', q⟩
  by_cases h0 : 0 ≤ k
  · have hj : k.toNat = j := by
      rw [seqIndex_of h0 h5] at h1
      exact Option.some.inj h1
    exact wpAny_getItem_list pl.isList h0 (by omega) (by rw [hj]; simpa using ew) fin
  · have hj : (k + (its.toArray.size : Int)).toNat = j := by
      rw [seqIndex_neg (by omega) h4] at h1
      rw [List.size_toArray, ← hl]
      exact Option.some.inj h1
    exact wpAny_getItem_list_neg pl.isList (by omega) (by rw [List.size_toArray] <;> omega) (by omega) (by rw [hj]; simpa using ew) fin
end
end DL

/-! DLe: loops and comprehensions. -/
namespace DL
open PySem PySem.Spec L2

/-- what is wanted at a for's head -/
def ForW (J : It) (g : TG) (tb : TS) (n : L2.St → Hp → Prop) (r : VK) (σ : L2.St) (H1 : Hp) : Prop := ∃ W : Nat → Nat → L2.St → Hp → Prop, (∃ m, W 0 m σ H1) ∧ ∀ i m σ H, W i m σ H →
  (J.stop i H ∧ n σ H) ∨ (J.go i H ∧ ∃ N : L2.St → Hp → Prop, (∀ σ' H', N σ' H' → ∃ m', m' < m ∧ W (i + 1) m' σ' H') ∧ ∀ x H', J.yld i H x H' → g x σ H' fun σ2 H2 => tb ⟨N, r, n, N⟩ σ2 H2)
theorem s_for {wi : TI} {g : TG} {tb : TS} {n b c : L2.St → Hp → Prop} {r : VK} {σ : L2.St} {H : Hp} (q : wi σ H fun J H1 => ForW J g tb n r σ H1) : tFor wi g tb ⟨n, r, b, c⟩ σ H := q
theorem for_gen {J : It} {g : TG} {tb : TS} {n : L2.St → Hp → Prop} {r : VK} {σ : L2.St} {H : Hp} {k : Nat} (P : Nat → L2.St → Hp → Prop) (h0 : P 0 σ H) (hgo : ∀ i σ H, i < k → P i σ H → J.go i H) (hst : ∀ σ H, P k σ H → J.stop k H)
    (hs : ∀ i σ H, i < k → P i σ H → ∀ x H', J.yld i H x H' → g x σ H' fun σ2 H2 => tb ⟨P (i + 1), r, n, P (i + 1)⟩ σ2 H2) (hd : ∀ σ H, P k σ H → n σ H) : ForW J g tb n r σ H := by
  refine ⟨fun i m σ H => m = k - i ∧ i ≤ k ∧ P i σ H, ⟨k, by simp, Nat.zero_le _, h0⟩, ?_⟩
  rintro i m σ H ⟨rfl, hi, p⟩
  by_cases hlt : i < k
  · exact .inr ⟨hgo i σ H hlt p, P (i + 1), fun σ' H' p' => ⟨k - (i + 1), by omega, rfl, hlt, p'⟩, hs i σ H hlt p⟩
  · have e : i = k := by omega
    subst e
    exact .inl ⟨hst σ H p, hd σ H p⟩

/-- what is wanted at a comprehension's head -/
def LcW (J : It) (g : TG) (tt : TT) (te : TE) (vs : List Nat) (Q : VK) (σ : L2.St) (H1 : Hp) : Prop := ∀ D, H1 D = Option.none → ∃ W : Nat → Nat → Hp → Prop, (∃ m, W 0 m (upd H1 D (.lst []))) ∧ ∀ i m H, W i m H →
  (J.stop i H ∧ Q (.ref D) H) ∨ (J.go i H ∧ ∃ Nx : Hp → Prop, (∀ H', Nx H' → ∃ m', m' < m ∧ W (i + 1) m' H') ∧ ∀ x H', J.yld i H x H' → g x (wipe σ vs) H' fun σ2 H2 => wipe σ2 vs = wipe σ vs ∧ tt σ2 H2 fun b H3 =>
    if b = true then te σ2 H3 fun y H4 => ∃ acc, H4 D = some (.lst acc) ∧ acc.length < sizeLine ∧ Nx (upd H4 D (.lst (acc ++ [y]))) else Nx H3)
/-- an element has come: it goes to the list at D -/
def LcE (D : Addr) (N : Hp → Prop) : VK := fun y H4 => ∃ acc, H4 D = some (.lst acc) ∧ acc.length < sizeLine ∧ N (upd H4 D (.lst (acc ++ [y])))
theorem s_lc {wi : TI} {g : TG} {tt : TT} {te : TE} {vs : List Nat} {σ : L2.St} {H : Hp} {Q : VK} (q : wi σ H fun J H1 => LcW J g tt te vs Q σ H1) : tLc wi g tt te vs σ H Q := q
theorem lc_gen {J : It} {g : TG} {tt : TT} {te : TE} {vs : List Nat} {Q : VK} {σ : L2.St} {H : Hp} {k : Nat} (h : ∀ D, H D = Option.none → ∃ P : Nat → Hp → Prop, P 0 (upd H D (.lst [])) ∧ (∀ i H, i < k → P i H → J.go i H) ∧ (∀ H, P k H → J.stop k H) ∧
    (∀ i H, i < k → P i H → ∀ x H', J.yld i H x H' → g x (wipe σ vs) H' fun σ2 H2 => wipe σ2 vs = wipe σ vs ∧ tt σ2 H2 fun b H3 => if b = true then te σ2 H3 (LcE D (P (i + 1))) else P (i + 1) H3) ∧ (∀ H, P k H → Q (.ref D) H)) : LcW J g tt te vs Q σ H := by
  intro D hD
  obtain ⟨P, h0, hgo, hst, hs, hd⟩ := h D hD
  refine ⟨fun i m H => m = k - i ∧ i ≤ k ∧ P i H, ⟨k, by simp, Nat.zero_le _, h0⟩, ?_⟩
  rintro i m H ⟨rfl, hi, p⟩
  by_cases hlt : i < k
  · exact .inr ⟨hgo i H hlt p, P (i + 1), fun H' p' => ⟨k - (i + 1), by omega, rfl, hlt, p'⟩, hs i H hlt p⟩
  · have e : i = k := by omega
    subst e
    exact .inl ⟨hst H p, hd H p⟩
theorem s_yes {σ : L2.St} {H : Hp} {Q : Bool → Hp → Prop} (q : Q true H) : tYes σ H Q := q

/-! ### what stands behind a turn -/
def Nx (F0 H0 B F : Hp) (I : L2.St → Hp → List Hp → Prop) : L2.St → Hp → Prop := fun σ H => ∃ F' own, Same F F' ∧ Mem F0 H0 B F' H own ∧ I σ F' own
def NxC (F0 H0 B F : Hp) (D : Addr) (I : List V → Hp → List Hp → Prop) : Hp → Prop := fun H => ∃ F' own acc, Same F F' ∧ Mem F0 H0 B F' H (cell D (.lst acc) :: own) ∧ I acc F' own
section
variable {F0 H0 B F H F' H' : Hp} {own own' : List Hp} {D : Addr} {y : V} {acc : List V}
theorem Nx.mk {I : L2.St → Hp → List Hp → Prop} {σ : L2.St} (s : Same F F') (m : Mem F0 H0 B F' H own) (i : I σ F' own) : Nx F0 H0 B F I σ H := ⟨F', own, s, m, i⟩
theorem LcE.mk {I : List V → Hp → List Hp → Prop} (s : Same F F') (m : Mem F0 H0 B F' H (cell D (.lst acc) :: own)) (hz : acc.length < sizeLine) (i : I (acc ++ [y]) F' own) : LcE D (NxC F0 H0 B F D I) y H :=
  ⟨acc, m.at0, hz, F', own, acc ++ [y], s, m.put, i⟩
theorem NxC.mk {I : List V → Hp → List Hp → Prop} (s : Same F F') (m : Mem F0 H0 B F' H (cell D (.lst acc) :: own)) (i : I acc F' own) : NxC F0 H0 B F D I H := ⟨F', own, acc, s, m, i⟩
end

/-! ### sources -/
section
variable {F0 H0 B F H : Hp} {own : List Hp} {σ : L2.St} {K : PySem.W.Frag} {R : It → Hp → Prop} {ta : TA} {te : TE} {g : TG} {tb : TS} {n : L2.St → Hp → Prop} {r : VK} {Q : VK} {tt : TT} {vs : List Nat}
def lsQ (K : PySem.W.Frag) (R : It → Hp → Prop) : VK := fun x H1 => ∃ a, x = .ref a ∧ (∃ xs, SqL K H1 a xs) ∧ R (Itl K a) H1
def ltQ (K : PySem.W.Frag) (R : It → Hp → Prop) : VK := fun x H1 => ∃ a, x = .ref a ∧ (∃ xs, SqT K H1 a xs) ∧ R (Itt K a) H1
def r1Q (R : It → Hp → Prop) : List V → Hp → Prop := fun vs H1 => ∃ j : Int, vs = [.int j] ∧ -(2 ^ 62) ≤ j ∧ j < 2 ^ 62 ∧ R (Itr 0 j.toNat) H1
def r2Q (R : It → Hp → Prop) : List V → Hp → Prop := fun vs H1 => ∃ i j : Int, vs = [.int i, .int j] ∧ (-(2 ^ 62) ≤ i ∧ i < 2 ^ 62 ∧ -(2 ^ 62) ≤ j ∧ j < 2 ^ 62) ∧ R (Itr i (j - i).toNat) H1
def zpQ (K : PySem.W.Frag) (R : It → Hp → Prop) : List V → Hp → Prop := fun vs H1 => ∃ a b xs ys, vs = [.ref a, .ref b] ∧ SqL K H1 a xs ∧ SqL K H1 b ys ∧ R (Itz K a b) H1
def enQ (K : PySem.W.Frag) (R : It → Hp → Prop) : List V → Hp → Prop := fun vs H1 => ∃ a xs, vs = [.ref a] ∧ SqL K H1 a xs ∧ R (Ite K a) H1
def stQ (R : It → Hp → Prop) : VK := fun v H1 => ∃ x, v = .str x ∧ R (Its x) H1
theorem s_iList (q : te σ H (lsQ K R)) : iList K te σ H R := q
theorem s_iTup (q : te σ H (ltQ K R)) : iTup K te σ H R := q
theorem s_iRng1 (q : ta σ H (r1Q R)) : iRng1 ta σ H R := q
theorem s_iRng2 (q : ta σ H (r2Q R)) : iRng2 ta σ H R := q
theorem s_iZip (q : ta σ H (zpQ K R)) : iZip K ta σ H R := q
theorem s_iEnum (q : ta σ H (enQ K R)) : iEnum K ta σ H R := q
theorem s_iStr (q : te σ H (stQ R)) : iStr te σ H R := q
theorem s_r1 {j : Int} (h1 : -(2 ^ 62) ≤ j) (h2 : j < 2 ^ 62) (q : R (Itr 0 j.toNat) H) : r1Q R [.int j] H := ⟨j, rfl, h1, h2, q⟩
theorem s_r2 {i j : Int} (h1 : -(2 ^ 62) ≤ i) (h2 : i < 2 ^ 62) (h3 : -(2 ^ 62) ≤ j) (h4 : j < 2 ^ 62) (q : R (Itr i (j - i).toNat) H) : r2Q R [.int i, .int j] H := ⟨i, j, rfl, ⟨h1, h2, h3, h4⟩, q⟩
theorem s_st {z : Str} (q : R (Its z) H) : stQ R (.str z) H := ⟨z, rfl, q⟩

/-! a for over data, over a range, over a text -/
theorem m_forR {lo : Int} {k : Nat} (m : Mem F0 H0 B F H own) (I : Nat → L2.St → Hp → List Hp → Prop) (h0 : I 0 σ F own)
    (hs : ∀ (i : Nat) σ F' H' own', i < k → Same F F' → Mem F0 H0 B F' H' own' → I i σ F' own' → g (.int (lo + i)) σ H' fun σ2 H2 => tb ⟨Nx F0 H0 B F (I (i + 1)), r, n, Nx F0 H0 B F (I (i + 1))⟩ σ2 H2)
    (hd : ∀ σ F' H' own', Same F F' → Mem F0 H0 B F' H' own' → I k σ F' own' → n σ H') : ForW (Itr lo k) g tb n r σ H := by
  refine for_gen (k := k) (fun i => Nx F0 H0 B F (I i)) ⟨F, own, .refl F, m, h0⟩ (fun i σ H hi _ => hi) (fun σ H _ => Nat.le_refl _) (fun i σ H hi ⟨F', own', s, m', hI⟩ x H' y => ?_) fun σ H ⟨F', own', s, m', hI⟩ => hd σ F' H own' s m' hI
  obtain ⟨rfl, rfl⟩ := y
  exact hs i σ F' _ own' hi s m' hI
theorem m_forL {x : V} {ds : List PyData} (m : Mem F0 H0 B F H own) (h : Da F x (.list ds)) (I : Nat → L2.St → Hp → List Hp → Prop) (h0 : I 0 σ F own)
    (hs : ∀ (i : Nat) d v σ F' H' own', ds[i]? = some d → Same F F' → Mem F0 H0 B F' H' own' → Da F' v d → I i σ F' own' → g v σ H' fun σ2 H2 => tb ⟨Nx F0 H0 B F (I (i + 1)), r, n, Nx F0 H0 B F (I (i + 1))⟩ σ2 H2)
    (hd : ∀ σ F' H' own', Same F F' → Mem F0 H0 B F' H' own' → I ds.length σ F' own' → n σ H') : lsQ K (fun J H1 => ForW J g tb n r σ H1) x H := by
  obtain ⟨a, xs, rfl, e, aa⟩ := h.of_lst
  have at_ : ∀ {H : Hp} {i : Nat} {σ : L2.St}, Nx F0 H0 B F (I i) σ H → SqL K H a xs := fun {H i σ} ⟨F', own', s, m', hI⟩ => SqL.of (m'.fh _ _ (s _ _ e))
  have el := aa.length
  refine ⟨a, rfl, ⟨xs, SqL.of (m.fh _ _ e)⟩, for_gen (k := xs.length) (fun i => Nx F0 H0 B F (I i)) ⟨F, own, .refl F, m, h0⟩ (fun i σ H hi p => ⟨xs, xs[i], at_ p, by simp [hi]⟩) (fun σ H p => ⟨xs, at_ p, Nat.le_refl _⟩) (fun i σ H hi p x H' y => ?_) fun σ H ⟨F', own', s, m', hI⟩ => hd σ F' H own' s m' (el ▸ hI)⟩
  obtain ⟨rfl, y⟩ := y
  have ex := y xs (at_ p)
  obtain ⟨F', own', s, m', hI⟩ := p
  obtain ⟨d, ed, dd⟩ := aa.exV ex
  exact hs i d x σ F' _ own' ed s m' (dd.mono s) hI
theorem m_forT {x : V} {ds : List PyData} (m : Mem F0 H0 B F H own) (h : Da F x (.tuple ds)) (I : Nat → L2.St → Hp → List Hp → Prop) (h0 : I 0 σ F own)
    (hs : ∀ (i : Nat) d v σ F' H' own', ds[i]? = some d → Same F F' → Mem F0 H0 B F' H' own' → Da F' v d → I i σ F' own' → g v σ H' fun σ2 H2 => tb ⟨Nx F0 H0 B F (I (i + 1)), r, n, Nx F0 H0 B F (I (i + 1))⟩ σ2 H2)
    (hd : ∀ σ F' H' own', Same F F' → Mem F0 H0 B F' H' own' → I ds.length σ F' own' → n σ H') : ltQ K (fun J H1 => ForW J g tb n r σ H1) x H := by
  obtain ⟨a, xs, rfl, e, aa⟩ := h.of_tup
  have at_ : ∀ {H : Hp} {i : Nat} {σ : L2.St}, Nx F0 H0 B F (I i) σ H → SqT K H a xs := fun {H i σ} ⟨F', own', s, m', hI⟩ => SqT.of (m'.fh _ _ (s _ _ e))
  have el := aa.length
  refine ⟨a, rfl, ⟨xs, SqT.of (m.fh _ _ e)⟩, for_gen (k := xs.length) (fun i => Nx F0 H0 B F (I i)) ⟨F, own, .refl F, m, h0⟩ (fun i σ H hi p => ⟨xs, xs[i], at_ p, by simp [hi]⟩) (fun σ H p => ⟨xs, at_ p, Nat.le_refl _⟩) (fun i σ H hi p x H' y => ?_) fun σ H ⟨F', own', s, m', hI⟩ => hd σ F' H own' s m' (el ▸ hI)⟩
  obtain ⟨rfl, y⟩ := y
  have ex := y xs (at_ p)
  obtain ⟨F', own', s, m', hI⟩ := p
  obtain ⟨d, ed, dd⟩ := aa.exV ex
  exact hs i d x σ F' _ own' ed s m' (dd.mono s) hI
theorem m_forS {z : Str} (m : Mem F0 H0 B F H own) (I : Nat → L2.St → Hp → List Hp → Prop) (h0 : I 0 σ F own)
    (hs : ∀ (i : Nat) c σ F' H' own', z.cps[i]? = some c → Same F F' → Mem F0 H0 B F' H' own' → I i σ F' own' → g (.str ⟨#[c]⟩) σ H' fun σ2 H2 => tb ⟨Nx F0 H0 B F (I (i + 1)), r, n, Nx F0 H0 B F (I (i + 1))⟩ σ2 H2)
    (hd : ∀ σ F' H' own', Same F F' → Mem F0 H0 B F' H' own' → I z.cps.size σ F' own' → n σ H') : ForW (Its z) g tb n r σ H := by
  refine for_gen (k := z.cps.size) (fun i => Nx F0 H0 B F (I i)) ⟨F, own, .refl F, m, h0⟩ (fun i σ H hi _ => hi) (fun σ H _ => Nat.le_refl _) (fun i σ H hi ⟨F', own', s, m', hI⟩ x H' y => ?_) fun σ H ⟨F', own', s, m', hI⟩ => hd σ F' H own' s m' hI
  obtain ⟨rfl, c, ec, rfl⟩ := y
  exact hs i c σ F' _ own' ec s m' hI
/-- for a, b in zip(..) of two lists of data, as long -/
theorem m_forZ {x y : V} {ds es : List PyData} {t : TGs} (m : Mem F0 H0 B F H own) (h : Da F x (.list ds)) (h' : Da F y (.list es)) (hl : ds.length ≤ es.length) (I : Nat → L2.St → Hp → List Hp → Prop) (h0 : I 0 σ F own)
    (hs : ∀ (i : Nat) d e v w σ F' H' own', ds[i]? = some d → es[i]? = some e → Same F F' → Mem F0 H0 B F' H' own' → Da F' v d → Da F' w e → I i σ F' own' → t [v, w] σ H' fun σ2 H2 => tb ⟨Nx F0 H0 B F (I (i + 1)), r, n, Nx F0 H0 B F (I (i + 1))⟩ σ2 H2)
    (hI : ∀ i σ F1 F2 o, Same F1 F2 → I i σ F1 o → I i σ F2 o)
    (hd : ∀ σ F' H' own', Same F F' → Mem F0 H0 B F' H' own' → I ds.length σ F' own' → n σ H') : zpQ K (fun J H1 => ForW J (gTup K 2 t) tb n r σ H1) [x, y] H := by
  obtain ⟨a, xs, rfl, e, aa⟩ := h.of_lst
  obtain ⟨b, ys, rfl, e', bb⟩ := h'.of_lst
  have at_ : ∀ {H : Hp} {i : Nat} {σ : L2.St}, Nx F0 H0 B F (I i) σ H → SqL K H a xs ∧ SqL K H b ys := fun {H i σ} ⟨F', own', s, m', hI⟩ => ⟨SqL.of (m'.fh _ _ (s _ _ e)), SqL.of (m'.fh _ _ (s _ _ e'))⟩
  have el := aa.length
  have el' := bb.length
  refine ⟨a, b, xs, ys, rfl, SqL.of (m.fh _ _ e), SqL.of (m.fh _ _ e'), for_gen (k := xs.length) (fun i => Nx F0 H0 B F (I i)) ⟨F, own, .refl F, m, h0⟩
    (fun i σ H hi p => ⟨xs, ys, xs[i], ys[i]'(by omega), (at_ p).1, (at_ p).2, by simp [hi], by rw [List.getElem?_eq_getElem]⟩) (fun σ H p => ⟨xs, ys, (at_ p).1, (at_ p).2, .inl (Nat.le_refl _)⟩) (fun i σ H hi p x H' y => ?_) fun σ H ⟨F', own', s, m', hI⟩ => hd σ F' H own' s m' (el ▸ hI)⟩
  obtain ⟨T, v, w, rfl, nT, rfl, y1, y2⟩ := y
  have ex := y1 xs (at_ p).1
  have ey := y2 ys (at_ p).2
  obtain ⟨F', own', s, m', hI'⟩ := p
  obtain ⟨d, ed, dd⟩ := aa.exV ex
  obtain ⟨d', ed', dd'⟩ := bb.exV ey
  have s2 : Same F' (upd F' T (.tup [v, w])) := same_upd (m'.fh.free nT)
  refine ⟨T, [v, w], rfl, SqT.of upd_same, rfl, hs i d d' v w σ _ _ own' ed ed' (s.trans s2) (m'.allocF nT) ((dd.mono s).mono s2) ((dd'.mono s).mono s2) (hI _ _ _ _ _ s2 hI')⟩
/-- for i, x in enumerate(..) of a list of data -/
theorem m_forE {x : V} {ds : List PyData} {t : TGs} (m : Mem F0 H0 B F H own) (h : Da F x (.list ds)) (I : Nat → L2.St → Hp → List Hp → Prop) (h0 : I 0 σ F own)
    (hs : ∀ (i : Nat) d v σ F' H' own', ds[i]? = some d → Same F F' → Mem F0 H0 B F' H' own' → Da F' v d → I i σ F' own' → t [.int i, v] σ H' fun σ2 H2 => tb ⟨Nx F0 H0 B F (I (i + 1)), r, n, Nx F0 H0 B F (I (i + 1))⟩ σ2 H2)
    (hI : ∀ i σ F1 F2 o, Same F1 F2 → I i σ F1 o → I i σ F2 o)
    (hd : ∀ σ F' H' own', Same F F' → Mem F0 H0 B F' H' own' → I ds.length σ F' own' → n σ H') : enQ K (fun J H1 => ForW J (gTup K 2 t) tb n r σ H1) [x] H := by
  obtain ⟨a, xs, rfl, e, aa⟩ := h.of_lst
  have at_ : ∀ {H : Hp} {i : Nat} {σ : L2.St}, Nx F0 H0 B F (I i) σ H → SqL K H a xs := fun {H i σ} ⟨F', own', s, m', hI⟩ => SqL.of (m'.fh _ _ (s _ _ e))
  have el := aa.length
  refine ⟨a, xs, rfl, SqL.of (m.fh _ _ e), for_gen (k := xs.length) (fun i => Nx F0 H0 B F (I i)) ⟨F, own, .refl F, m, h0⟩
    (fun i σ H hi p => ⟨xs, xs[i], at_ p, by simp [hi]⟩) (fun σ H p => ⟨xs, at_ p, Nat.le_refl _⟩) (fun i σ H hi p x H' y => ?_) fun σ H ⟨F', own', s, m', hI⟩ => hd σ F' H own' s m' (el ▸ hI)⟩
  obtain ⟨T, v, rfl, nT, rfl, y1⟩ := y
  have ex := y1 xs (at_ p)
  obtain ⟨F', own', s, m', hI'⟩ := p
  obtain ⟨d, ed, dd⟩ := aa.exV ex
  have s2 : Same F' (upd F' T (.tup [.int (i : Nat), v])) := same_upd (m'.fh.free nT)
  refine ⟨T, [.int (i : Nat), v], rfl, SqT.of upd_same, rfl, hs i d v σ _ _ own' ed (s.trans s2) (m'.allocF nT) ((dd.mono s).mono s2) (hI _ _ _ _ _ s2 hI')⟩

/-! comprehensions over data, over a range, over a text -/
theorem m_lcR {lo : Int} {k : Nat} (m : Mem F0 H0 B F H own) (I : Nat → List V → Hp → List Hp → Prop) (h0 : I 0 [] F own)
    (hs : ∀ (i : Nat) acc D F' H' own', i < k → Same F F' → Mem F0 H0 B F' H' (cell D (.lst acc) :: own') → I i acc F' own' → g (.int (lo + i)) (wipe σ vs) H' fun σ2 H2 => wipe σ2 vs = wipe σ vs ∧ tt σ2 H2 fun b H3 =>
      if b = true then te σ2 H3 (LcE D (NxC F0 H0 B F D (I (i + 1)))) else NxC F0 H0 B F D (I (i + 1)) H3)
    (hd : ∀ D acc F' H' own', Same F F' → Mem F0 H0 B F' H' (cell D (.lst acc) :: own') → I k acc F' own' → Q (.ref D) H') : LcW (Itr lo k) g tt te vs Q σ H := by
  refine lc_gen (k := k) fun D hD => ⟨fun i => NxC F0 H0 B F D (I i), ⟨F, own, [], .refl F, m.alloc hD, h0⟩, fun i H hi _ => hi, fun H _ => Nat.le_refl _, fun i H hi ⟨F', own', acc, s, m', hI⟩ x H' y => ?_, fun H ⟨F', own', acc, s, m', hI⟩ => hd D acc F' H own' s m' hI⟩
  obtain ⟨rfl, rfl⟩ := y
  exact hs i acc D F' _ own' hi s m' hI
theorem m_lcL {x : V} {ds : List PyData} (m : Mem F0 H0 B F H own) (h : Da F x (.list ds)) (I : Nat → List V → Hp → List Hp → Prop) (h0 : I 0 [] F own)
    (hs : ∀ (i : Nat) d v acc D F' H' own', ds[i]? = some d → Same F F' → Mem F0 H0 B F' H' (cell D (.lst acc) :: own') → Da F' v d → I i acc F' own' → g v (wipe σ vs) H' fun σ2 H2 => wipe σ2 vs = wipe σ vs ∧ tt σ2 H2 fun b H3 =>
      if b = true then te σ2 H3 (LcE D (NxC F0 H0 B F D (I (i + 1)))) else NxC F0 H0 B F D (I (i + 1)) H3)
    (hd : ∀ D acc F' H' own', Same F F' → Mem F0 H0 B F' H' (cell D (.lst acc) :: own') → I ds.length acc F' own' → Q (.ref D) H') : lsQ K (fun J H1 => LcW J g tt te vs Q σ H1) x H := by
  obtain ⟨a, xs, rfl, e, aa⟩ := h.of_lst
  have el := aa.length
  refine ⟨a, rfl, ⟨xs, SqL.of (m.fh _ _ e)⟩, lc_gen (k := xs.length) fun D hD => ?_⟩
  have at_ : ∀ {H : Hp} {i : Nat}, NxC F0 H0 B F D (I i) H → SqL K H a xs := fun {H i} ⟨F', own', acc, s, m', hI⟩ => SqL.of (m'.fh _ _ (s _ _ e))
  refine ⟨fun i => NxC F0 H0 B F D (I i), ⟨F, own, [], .refl F, m.alloc hD, h0⟩, fun i H hi p => ⟨xs, xs[i], at_ p, by simp [hi]⟩, fun H p => ⟨xs, at_ p, Nat.le_refl _⟩, fun i H hi p x H' y => ?_, fun H ⟨F', own', acc, s, m', hI⟩ => hd D acc F' H own' s m' (el ▸ hI)⟩
  obtain ⟨rfl, y⟩ := y
  have ex := y xs (at_ p)
  obtain ⟨F', own', acc, s, m', hI⟩ := p
  obtain ⟨d, ed, dd⟩ := aa.exV ex
  exact hs i d x acc D F' _ own' ed s m' (dd.mono s) hI
theorem m_lcT {x : V} {ds : List PyData} (m : Mem F0 H0 B F H own) (h : Da F x (.tuple ds)) (I : Nat → List V → Hp → List Hp → Prop) (h0 : I 0 [] F own)
    (hs : ∀ (i : Nat) d v acc D F' H' own', ds[i]? = some d → Same F F' → Mem F0 H0 B F' H' (cell D (.lst acc) :: own') → Da F' v d → I i acc F' own' → g v (wipe σ vs) H' fun σ2 H2 => wipe σ2 vs = wipe σ vs ∧ tt σ2 H2 fun b H3 =>
      if b = true then te σ2 H3 (LcE D (NxC F0 H0 B F D (I (i + 1)))) else NxC F0 H0 B F D (I (i + 1)) H3)
    (hd : ∀ D acc F' H' own', Same F F' → Mem F0 H0 B F' H' (cell D (.lst acc) :: own') → I ds.length acc F' own' → Q (.ref D) H') : ltQ K (fun J H1 => LcW J g tt te vs Q σ H1) x H := by
  obtain ⟨a, xs, rfl, e, aa⟩ := h.of_tup
  have el := aa.length
  refine ⟨a, rfl, ⟨xs, SqT.of (m.fh _ _ e)⟩, lc_gen (k := xs.length) fun D hD => ?_⟩
  have at_ : ∀ {H : Hp} {i : Nat}, NxC F0 H0 B F D (I i) H → SqT K H a xs := fun {H i} ⟨F', own', acc, s, m', hI⟩ => SqT.of (m'.fh _ _ (s _ _ e))
  refine ⟨fun i => NxC F0 H0 B F D (I i), ⟨F, own, [], .refl F, m.alloc hD, h0⟩, fun i H hi p => ⟨xs, xs[i], at_ p, by simp [hi]⟩, fun H p => ⟨xs, at_ p, Nat.le_refl _⟩, fun i H hi p x H' y => ?_, fun H ⟨F', own', acc, s, m', hI⟩ => hd D acc F' H own' s m' (el ▸ hI)⟩
  obtain ⟨rfl, y⟩ := y
  have ex := y xs (at_ p)
  obtain ⟨F', own', acc, s, m', hI⟩ := p
  obtain ⟨d, ed, dd⟩ := aa.exV ex
  exact hs i d x acc D F' _ own' ed s m' (dd.mono s) hI
theorem m_lcS {z : Str} (m : Mem F0 H0 B F H own) (I : Nat → List V → Hp → List Hp → Prop) (h0 : I 0 [] F own)
    (hs : ∀ (i : Nat) c acc D F' H' own', z.cps[i]? = some c → Same F F' → Mem F0 H0 B F' H' (cell D (.lst acc) :: own') → I i acc F' own' → g (.str ⟨#[c]⟩) (wipe σ vs) H' fun σ2 H2 => wipe σ2 vs = wipe σ vs ∧ tt σ2 H2 fun b H3 =>
      if b = true then te σ2 H3 (LcE D (NxC F0 H0 B F D (I (i + 1)))) else NxC F0 H0 B F D (I (i + 1)) H3)
    (hd : ∀ D acc F' H' own', Same F F' → Mem F0 H0 B F' H' (cell D (.lst acc) :: own') → I z.cps.size acc F' own' → Q (.ref D) H') : LcW (Its z) g tt te vs Q σ H := by
  refine lc_gen (k := z.cps.size) fun D hD => ⟨fun i => NxC F0 H0 B F D (I i), ⟨F, own, [], .refl F, m.alloc hD, h0⟩, fun i H hi _ => hi, fun H _ => Nat.le_refl _, fun i H hi ⟨F', own', acc, s, m', hI⟩ x H' y => ?_, fun H ⟨F', own', acc, s, m', hI⟩ => hd D acc F' H own' s m' hI⟩
  obtain ⟨rfl, c, ec, rfl⟩ := y
  exact hs i c acc D F' _ own' ec s m' hI
theorem m_lcZ {x y : V} {ds es : List PyData} {t : TGs} (m : Mem F0 H0 B F H own) (h : Da F x (.list ds)) (h' : Da F y (.list es)) (hl : ds.length ≤ es.length) (I : Nat → List V → Hp → List Hp → Prop) (h0 : I 0 [] F own)
    (hs : ∀ (i : Nat) d e v w acc D F' H' own', ds[i]? = some d → es[i]? = some e → Same F F' → Mem F0 H0 B F' H' (cell D (.lst acc) :: own') → Da F' v d → Da F' w e → I i acc F' own' → t [v, w] (wipe σ vs) H' fun σ2 H2 => wipe σ2 vs = wipe σ vs ∧ tt σ2 H2 fun b H3 =>
      if b = true then te σ2 H3 (LcE D (NxC F0 H0 B F D (I (i + 1)))) else NxC F0 H0 B F D (I (i + 1)) H3)
    (hI : ∀ i a F1 F2 o, Same F1 F2 → I i a F1 o → I i a F2 o)
    (hd : ∀ D acc F' H' own', Same F F' → Mem F0 H0 B F' H' (cell D (.lst acc) :: own') → I ds.length acc F' own' → Q (.ref D) H') : zpQ K (fun J H1 => LcW J (gTup K 2 t) tt te vs Q σ H1) [x, y] H := by
  obtain ⟨a, xs, rfl, e, aa⟩ := h.of_lst
  obtain ⟨b, ys, rfl, e', bb⟩ := h'.of_lst
  have el := aa.length
  have el' := bb.length
  refine ⟨a, b, xs, ys, rfl, SqL.of (m.fh _ _ e), SqL.of (m.fh _ _ e'), lc_gen (k := xs.length) fun D hD => ?_⟩
  have at_ : ∀ {H : Hp} {i : Nat}, NxC F0 H0 B F D (I i) H → SqL K H a xs ∧ SqL K H b ys := fun {H i} ⟨F', own', acc, s, m', hI⟩ => ⟨SqL.of (m'.fh _ _ (s _ _ e)), SqL.of (m'.fh _ _ (s _ _ e'))⟩
  refine ⟨fun i => NxC F0 H0 B F D (I i), ⟨F, own, [], .refl F, m.alloc hD, h0⟩, fun i H hi p => ⟨xs, ys, xs[i], ys[i]'(by omega), (at_ p).1, (at_ p).2, by simp [hi], by rw [List.getElem?_eq_getElem]⟩, fun H p => ⟨xs, ys, (at_ p).1, (at_ p).2, .inl (Nat.le_refl _)⟩, fun i H hi p x H' y => ?_, fun H ⟨F', own', acc, s, m', hI⟩ => hd D acc F' H own' s m' (el ▸ hI)⟩
  obtain ⟨T, v, w, rfl, nT, rfl, y1, y2⟩ := y
  have ex := y1 xs (at_ p).1
  have ey := y2 ys (at_ p).2
  obtain ⟨F', own', acc, s, m', hI'⟩ := p
  obtain ⟨d, ed, dd⟩ := aa.exV ex
  obtain ⟨d', ed', dd'⟩ := bb.exV ey
  have s2 : Same F' (upd F' T (.tup [v, w])) := same_upd (m'.fh.free nT)
  exact ⟨T, [v, w], rfl, SqT.of upd_same, rfl, hs i d d' v w acc D _ _ own' ed ed' (s.trans s2) (m'.allocF nT) ((dd.mono s).mono s2) ((dd'.mono s).mono s2) (hI _ _ _ _ _ s2 hI')⟩
end
/-- a while: the invariant, what falls -/
theorem m_while {F0 H0 B F H : Hp} {own : List Hp} {σ : L2.St} {tc : TT} {tb : TS} {n b c : L2.St → Hp → Prop} {r : VK} (m : Mem F0 H0 B F H own) (I : Nat → L2.St → Hp → List Hp → Prop) (k : Nat) (h0 : I k σ F own)
    (hs : ∀ (k : Nat) σ F' H' own', Same F F' → Mem F0 H0 B F' H' own' → I k σ F' own' → tc σ H' fun b H1 => if b = true then tb ⟨fun σ H => ∃ j, j < k ∧ Nx F0 H0 B F (I j) σ H, r, n, fun σ H => ∃ j, j < k ∧ Nx F0 H0 B F (I j) σ H⟩ σ H1 else n σ H1)
    (mono : ∀ σ H Q Q', (∀ b H1, Q b H1 → Q' b H1) → tc σ H Q → tc σ H Q') : tWhile tc tb ⟨n, r, b, c⟩ σ H := by
  refine ⟨fun k σ H => Nx F0 H0 B F (I k) σ H, ⟨k, F, own, .refl F, m, h0⟩, ?_⟩
  rintro k σ H ⟨F', own', s, m', hI⟩
  refine mono σ H _ _ (fun b H1 q => ?_) (hs k σ F' H own' s m' hI)
  cases b with
  | true => exact ⟨_, fun σ' H' ⟨j, hj, p⟩ => ⟨j, hj, p⟩, q⟩
  | false => exact q
end DL

/-! DLf: defs by name; built-ins. -/
namespace DL
open PySem PySem.Spec PyProof.Rows L2

/-! ### a def of the text that keeps its promise, by its name -/
structure FnE (P : Program) (w : World) (K : PySem.W.Frag) (mg : Str → Option Value) (base : Heap) (CX : CXT) (x : Str) (k : Nat) (ps : List Str) (sp : Sp) : Prop where
  ex : ∃ (f : Addr) (fd : FuncData), mg x = some (.ref f) ∧ PySem.W.keepIn K (.ref f) = true ∧ Binds K fd ps [] ∧ FnOk P w K mg base CX k f fd ps sp
/-- where a def of the top stands -/
def DefAt (K : PySem.W.Frag) (mg : Str → Option Value) (x : Str) (st : Stmt) : Prop := ∃ (f : Addr) (fd : FuncData), mg x = some (.ref f) ∧ FunD K x x (defArgs st) (defBody st) (defScope st) [] [] f fd
abbrev Bnd (x : Str) (st : Stmt) (ps : List Str) : Prop := ∀ (kV doc pm : Value) (an : Option Addr) (cdv ct : Value) (us : List Value), us.length = ps.length → bindArgs (PySem.W.fnOf x x (defArgs st) (defBody st) (defScope st) .none kV doc pm an cdv ct) ⟨us, []⟩ = pure (ps.zip us)
theorem fnX {P : Program} {w : World} {K : PySem.W.Frag} {mg : Str → Option Value} {base : Heap} {CX : CXT} {x : Str} {st : Stmt} {N ps : List Str} {k : Nat} {sp : Sp} (D : DefAt K mg x st) (S : FnScope N ps (defScope st)) (hb : Bnd x st ps) (len : ∀ vs H Q E, sp vs H Q E → vs.length = ps.length)
    (hbody : ∀ (f : Addr) (cdv : Value) (A : Around) (outer : List Env) (s : Shared) (H : Hp) (vs : List V) (Q : VK) (E : XK), Room k (A.deeper (envOfC x (defScope st) s.heap.objs.size f cdv)) → sp vs H Q E →
      ∃ t, PSs (cxOf CX P w K mg base N x (defScope st) f cdv A outer s H E) (defBody st) t ∧ t ⟨fun _ H' => Q .non H', Q, fun _ _ => False, fun _ _ => False⟩ (start N vs) H) : FnE P w K mg base CX x (k + 1) ps sp := by
  obtain ⟨f, fd, hm, F⟩ := D
  exact ⟨f, fd, hm, F.kp, F.bindsN hb, F.ok S len fun cdv A outer s H vs Q E hr h => hbody f cdv A outer s H vs Q E hr h⟩
theorem fnE {P : Program} {w : World} {K : PySem.W.Frag} {mg : Str → Option Value} {base : Heap} {x : Str} {st : Stmt} {N ps : List Str} {k : Nat} {sp : Sp} (D : DefAt K mg x st) (S : FnScope N ps (defScope st)) (hb : Bnd x st ps) (len : ∀ vs H Q E, sp vs H Q E → vs.length = ps.length)
    (hbody : ∀ (f : Addr) (cdv : Value) (A : Around) (outer : List Env) (s : Shared) (H : Hp) (vs : List V) (Q : VK) (E : XK), Room k (A.deeper (envOfC x (defScope st) s.heap.objs.size f cdv)) → sp vs H Q E →
      ∃ t, PSs (cxOf CX0 P w K mg base N x (defScope st) f cdv A outer s H E).nox (defBody st) t ∧ t ⟨fun _ H' => Q .non H', Q, fun _ _ => False, fun _ _ => False⟩ (start N vs) H) : FnE P w K mg base CX0 x (k + 1) ps sp :=
  fnX D S hb len fun f cdv A outer s H vs Q E hr h => (let ⟨t, a, b⟩ := hbody f cdv A outer s H vs Q E hr h; ⟨t, a.nox, b⟩)
theorem fnO {P : Program} {w : World} {K : PySem.W.Frag} {mg : Str → Option Value} {base : Heap} {x : Str} {st : Stmt} {N ps : List Str} {k : Nat} {sp : Sp} {f : Addr} {fd : FuncData} (F : FunD K x x (defArgs st) (defBody st) (defScope st) [] [] f fd) (S : FnScope N ps (defScope st)) (len : ∀ vs H Q E, sp vs H Q E → vs.length = ps.length)
    (hbody : ∀ (f : Addr) (cdv : Value) (A : Around) (outer : List Env) (s : Shared) (H : Hp) (vs : List V) (Q : VK) (E : XK), Room k (A.deeper (envOfC x (defScope st) s.heap.objs.size f cdv)) → sp vs H Q E →
      ∃ t, PSs (cxOf CX0 P w K mg base N x (defScope st) f cdv A outer s H E).nox (defBody st) t ∧ t ⟨fun _ H' => Q .non H', Q, fun _ _ => False, fun _ _ => False⟩ (start N vs) H) : FnOk P w K mg base CX0 (k + 1) f fd ps sp :=
  F.ok S len fun cdv A outer s H vs Q E hr h => (let ⟨t, a, b⟩ := hbody f cdv A outer s H vs Q E hr h; ⟨t, a.nox, b⟩)
theorem FnE.mono {P : Program} {w : World} {K : PySem.W.Frag} {mg : Str → Option Value} {base : Heap} {CX : CXT} {x : Str} {ps : List Str} {j k : Nat} {sp : Sp} (G : FnE P w K mg base CX x j ps sp) (h : j ≤ k) : FnE P w K mg base CX x k ps sp := by
  obtain ⟨f, fd, a, b, c, F⟩ := G.ex
  exact ⟨f, fd, a, b, c, F.mono h⟩
theorem FnE.imp {P : Program} {w : World} {K : PySem.W.Frag} {mg : Str → Option Value} {base : Heap} {CX : CXT} {x : Str} {ps : List Str} {k : Nat} {sp sp' : Sp} (G : FnE P w K mg base CX x k ps sp) (h : ∀ vs H Q E, sp' vs H Q E → sp vs H Q E) : FnE P w K mg base CX x k ps sp' := by
  obtain ⟨f, fd, a, b, c, F⟩ := G.ex
  exact ⟨f, fd, a, b, c, F.imp h⟩
section
variable {X : Cx} {CX : CXT} {k : Nat} {ps : List Str} {sp : Sp} {E : XK} {x : Str} {p pos : Pos} {e : Expr} {es : List Expr} {t : TA}
theorem pe_fn (G : FnE X.prog X.w X.K X.mg X.base CX x k ps sp) (hr : Room k X.A) (hg : Gl X x) (hx : Passes CX X E)
    (ha : PA X (e :: es) t) (hdb : (x == ("__debug__" : Str)) = false := by decide) (he : starEach (e :: es) X.env = (false, eval e X.env) :: starEach es X.env := by rfl) (hpl : (backTo pos (starEach es X.env)).any (·.1) = false := by rfl) :
    PE X (.Call (.Name x p) (e :: es) [] pos) (tCall sp [] E t) := by
  obtain ⟨f, fd, hm, hk, hb, F⟩ := G.ex
  exact pe_call F hr hg hm hk hb .nil hx ha hdb he hpl
theorem pe_fn0 (G : FnE X.prog X.w X.K X.mg X.base CX x k ps sp) (hr : Room k X.A) (hg : Gl X x) (hx : Passes CX X E) (hdb : (x == ("__debug__" : Str)) = false := by decide) : PE X (.Call (.Name x p) [] [] pos) (tCall sp [] E tNil) := by
  obtain ⟨f, fd, hm, hk, hb, F⟩ := G.ex
  exact pe_call0 F hr hg hm hk hb .nil hx hdb
end

theorem pe_ty {X : Cx} {x : Str} {T : String} {pos : Pos} (hg : Gl X x) (hm : X.mg x = Option.none) (hv : bootBuiltins x = some (.type T)) (hn : x ≠ "__name__" := by decide) (hd : (x == ("__debug__" : Str)) = false := by decide) : PE X (.Name x pos) (tC (.ty T)) :=
  pe_bltn hg hm hv (v := .ty T) rfl hn hd
/-! ### built-ins -/
theorem bt_len : bootBuiltins "len" = some (.builtin "len") := by decide +kernel
theorem bt_int : bootBuiltins "int" = some (.type "int") := by decide +kernel
theorem bt_bool : bootBuiltins "bool" = some (.type "bool") := by decide +kernel
theorem bt_str : bootBuiltins "str" = some (.type "str") := by decide +kernel
theorem bt_list : bootBuiltins "list" = some (.type "list") := by decide +kernel
theorem bt_tuple : bootBuiltins "tuple" = some (.type "tuple") := by decide +kernel
theorem bt_min : bootBuiltins "min" = some (.builtin "min") := by decide +kernel
theorem bt_max : bootBuiltins "max" = some (.builtin "max") := by decide +kernel
theorem bt_ord : bootBuiltins "ord" = some (.builtin "ord") := by decide +kernel
theorem bt_isinstance : bootBuiltins "isinstance" = some (.builtin "isinstance") := by decide +kernel
theorem bt_sorted : bootBuiltins "sorted" = some (.builtin "sorted") := by decide +kernel
theorem bt_all : bootBuiltins "all" = some (.builtin "all") := by decide +kernel
def rInt : List V → Hp → VK → Prop := fun xs H Q => ∃ i, xs = [.int i] ∧ Q (.int i) H
def rIntB : List V → Hp → VK → Prop := fun xs H Q => ∃ k : Bool, xs = [.bl k] ∧ Q (.int (if k = true then 1 else 0)) H
def rLenSt : List V → Hp → VK → Prop := fun xs H Q => ∃ z : Str, xs = [.str z] ∧ z.length ≤ sizeLine ∧ Q (.int z.length) H
def rLenQ (K : PySem.W.Frag) : List V → Hp → VK → Prop := fun xs H Q => ∃ p ys, xs = [.ref p] ∧ (SqL K H p ys ∨ SqT K H p ys) ∧ Q (.int ys.length) H
def rListQ (K : PySem.W.Frag) : List V → Hp → VK → Prop := fun xs H Q => ∃ p ys, xs = [.ref p] ∧ (SqL K H p ys ∨ SqT K H p ys) ∧ ∀ l, H l = Option.none → Q (.ref l) (upd H l (.lst ys))
def rTupQ (K : PySem.W.Frag) : List V → Hp → VK → Prop := fun xs H Q => ∃ p ys, xs = [.ref p] ∧ ((SqL K H p ys ∧ ∀ l, H l = Option.none → Q (.ref l) (upd H l (.tup ys))) ∨ (SqT K H p ys ∧ Q (.ref p) H))
def rMin : List V → Hp → VK → Prop := fun xs H Q => ∃ i j, xs = [.int i, .int j] ∧ Q (.int (if j < i then j else i)) H
def rMaxx : List V → Hp → VK → Prop := fun xs H Q => ∃ i j, xs = [.int i, .int j] ∧ Q (.int (if j > i then j else i)) H
def rAddSt : R2 := fun x y H Q => ∃ i j : Str, x = .str i ∧ y = .str j ∧ i.length + j.length ≤ sizeLine ∧ Q (.str (i ++ j)) H
def rJoin (K : PySem.W.Frag) : V → List V → Hp → VK → Prop := fun x xs H Q => ∃ a p, ∃ ys : List Str, x = .str a ∧ xs = [.ref p] ∧ (SqL K H p (ys.map V.str) ∨ SqT K H p (ys.map V.str)) ∧ (ys.map (·.length)).sum + ys.length * a.length ≤ 16777216 ∧ Q (.str (Txt.join a ys)) H
section
variable {X : Cx}
theorem c_int : CallR X (.type "int") rInt := by
  intro pins s σ H xs us Q I r h
  obtain ⟨i, rfl, q⟩ := h
  exact call_int1 pins s σ H _ us Q I r (.inl ⟨i, rfl, q⟩)
theorem c_intB : CallR X (.type "int") rIntB := by
  intro pins s σ H xs us Q I r h
  obtain ⟨i, rfl, q⟩ := h
  exact call_int1 pins s σ H _ us Q I r (.inr ⟨i, rfl, q⟩)
theorem c_lenS : CallR X (.builtin "len") rLenSt := call_len_str
theorem c_lenQ : CallR X (.builtin "len") (rLenQ X.K) := call_len_seq
theorem c_list : CallR X (.type "list") (rListQ X.K) := call_list_of
theorem c_tuple : CallR X (.type "tuple") (rTupQ X.K) := call_tuple_of
theorem c_min2 (hc : X.calm = true) : CallR X (.builtin "min") rMin := call_min2 hc
theorem c_max2 (hc : X.calm = true) : CallR X (.builtin "max") rMaxx := call_max2 hc
theorem op_addS : OpR X (binaryOp .Add) rAddSt := op_add_str
theorem c_append : MtR X "list.append" rAppend := mt_append
theorem c_extend : MtR X "list.extend" rExtend := mt_extend
theorem c_join : MtR X "str.join" (rJoin X.K) := mt_join
end
section
variable {F0 H0 B F H : Hp} {own : List Hp} {σ : L2.St} {K : PySem.W.Frag} {Q : VK} {ta : TE} {t : TA} {v x y : V}
theorem s_BM {T : String} {r : V → List V → Hp → VK → Prop} (q : ta σ H fun x H1 => tyV K T x H1 ∧ t σ H1 fun xs H2 => r x xs H2 Q) : tBM K T r ta t σ H Q := q
theorem s_tyL {P : Prop} {a : Addr} {xs : List V} (h : H a = some (.lst xs)) (q : P) : tyV K "list" (.ref a) H ∧ P := ⟨.inl ⟨rfl, _, SqL.of h⟩, q⟩
theorem s_tyS {P : Prop} {z : Str} (q : P) : tyV K "str" (.str z) H ∧ P := ⟨rfl, q⟩
theorem s_int {i : Int} (q : Q (.int i) H) : rInt [.int i] H Q := ⟨i, rfl, q⟩
theorem s_intB {k : Bool} (q : Q (.int (if k = true then 1 else 0)) H) : rIntB [.bl k] H Q := ⟨k, rfl, q⟩
theorem s_lenS {z : Str} (hz : z.length ≤ sizeLine) (q : Q (.int z.length) H) : rLenSt [.str z] H Q := ⟨z, rfl, hz, q⟩
theorem s_lenL {a : Addr} {xs : List V} (h : H a = some (.lst xs)) (q : Q (.int xs.length) H) : rLenQ K [.ref a] H Q := ⟨a, xs, rfl, .inl (SqL.of h), q⟩
theorem m_lenL {ds : List PyData} (m : Mem F0 H0 B F H own) (h : Da F x (.list ds)) (q : Q (.int ds.length) H) : rLenQ K [x] H Q := by
  obtain ⟨a, xs, rfl, e, aa⟩ := h.of_lst
  exact ⟨a, xs, rfl, .inl (SqL.of (m.fh _ _ e)), by rw [aa.length]; exact q⟩
theorem m_lenT {ds : List PyData} (m : Mem F0 H0 B F H own) (h : Da F x (.tuple ds)) (q : Q (.int ds.length) H) : rLenQ K [x] H Q := by
  obtain ⟨a, xs, rfl, e, aa⟩ := h.of_tup
  exact ⟨a, xs, rfl, .inr (SqT.of (m.fh _ _ e)), by rw [aa.length]; exact q⟩
/-- list(..) of data: data again, or one's own list -/
theorem m_listF {ds : List PyData} (m : Mem F0 H0 B F H own) (h : Da F x (.list ds)) (q : ∀ p F' H', Mem F0 H0 B F' H' own → Same F F' → Da F' (.ref p) (.list ds) → Q (.ref p) H') : rListQ K [x] H Q := by
  obtain ⟨a, xs, rfl, e, aa⟩ := h.of_lst
  exact ⟨a, xs, rfl, .inl (SqL.of (m.fh _ _ e)), m_lstF m aa q⟩
theorem m_listT {ds : List PyData} (m : Mem F0 H0 B F H own) (h : Da F x (.tuple ds)) (q : ∀ p F' H', Mem F0 H0 B F' H' own → Same F F' → Da F' (.ref p) (.list ds) → Q (.ref p) H') : rListQ K [x] H Q := by
  obtain ⟨a, xs, rfl, e, aa⟩ := h.of_tup
  exact ⟨a, xs, rfl, .inr (SqT.of (m.fh _ _ e)), m_lstF m aa q⟩
theorem m_listO {ds : List PyData} (m : Mem F0 H0 B F H own) (h : Da F x (.list ds)) (q : ∀ p vs H', Mem F0 H0 B F H' (cell p (.lst vs) :: own) → DaA F vs ds → Q (.ref p) H') : rListQ K [x] H Q := by
  obtain ⟨a, xs, rfl, e, aa⟩ := h.of_lst
  exact ⟨a, xs, rfl, .inl (SqL.of (m.fh _ _ e)), m_lst m fun p H' m' => q p xs H' m' aa⟩
theorem m_listTO {ds : List PyData} (m : Mem F0 H0 B F H own) (h : Da F x (.tuple ds)) (q : ∀ p vs H', Mem F0 H0 B F H' (cell p (.lst vs) :: own) → DaA F vs ds → Q (.ref p) H') : rListQ K [x] H Q := by
  obtain ⟨a, xs, rfl, e, aa⟩ := h.of_tup
  exact ⟨a, xs, rfl, .inr (SqT.of (m.fh _ _ e)), m_lst m fun p H' m' => q p xs H' m' aa⟩
theorem s_listQ {a : Addr} {xs : List V} (h : SqL K H a xs) (q : AlO H (.lst xs) Q) : rListQ K [.ref a] H Q := ⟨a, xs, rfl, .inl h, q⟩
theorem m_tupL {ds : List PyData} (m : Mem F0 H0 B F H own) (h : Da F x (.list ds)) (q : ∀ p F' H', Mem F0 H0 B F' H' own → Same F F' → Da F' (.ref p) (.tuple ds) → Q (.ref p) H') : rTupQ K [x] H Q := by
  obtain ⟨a, xs, rfl, e, aa⟩ := h.of_lst
  exact ⟨a, xs, rfl, .inl ⟨SqL.of (m.fh _ _ e), fun p hp => q p _ _ (m.allocF hp) (same_upd (m.fh.free hp)) (.tup upd_same (aa.mono (same_upd (m.fh.free hp))))⟩⟩
theorem s_min {i j : Int} (q : Q (.int (if j < i then j else i)) H) : rMin [.int i, .int j] H Q := ⟨i, j, rfl, q⟩
theorem s_max {i j : Int} (q : Q (.int (if j > i then j else i)) H) : rMaxx [.int i, .int j] H Q := ⟨i, j, rfl, q⟩
theorem s_addS {i j : Str} (hz : i.length + j.length ≤ sizeLine) (q : Q (.str (i ++ j)) H) : rAddSt (.str i) (.str j) H Q := ⟨i, j, rfl, rfl, hz, q⟩
/-- xs.append(e), xs one's own: the first, the second .. -/
theorem s_append {a : Addr} {xs : List V} (h : H a = some (.lst xs)) (hz : xs.length < sizeLine) (q : Q .non (upd H a (.lst (xs ++ [y])))) : rAppend (.ref a) [y] H Q := ⟨a, xs, y, rfl, rfl, h, hz, q⟩
theorem m_extend {a : Addr} {xs : List V} {ds : List PyData} (m : Mem F0 H0 B F H own) (hx : H a = some (.lst xs)) (h : Da F y (.list ds)) (hz : xs.length + ds.length ≤ sizeLine) (q : ∀ zs, DaA F zs ds → Q .non (upd H a (.lst (xs ++ zs)))) : rExtend (.ref a) [y] H Q := by
  obtain ⟨b, zs, rfl, e, aa⟩ := h.of_lst
  exact ⟨a, b, xs, zs, rfl, rfl, hx, m.fh _ _ e, by rw [aa.length]; exact hz, q zs aa⟩
/-- + of two lists of data -/
theorem m_cat {ds es : List PyData} (m : Mem F0 H0 B F H own) (h : Da F x (.list ds)) (h' : Da F y (.list es)) (hz : ds.length + es.length ≤ sizeLine) (q : ∀ p F' H', Mem F0 H0 B F' H' own → Same F F' → Da F' (.ref p) (.list (ds ++ es)) → Q (.ref p) H') : rCat x y H Q := by
  obtain ⟨a, xs, rfl, e, aa⟩ := h.of_lst
  obtain ⟨b, ys, rfl, e', bb⟩ := h'.of_lst
  exact ⟨a, b, xs, ys, rfl, rfl, m.fh _ _ e, m.fh _ _ e', by rw [aa.length, bb.length]; exact hz, m_lstF m (aa.append bb) q⟩
theorem m_rep {ds : List PyData} {k : Int} (m : Mem F0 H0 B F H own) (h : Da F x (.list ds)) (h0 : -(2 ^ 63) ≤ k) (h1 : k < 2 ^ 63) (hz : ds.length * k.toNat ≤ sizeLine) (q : ∀ p F' H', Mem F0 H0 B F' H' own → Same F F' → Da F' (.ref p) (.list (List.replicate k.toNat ds).flatten) → Q (.ref p) H') : rRep x (.int k) H Q := by
  obtain ⟨a, xs, rfl, e, aa⟩ := h.of_lst
  refine ⟨a, k, xs, rfl, rfl, m.fh _ _ e, h0, h1, by rw [aa.length]; exact hz, ?_⟩
  have r : ∀ n : Nat, DaA F (List.replicate n xs).flatten (List.replicate n ds).flatten := by
    intro n
    induction n with
    | zero => exact .nil
    | succ n ih => rw [List.replicate_succ, List.replicate_succ, List.flatten_cons, List.flatten_cons]; exact aa.append ih
  exact m_lstF m (r k.toNat) q
/-- slices -/
def cutA {α : Type} (xs : List α) (lo hi : Option Int) : List α := (xs.drop (HT.sIx xs.length 0 lo)).take (HT.sIx xs.length xs.length hi - HT.sIx xs.length 0 lo)
theorem cutA_le {α : Type} (xs : List α) (lo hi : Option Int) : (cutA xs lo hi).length ≤ xs.length := by
  unfold cutA
  rw [List.length_take, List.length_drop]
  omega
theorem DaA.cut {vs : List V} {ds : List PyData} (a : DaA F vs ds) (lo hi : Option Int) : DaA F (cutV vs lo hi) (cutA ds lo hi) := by
  unfold cutV cutA
  rw [a.length]
  exact (a.drop _).take _
def slQ (r : V → Option Int → Option Int → Hp → VK → Prop) (x : V) (Q : VK) (l u : Option Int) (H : Hp) : Prop := r x l u H Q
theorem s_sl {r : V → Option Int → Option Int → Hp → VK → Prop} {te : TE} {tl th : TO} (q : te σ H fun x H1 => tl σ H1 fun l H2 => th σ H2 fun u H3 => r x l u H3 Q) : tSl r te tl th σ H Q := q
theorem s_noP {QO : Option Int → Hp → Prop} (q : QO Option.none H) : tNoPart σ H QO := q
def ptQ (QO : Option Int → Hp → Prop) : VK := fun x H => ∃ i, x = .int i ∧ QO (some i) H
theorem s_part {QO : Option Int → Hp → Prop} (q : ta σ H (ptQ QO)) : tPart ta σ H QO := q
theorem s_pt {QO : Option Int → Hp → Prop} {i : Int} (q : QO (some i) H) : ptQ QO (.int i) H := ⟨i, rfl, q⟩
theorem m_slL {ds : List PyData} {lo hi : Option Int} (m : Mem F0 H0 B F H own) (h : Da F x (.list ds)) (q : ∀ p F' H', Mem F0 H0 B F' H' own → Same F F' → Da F' (.ref p) (.list (cutA ds lo hi)) → Q (.ref p) H') : rSlL K x lo hi H Q := by
  obtain ⟨a, xs, rfl, e, aa⟩ := h.of_lst
  exact ⟨a, xs, rfl, SqL.of (m.fh _ _ e), m_lstF m (aa.cut lo hi) q⟩
theorem s_slS {z : Str} {lo hi : Option Int} (hz : z.length ≤ sizeLine) (q : Q (.str (cutS z lo hi)) H) : rSlS (.str z) lo hi H Q := ⟨z, rfl, hz, q⟩
/-- in a written tuple of texts, of ints -/
theorem m_inT {neg : Bool} {vs : List V} {p : Addr} (h : SqT K H p vs) (hx : flatV x = true) (hf : vs.all flatV = true) (q : Q (.bl (if neg = true then !inV x vs else inV x vs)) H) : rIn K neg x (.ref p) H Q := ⟨p, vs, rfl, .inr h, hx, hf, q⟩
theorem m_join {a : Str} {ys : List Str} (m : Mem F0 H0 B F H own) (h : Da F y (.list (ys.map PyData.str))) (hz : (ys.map (·.length)).sum + ys.length * a.length ≤ 16777216) (q : Q (.str (Txt.join a ys)) H) : rJoin K (.str a) [y] H Q := by
  obtain ⟨b, xs, rfl, e, aa⟩ := h.of_lst
  obtain rfl := aa.strs_inv
  exact ⟨a, b, ys, rfl, rfl, .inl (SqL.of (m.fh _ _ e)), hz, q⟩
theorem s_join_o {a : Str} {ys : List Str} {b : Addr} (h : H b = some (.lst (ys.map V.str))) (hz : (ys.map (·.length)).sum + ys.length * a.length ≤ 16777216) (q : Q (.str (Txt.join a ys)) H) : rJoin K (.str a) [.ref b] H Q := ⟨a, b, ys, rfl, rfl, .inl (SqL.of h), hz, q⟩
end

/-! ### stores to one's own lists: the region is the first, second, third .. -/
section
variable {F0 H0 B F H A C S : Hp} {own : List Hp} {v : V} {p : Addr} {xs ys : List V} {k : Int} {j : Nat} {N : Hp → Prop} {Q : VK}
theorem m_set0 (m : Mem F0 H0 B F H (cell p (.lst xs) :: own)) (hj : ixN xs.length k = some j) (hy : xs.set j v = ys) (q : ∀ H', Mem F0 H0 B F H' (cell p (.lst ys) :: own) → N H') : rSetL (.ref p) (.int k) v H N := by
  subst hy
  exact s_setL m.at0 hj (q _ m.put)
theorem m_set1 (m : Mem F0 H0 B F H (A :: cell p (.lst xs) :: own)) (hj : ixN xs.length k = some j) (hy : xs.set j v = ys) (q : ∀ H', Mem F0 H0 B F H' (A :: cell p (.lst ys) :: own) → N H') : rSetL (.ref p) (.int k) v H N := by
  subst hy
  exact s_setL m.at1 hj (q _ m.put1)
theorem m_set2 (m : Mem F0 H0 B F H (A :: C :: cell p (.lst xs) :: own)) (hj : ixN xs.length k = some j) (hy : xs.set j v = ys) (q : ∀ H', Mem F0 H0 B F H' (A :: C :: cell p (.lst ys) :: own) → N H') : rSetL (.ref p) (.int k) v H N := by
  subst hy
  exact s_setL m.at2 hj (q _ m.put2)
theorem m_app0 (m : Mem F0 H0 B F H (cell p (.lst xs) :: own)) (hz : xs.length < sizeLine) (q : ∀ H', Mem F0 H0 B F H' (cell p (.lst (xs ++ [v])) :: own) → Q .non H') : rAppend (.ref p) [v] H Q := s_append m.at0 hz (q _ m.put)
theorem m_app1 (m : Mem F0 H0 B F H (A :: cell p (.lst xs) :: own)) (hz : xs.length < sizeLine) (q : ∀ H', Mem F0 H0 B F H' (A :: cell p (.lst (xs ++ [v])) :: own) → Q .non H') : rAppend (.ref p) [v] H Q := s_append m.at1 hz (q _ m.put1)
theorem m_app2 (m : Mem F0 H0 B F H (A :: C :: cell p (.lst xs) :: own)) (hz : xs.length < sizeLine) (q : ∀ H', Mem F0 H0 B F H' (A :: C :: cell p (.lst (xs ++ [v])) :: own) → Q .non H') : rAppend (.ref p) [v] H Q := s_append m.at2 hz (q _ m.put2)
theorem m_app3 (m : Mem F0 H0 B F H (A :: C :: S :: cell p (.lst xs) :: own)) (hz : xs.length < sizeLine) (q : ∀ H', Mem F0 H0 B F H' (A :: C :: S :: cell p (.lst (xs ++ [v])) :: own) → Q .non H') : rAppend (.ref p) [v] H Q := s_append m.at3 hz (q _ m.put3)
theorem s_augS {σ : L2.St} {to ti te : TE} {tget : V → V → Hp → VK → Prop} {tip : TIp} {tset : TSet} {n b c : L2.St → Hp → Prop} {r : VK}
    (q : to σ H fun o H1 => ti σ H1 fun i H2 => tget o i H2 fun x H3 => te σ H3 fun y H4 => tip x y H4 fun z H5 => tset o i z H5 fun H6 => n σ H6) : tAugS to ti te tget tip tset ⟨n, r, b, c⟩ σ H := q
/-- a list of one's own becomes data -/
theorem Mem.data {F0 H0 B F H : Hp} {own : List Hp} {ds : List PyData} (m : Mem F0 H0 B F H (cell p (.lst xs) :: own)) (a : DaA F xs ds) :
    ∃ F', Mem F0 H0 B F' H own ∧ Same F F' ∧ Da F' (.ref p) (.list ds) := ⟨_, m.freeze, un_l, Da.frozen m.fo0 a⟩
end
theorem atI_map {α β : Type} {f : α → β} {xs : List α} {i : Int} {x : α} (h : atI xs i = some x) : atI (xs.map f) i = some (f x) := by
  unfold atI at h ⊢
  rw [List.length_map]
  cases e : ixN xs.length i with
  | none => rw [e] at h; cases h
  | some j =>
    rw [e] at h
    show (xs.map f)[j]? = some (f x)
    rw [List.getElem?_map]
    have h' : xs[j]? = some x := h
    rw [h']
    rfl
theorem atI_lt {α : Type} {xs : List α} {i : Int} (h0 : 0 ≤ i) (h1 : i < (xs.length : Int)) : ∃ x, atI xs i = some x ∧ xs[i.toNat]? = some x := by
  have h : i.toNat < xs.length := by omega
  refine ⟨xs[i.toNat], ?_, List.getElem?_eq_getElem h⟩
  have e : i = ((i.toNat : Nat) : Int) := by omega
  have q := atI_nat (xs := xs) (j := i.toNat) (List.getElem?_eq_getElem h)
  rw [← e] at q
  exact q
theorem atI_mem {α : Type} {xs : List α} {i : Int} {x : α} (h : atI xs i = some x) : x ∈ xs := by
  obtain ⟨j, _, e, _⟩ := atI_get h
  exact List.mem_of_getElem? e
theorem atI_at {α : Type} {xs : List α} {i : Int} {j : Nat} {v : α} (e : i = (j : Int)) (h : xs[j]? = some v) : atI xs i = some v := by
  rw [e]
  exact atI_nat h
theorem Mem.startC {F H R C : Hp} (e : R = C) (s : Same F H) (r : Same R H) (d : Dj F R) : Mem F H R F H [C] := by
  subst e
  exact Mem.start s r d
/-! ### texts as lists of codes -/
def mkS (l : List Nat) : Str := ⟨l.toArray⟩
theorem mkS_list (l : List Nat) : (mkS l).cps.toList = l := by unfold mkS; simp
theorem mkS_len (l : List Nat) : (mkS l).length = l.length := by
  show l.toArray.size = l.length
  simp
theorem mkS_of (z : Str) : z = mkS z.cps.toList := by
  unfold mkS
  simp
theorem mkS_app (a b : List Nat) : mkS a ++ mkS b = mkS (a ++ b) := by
  show (⟨a.toArray ++ b.toArray⟩ : Str) = ⟨(a ++ b).toArray⟩
  simp
theorem mkS_one (c : Nat) : (⟨#[c]⟩ : Str) = mkS [c] := rfl
theorem mkS_inj {a b : List Nat} (h : mkS a = mkS b) : a = b := by
  have e := congrArg (fun z : Str => z.cps.toList) h
  simpa [mkS] using e
theorem s_addM {i j : List Nat} {H : Hp} {Q : VK} (hz : i.length + j.length ≤ sizeLine) (q : Q (.str (mkS (i ++ j))) H) : rAddSt (.str (mkS i)) (.str (mkS j)) H Q :=
  s_addS (by rw [mkS_len, mkS_len]; exact hz) (by rw [mkS_app]; exact q)
theorem sz100 {n : Nat} (h : n ≤ 10000000) : n ≤ sizeLine := Nat.le_trans h (by decide)
/-! ### isinstance of data -/
def tyD : PyData → String
  | .none => "NoneType"
  | .bool _ => "bool"
  | .int _ => "int"
  | .str _ => "str"
  | .list _ => "list"
  | .tuple _ => "tuple"
  | .dict _ => "dict"
theorem ty_da {F0 H0 B F H : Hp} {own : List Hp} {K : PySem.W.Frag} {x : V} {d : PyData} (m : Mem F0 H0 B F H own) (h : Da F x d) : TyX K H x (.type (tyD d)) := by
  cases h with
  | non => exact .base .non
  | bl b => exact .base (.bl b)
  | int i => exact .base (.int i)
  | str z => exact .base (.str z)
  | lst e a => exact .base (.lst (m.fh _ _ e))
  | tup e a => exact .base (.tup (m.fh _ _ e))
theorem c_isi {X : Cx} : CallR X (.builtin "isinstance") (rIsi X.K) := call_isi
theorem c_isiT {X : Cx} : CallR X (.builtin "isinstance") (rIsiT X.K) := call_isiT
section
variable {F0 H0 B F H : Hp} {own : List Hp} {K : PySem.W.Frag} {x : V} {d : PyData} {n : String} {r : Bool} {Q : VK}
theorem m_isi (m : Mem F0 H0 B F H own) (h : Da F x d) (hb : kitB (tyD d) n = some r) (q : Q (.bl r) H) : rIsi K [x, .ty n] H Q := ⟨x, .ty n, _, _, r, rfl, .ty n, ty_da m h, kit_ty hb, q⟩
end
/-! ### defs that call themselves -/
theorem FnE.never {P : Program} {w : World} {K : PySem.W.Frag} {mg : Str → Option Value} {base : Heap} {CX : CXT} {x : Str} {st : Stmt} {ps : List Str} (D : DefAt K mg x st) (hb : Bnd x st ps) (k : Nat) : FnE P w K mg base CX x k ps (fun _ _ _ _ => False) := by
  obtain ⟨f, fd, hm, F⟩ := D
  exact ⟨f, fd, hm, F.kp, F.bindsN hb, ⟨fun _ _ _ _ h => h.elim, fun _ _ _ _ _ _ _ _ _ _ _ _ _ h => h.elim⟩⟩
/-- data of such a depth, its lists of such lengths -/
def Fit : Nat → PyData → Prop
  | 0, .list _ => False
  | 0, .tuple _ => False
  | _, .dict _ => False
  | n + 1, .list ds => ds.length ≤ 1000000000 ∧ ∀ d ∈ ds, Fit n d
  | n + 1, .tuple ds => ds.length ≤ 1000000000 ∧ ∀ d ∈ ds, Fit n d
  | _, _ => True
theorem m_ixA {F0 H0 B F H : Hp} {own : List Hp} {K : PySem.W.Frag} {x : V} {ds : List PyData} {i : Int} {d : PyData} {Q : VK} (m : Mem F0 H0 B F H own) (h : Da F x (.list ds) ∨ Da F x (.tuple ds)) (hi : atI ds i = some d) (q : ∀ v, Da F v d → Q v H) : rIx K x (.int i) H Q := by
  rcases h with h | h
  · exact .inl (m_ixL m h hi q)
  · exact .inr (.inl (m_ixT m h hi q))
theorem m_lenA {F0 H0 B F H : Hp} {own : List Hp} {K : PySem.W.Frag} {x : V} {ds : List PyData} {Q : VK} (m : Mem F0 H0 B F H own) (h : Da F x (.list ds) ∨ Da F x (.tuple ds)) (q : Q (.int ds.length) H) : rLenQ K [x] H Q := by
  rcases h with h | h
  · exact m_lenL m h q
  · exact m_lenT m h q
/-- == of the same data -/
theorem m_eqD {F0 H0 B F H : Hp} {own : List Hp} {K : PySem.W.Frag} {x y : V} {d e : PyData} {Q : VK} (m : Mem F0 H0 B F H own) (h : Da F x d) (h' : Da F y e) (hs : SeqAt.shaped d = true) (hs' : SeqAt.shaped e = true) (q : Q (.bl (PyData.eqv d e)) H) : rEqD K x y H Q :=
  ⟨d, e, h.dp m.fh, h'.dp m.fh, hs, hs', q⟩
theorem m_neD {F0 H0 B F H : Hp} {own : List Hp} {K : PySem.W.Frag} {x y : V} {d e : PyData} {Q : VK} (m : Mem F0 H0 B F H own) (h : Da F x d) (h' : Da F y e) (hs : SeqAt.shaped d = true) (hs' : SeqAt.shaped e = true) (q : Q (.bl (!PyData.eqv d e)) H) : rNeD K x y H Q :=
  ⟨d, e, h.dp m.fh, h'.dp m.fh, hs, hs', q⟩
/-! ### more of texts -/
theorem glue_fold : ∀ (ls : List (List Nat)) (acc : Array Nat), (ls.map mkS).foldl (fun (acc : Array Nat) (p : Str) => acc ++ (mkS []).cps ++ p.cps) acc = acc ++ ls.flatten.toArray
  | [], acc => by simp
  | a :: r, acc => by
    rw [List.map_cons, List.foldl_cons, glue_fold r, List.flatten_cons]
    show acc ++ #[] ++ a.toArray ++ r.flatten.toArray = acc ++ (a ++ r.flatten).toArray
    simp
theorem join_nil (ls : List (List Nat)) : Txt.join (mkS []) (ls.map mkS) = mkS ls.flatten := by
  cases ls with
  | nil => rfl
  | cons a r =>
    show (⟨(r.map mkS).foldl (fun (acc : Array Nat) (p : Str) => acc ++ (mkS []).cps ++ p.cps) a.toArray⟩ : Str) = mkS (a :: r).flatten
    rw [glue_fold]
    unfold mkS
    simp
theorem cutS_mk (l : List Nat) (lo hi : Option Int) : cutS (mkS l) lo hi = mkS (cutA l lo hi) := by
  unfold cutS cutA
  rw [mkS_list, mkS_len]
  rfl
theorem s_slM {z : List Nat} {lo hi : Option Int} {H : Hp} {Q : VK} (hz : z.length ≤ sizeLine) (q : Q (.str (mkS (cutA z lo hi))) H) : rSlS (.str (mkS z)) lo hi H Q := s_slS (by rw [mkS_len]; exact hz) (by rw [cutS_mk]; exact q)
theorem s_lenM {z : List Nat} {H : Hp} {Q : VK} (hz : z.length ≤ sizeLine) (q : Q (.int z.length) H) : rLenSt [.str (mkS z)] H Q := s_lenS (by rw [mkS_len]; exact hz) (by rw [mkS_len]; exact q)
theorem s_ixM {z : List Nat} {i : Int} {c : Nat} {H : Hp} {Q : VK} (hz : z.length ≤ sizeLine) (hi : atI z i = some c) (q : Q (.str (mkS [c])) H) : rIxS (.str (mkS z)) (.int i) H Q := s_ixS (c := c) (by rw [mkS_len]; exact hz) (by rw [mkS_list]; exact hi) q
theorem dec_mkS {i j : List Nat} : decide (mkS i = mkS j) = decide (i = j) := by
  by_cases h : i = j
  · rw [h, decide_eq_true rfl, decide_eq_true rfl]
  · rw [decide_eq_false h, decide_eq_false (fun q => h (mkS_inj q))]
theorem s_eqM {i j : List Nat} {H : Hp} {Q : VK} (q : Q (.bl (decide (i = j))) H) : rEq (.str (mkS i)) (.str (mkS j)) H Q := s_eqS (by
  have e : decide (mkS i = mkS j) = decide (i = j) := by
    by_cases h : i = j
    · rw [h, decide_eq_true rfl, decide_eq_true rfl]
    · rw [decide_eq_false h, decide_eq_false (fun q => h (mkS_inj q))]
  rw [e]
  exact q)
theorem sIx0 (n d : Nat) (k : Nat) : HT.sIx n d (some (k : Int)) = min k n := HT.sIx_nat n d k
theorem cutA_nat {α : Type} (l : List α) (i j : Nat) (hj : j ≤ l.length) : cutA l (some (i : Int)) (some (j : Int)) = (l.drop i).take (j - i) := by
  unfold cutA
  rw [sIx0, sIx0, Nat.min_eq_left hj]
  by_cases h : i ≤ l.length
  · rw [Nat.min_eq_left h]
  · rw [List.drop_eq_nil_of_le (show l.length ≤ i by omega), List.drop_eq_nil_of_le (show l.length ≤ min i l.length by omega), List.take_nil, List.take_nil]
theorem cutA_to {α : Type} (l : List α) (j : Nat) : cutA l none (some (j : Int)) = l.take j := by
  unfold cutA
  rw [HT.sIx_none, sIx0, List.drop_zero, Nat.sub_zero]
  by_cases h : j ≤ l.length
  · rw [Nat.min_eq_left h]
  · rw [Nat.min_eq_right (by omega), List.take_length, List.take_of_length_le (by omega)]
theorem cutA_from {α : Type} (l : List α) (i : Nat) : cutA l (some (i : Int)) none = l.drop i := by
  unfold cutA
  rw [HT.sIx_none, sIx0]
  by_cases h : i ≤ l.length
  · rw [Nat.min_eq_left h, List.take_of_length_le (by rw [List.length_drop]; omega)]
  · rw [Nat.min_eq_right (by omega), Nat.sub_self, List.take_zero, List.drop_eq_nil_of_le (by omega)]
theorem DaA.nats {F : Hp} : ∀ {l : List Nat}, DaA F (l.map fun j : Nat => V.int (j : Int)) (l.map fun j : Nat => PyData.int (j : Int))
  | [] => .nil
  | j :: r => .cons (.int _) (DaA.nats (l := r))
theorem DaA.map {α : Type} {F : Hp} {f : α → V} {g : α → PyData} (h : ∀ a, Da F (f a) (g a)) : ∀ l : List α, DaA F (l.map f) (l.map g)
  | [] => .nil
  | a :: r => .cons (h a) (DaA.map h r)
theorem DaA.cons_inv {F : Hp} {vs : List V} {d : PyData} {ds : List PyData} (h : DaA F vs (d :: ds)) : ∃ v r, vs = v :: r ∧ Da F v d ∧ DaA F r ds := by
  cases h with
  | cons a b => exact ⟨_, _, rfl, a, b⟩
theorem DaA.nil_inv {F : Hp} {vs : List V} (h : DaA F vs []) : vs = [] := by
  cases h
  rfl
/-- a new tuple of any values, read at once -/
theorem m_tupV {F0 H0 B F H : Hp} {own : List Hp} {Q : VK} {vs : List V} (m : Mem F0 H0 B F H own) (hz : vs.length ≤ 1000) (q : ∀ p F' H', Mem F0 H0 B F' H' own → Same F F' → H' p = some (.tup vs) → Q (.ref p) H') : vs.length ≤ sizeLine ∧ AlO H (.tup vs) Q :=
  ⟨Nat.le_of_lt (small1000 hz), fun p hp => q p _ _ (m.allocF hp) (same_upd (m.fh.free hp)) upd_same⟩
section
variable {Q : VK} {H : Hp} {A B : Prop}
theorem s_isN0 (q : Q (.bl true) H) : rIsN .non .non H Q := ⟨rfl, q⟩
theorem s_isNI {i : Int} (q : Q (.bl false) H) : rIsN (.int i) .non H Q := ⟨rfl, by rw [decide_eq_false (fun z => nomatch z)]; exact q⟩
theorem s_isNS {i : Str} (q : Q (.bl false) H) : rIsN (.str i) .non H Q := ⟨rfl, by rw [decide_eq_false (fun z => nomatch z)]; exact q⟩
theorem s_isNR {i : Addr} (q : Q (.bl false) H) : rIsN (.ref i) .non H Q := ⟨rfl, by rw [decide_eq_false (fun z => nomatch z)]; exact q⟩
theorem s_notN0 (q : Q (.bl false) H) : rNotN .non .non H Q := ⟨rfl, q⟩
theorem s_notNI {i : Int} (q : Q (.bl true) H) : rNotN (.int i) .non H Q := ⟨rfl, by rw [decide_eq_false (fun z => nomatch z)]; exact q⟩
theorem s_notNS {i : Str} (q : Q (.bl true) H) : rNotN (.str i) .non H Q := ⟨rfl, by rw [decide_eq_false (fun z => nomatch z)]; exact q⟩
theorem s_notNR {i : Addr} (q : Q (.bl true) H) : rNotN (.ref i) .non H Q := ⟨rfl, by rw [decide_eq_false (fun z => nomatch z)]; exact q⟩
theorem s_eqrI {i : Int} (q : Q (.bl true) H) : rEq (.int i) (.int i) H Q := s_eqI (by rw [decide_eq_true rfl]; exact q)
theorem iteNT (q : B) : if (!true) = true then A else B := by
  show if false = true then A else B
  exact iteF q
theorem iteNF (q : A) : if (!false) = true then A else B := by
  show if true = true then A else B
  exact iteT q
end
theorem s_isNB {Q : VK} {H : Hp} {i : Bool} (q : Q (.bl false) H) : rIsN (.bl i) .non H Q := ⟨rfl, by rw [decide_eq_false (fun z => nomatch z)]; exact q⟩
theorem m_tupG {F0 H0 B F H : Hp} {own : List Hp} {K : PySem.W.Frag} {σ : L2.St} {v : V} {ds : List PyData} {n : Nat} {t : TGs} {N : L2.St → Hp → Prop} (m : Mem F0 H0 B F H own) (h : Da F v (.tuple ds)) (hn : ds.length = n) (q : ∀ xs, DaA F xs ds → t xs σ H N) : gTup K n t v σ H N := by
  obtain ⟨a, xs, rfl, e, aa⟩ := h.of_tup
  exact s_tupG (SqT.of (m.fh _ _ e)) (by rw [aa.length]; exact hn) (q xs aa)
theorem m_tupG2 {F0 H0 B F H : Hp} {own : List Hp} {K : PySem.W.Frag} {σ : L2.St} {v : V} {d e : PyData} {t u : TG} {N : L2.St → Hp → Prop} (m : Mem F0 H0 B F H own) (h : Da F v (.tuple [d, e])) (q : ∀ x y, Da F x d → Da F y e → t x σ H fun σ' H' => gCons u gNil [y] σ' H' N) : gTup K 2 (gCons t (gCons u gNil)) v σ H N :=
  m_tupG m h rfl fun xs aa => by
    obtain ⟨x, r, rfl, hx, aa⟩ := aa.cons_inv
    obtain ⟨y, r, rfl, hy, aa⟩ := aa.cons_inv
    obtain rfl := aa.nil_inv
    exact s_gCons (q x y hx hy)
theorem m_tupG3 {F0 H0 B F H : Hp} {own : List Hp} {K : PySem.W.Frag} {σ : L2.St} {v : V} {d e f : PyData} {t u w : TG} {N : L2.St → Hp → Prop} (m : Mem F0 H0 B F H own) (h : Da F v (.tuple [d, e, f])) (q : ∀ x y z, Da F x d → Da F y e → Da F z f → t x σ H fun σ' H' => gCons u (gCons w gNil) [y, z] σ' H' N) : gTup K 3 (gCons t (gCons u (gCons w gNil))) v σ H N :=
  m_tupG m h rfl fun xs aa => by
    obtain ⟨x, r, rfl, hx, aa⟩ := aa.cons_inv
    obtain ⟨y, r, rfl, hy, aa⟩ := aa.cons_inv
    obtain ⟨z, r, rfl, hz, aa⟩ := aa.cons_inv
    obtain rfl := aa.nil_inv
    exact s_gCons (q x y z hx hy hz)
def kitB2 (a n m : String) : Option Bool := match kitB a n with
  | some true => some true
  | some false => kitB a m
  | Option.none => Option.none
theorem kit2 {K : PySem.W.Frag} {a n m : String} {r : Bool} (h : kitB2 a n m = some r) : PySem.W.kitAny K (.type a) [.type n, .type m] = some r := by
  unfold kitB2 at h
  unfold PySem.W.kitAny
  have e1 : PySem.W.kitOne K (.type a) (.type n) = kitB a n := rfl
  have e2 : PySem.W.kitOne K (.type a) (.type m) = kitB a m := rfl
  rw [e1]
  cases q : kitB a n with
  | none => rw [q] at h; cases h
  | some b =>
    rw [q] at h
    cases b with
    | true => exact h
    | false =>
      show PySem.W.kitAny K (.type a) [.type m] = some r
      unfold PySem.W.kitAny
      have h' : kitB a m = some r := h
      rw [e2, h']
      cases r <;> rfl
theorem m_isiT {F0 H0 B F H : Hp} {own : List Hp} {K : PySem.W.Frag} {x : V} {d : PyData} {tp : Addr} {n m : String} {r : Bool} {Q : VK} (M : Mem F0 H0 B F H own) (h : Da F x d) (ht : H tp = some (.tup [.ty n, .ty m])) (hb : kitB2 (tyD d) n m = some r) (q : Q (.bl r) H) : rIsiT K [x, .ref tp] H Q :=
  ⟨x, tp, [.ty n, .ty m], _, [.type n, .type m], r, rfl, ht, .cons (.ty n) (.cons (.ty m) .nil), ty_da M h, kit2 hb, q⟩
end DL

/-! DLo: objects, methods, regions of several cells. -/
namespace DL
open PySem PySem.Spec PyProof.Rows L2

/-! ### regions joined and parted -/
section
variable {F0 H0 B F H R R' A C F' H' : Hp} {own : List Hp}
theorem un_dj {A C S : Hp} (a : Dj A S) (c : Dj C S) : Dj (un A C) S := fun b h => by
  rcases un_ne h with z | z
  · exact a b z
  · exact c b z
theorem un_sub {A C S : Hp} (a : Same A S) (c : Same C S) : Same (un A C) S := fun b o h => by
  rcases un_some h with z | ⟨_, z⟩
  · exact a b o z
  · exact c b o z
theorem un_none {A C : Hp} {b : Addr} (a : A b = Option.none) (c : C b = Option.none) : un A C b = Option.none := by
  unfold un
  rw [a]
  exact c
theorem un_left {A C : Hp} {b : Addr} {o : HO} (a : A b = some o) : un A C b = some o := un_l b o a
theorem un_right {A C : Hp} {b : Addr} {o : HO} (d : Dj A C) (c : C b = some o) : un A C b = some o := un_r d b o c
theorem Mem.dj01 (m : Mem F0 H0 B F H (A :: C :: own)) : Dj A C := (List.pairwise_cons.mp m.oo).1 C List.mem_cons_self
theorem Mem.join (m : Mem F0 H0 B F H (A :: C :: own)) : Mem F0 H0 B F H (un A C :: own) := by
  have oo := List.pairwise_cons.mp m.oo
  have oo2 := List.pairwise_cons.mp oo.2
  refine ⟨m.ff, m.fh, fun R q => ?_, fun R q => ?_, List.pairwise_cons.mpr ⟨fun R q => un_dj (oo.1 R (List.mem_cons_of_mem _ q)) (oo2.1 R q), oo2.2⟩, m.keep, m.dom, m.newF, fun R q a e => ?_⟩
  · rcases List.mem_cons.mp q with rfl | q
    · exact un_sub (m.oh A List.mem_cons_self) (m.oh C (List.mem_cons_of_mem _ List.mem_cons_self))
    · exact m.oh R (List.mem_cons_of_mem _ (List.mem_cons_of_mem _ q))
  · rcases List.mem_cons.mp q with rfl | q
    · exact (un_dj (m.fo A List.mem_cons_self).symm (m.fo C (List.mem_cons_of_mem _ List.mem_cons_self)).symm).symm
    · exact m.fo R (List.mem_cons_of_mem _ (List.mem_cons_of_mem _ q))
  · rcases List.mem_cons.mp q with rfl | q
    · rcases un_ne e with z | z
      · exact m.newO A List.mem_cons_self a z
      · exact m.newO C (List.mem_cons_of_mem _ List.mem_cons_self) a z
    · exact m.newO R (List.mem_cons_of_mem _ (List.mem_cons_of_mem _ q)) a e
theorem Mem.part (m : Mem F0 H0 B F H (un A C :: own)) (d : Dj A C) : Mem F0 H0 B F H (A :: C :: own) := by
  have oo := List.pairwise_cons.mp m.oo
  have sA : ∀ {S : Hp}, Dj (un A C) S → Dj A S := fun {S} h b e => h b (by obtain ⟨o, z⟩ := sn e; exact ns (un_left z))
  have sC : ∀ {S : Hp}, Dj (un A C) S → Dj C S := fun {S} h b e => h b (by obtain ⟨o, z⟩ := sn e; exact ns (un_right d z))
  refine ⟨m.ff, m.fh, fun R q => ?_, fun R q => ?_, List.pairwise_cons.mpr ⟨fun R q => ?_, List.pairwise_cons.mpr ⟨fun R q => sC (oo.1 R q), oo.2⟩⟩, m.keep, m.dom, m.newF, fun R q a e => ?_⟩
  · rcases List.mem_cons.mp q with rfl | q
    · exact fun b o z => m.oh _ List.mem_cons_self b o (un_left z)
    · rcases List.mem_cons.mp q with rfl | q
      · exact fun b o z => m.oh _ List.mem_cons_self b o (un_right d z)
      · exact m.oh R (List.mem_cons_of_mem _ q)
  · rcases List.mem_cons.mp q with rfl | q
    · exact (sA (m.fo _ List.mem_cons_self).symm).symm
    · rcases List.mem_cons.mp q with rfl | q
      · exact (sC (m.fo _ List.mem_cons_self).symm).symm
      · exact m.fo R (List.mem_cons_of_mem _ q)
  · rcases List.mem_cons.mp q with rfl | q
    · exact d
    · exact sA (oo.1 R q)
  · rcases List.mem_cons.mp q with rfl | q
    · obtain ⟨o, z⟩ := sn e
      exact m.newO _ List.mem_cons_self a (ns (un_left z))
    · rcases List.mem_cons.mp q with rfl | q
      · obtain ⟨o, z⟩ := sn e
        exact m.newO _ List.mem_cons_self a (ns (un_right d z))
      · exact m.newO R (List.mem_cons_of_mem _ q) a e
theorem Mem.start2 (s : Same F H) (r : Same A H) (r' : Same C H) (d : Dj F A) (d' : Dj F C) (e : Dj A C) : Mem F H (un A C) F H [A, C] :=
  (Mem.start s (un_sub r r') (un_dj d.symm d'.symm).symm).part e
end

/-! ### defs of a class -/
structure FnM (P : Program) (w : World) (K : PySem.W.Frag) (mg : Str → Option Value) (base : Heap) (CX : CXT) (C : Addr) (m : Str) (k : Nat) (ps : List Str) (sp : Sp) : Prop where
  ex : ∃ (f : Addr) (fd : FuncData), Meth K C m f ∧ Binds K fd ps [] ∧ FnOk P w K mg base CX k f fd ps sp
def MetAt (K : PySem.W.Frag) (C : Addr) (m qual : Str) (st : Stmt) : Prop := ∃ (f : Addr) (fd : FuncData), Meth K C m f ∧ FunD K m qual (defArgs st) (defBody st) (defScope st) [] [] f fd
abbrev BndM (x : Str) (qual : Str) (st : Stmt) (ps : List Str) : Prop := ∀ (kV doc pm : Value) (an : Option Addr) (cdv ct : Value) (us : List Value), us.length = ps.length → bindArgs (PySem.W.fnOf x qual (defArgs st) (defBody st) (defScope st) .none kV doc pm an cdv ct) ⟨us, []⟩ = pure (ps.zip us)
section
variable {P : Program} {w : World} {K : PySem.W.Frag} {mg : Str → Option Value} {base : Heap} {CX : CXT} {C : Addr} {x qual : Str} {st : Stmt} {N ps : List Str} {k : Nat} {sp : Sp}
theorem fnMX (D : MetAt K C x qual st) (S : FnScope N ps (defScope st)) (hb : BndM x qual st ps) (len : ∀ vs H Q E, sp vs H Q E → vs.length = ps.length)
    (hbody : ∀ (f : Addr) (cdv : Value) (A : Around) (outer : List Env) (s : Shared) (H : Hp) (vs : List V) (Q : VK) (E : XK), Room k (A.deeper (envOfC qual (defScope st) s.heap.objs.size f cdv)) → sp vs H Q E →
      ∃ t, PSs (cxOf CX P w K mg base N qual (defScope st) f cdv A outer s H E) (defBody st) t ∧ t ⟨fun _ H' => Q .non H', Q, fun _ _ => False, fun _ _ => False⟩ (start N vs) H) : FnM P w K mg base CX C x (k + 1) ps sp := by
  obtain ⟨f, fd, hm, F⟩ := D
  exact ⟨f, fd, hm, F.bindsN hb, F.ok S len fun cdv A outer s H vs Q E hr h => hbody f cdv A outer s H vs Q E hr h⟩
theorem fnM (D : MetAt K C x qual st) (S : FnScope N ps (defScope st)) (hb : BndM x qual st ps) (len : ∀ vs H Q E, sp vs H Q E → vs.length = ps.length)
    (hbody : ∀ (f : Addr) (cdv : Value) (A : Around) (outer : List Env) (s : Shared) (H : Hp) (vs : List V) (Q : VK) (E : XK), Room k (A.deeper (envOfC qual (defScope st) s.heap.objs.size f cdv)) → sp vs H Q E →
      ∃ t, PSs (cxOf CX0 P w K mg base N qual (defScope st) f cdv A outer s H E).nox (defBody st) t ∧ t ⟨fun _ H' => Q .non H', Q, fun _ _ => False, fun _ _ => False⟩ (start N vs) H) : FnM P w K mg base CX0 C x (k + 1) ps sp :=
  fnMX D S hb len fun f cdv A outer s H vs Q E hr h => (let ⟨t, a, b⟩ := hbody f cdv A outer s H vs Q E hr h; ⟨t, a.nox, b⟩)
/-- a class that is called: its __init__ -/
structure FnI (P : Program) (w : World) (K : PySem.W.Frag) (mg : Str → Option Value) (base : Heap) (CX : CXT) (x : Str) (C : Addr) (k : Nat) (ps : List Str) (sp : Sp) : Prop where
  ex : ∃ (f : Addr) (fd : FuncData), mg x = some (.ref C) ∧ Mk K C f ∧ Binds K fd ps [] ∧ FnOk P w K mg base CX k f fd ps sp
def IniAt (K : PySem.W.Frag) (mg : Str → Option Value) (x : Str) (C : Addr) (qual : Str) (st : Stmt) : Prop := ∃ (f : Addr) (fd : FuncData), mg x = some (.ref C) ∧ Mk K C f ∧ FunD K "__init__" qual (defArgs st) (defBody st) (defScope st) [] [] f fd
theorem fnI (D : IniAt K mg x C qual st) (S : FnScope N ps (defScope st)) (hb : BndM "__init__" qual st ps) (len : ∀ vs H Q E, sp vs H Q E → vs.length = ps.length)
    (hbody : ∀ (f : Addr) (cdv : Value) (A : Around) (outer : List Env) (s : Shared) (H : Hp) (vs : List V) (Q : VK) (E : XK), Room k (A.deeper (envOfC qual (defScope st) s.heap.objs.size f cdv)) → sp vs H Q E →
      ∃ t, PSs (cxOf CX0 P w K mg base N qual (defScope st) f cdv A outer s H E).nox (defBody st) t ∧ t ⟨fun _ H' => Q .non H', Q, fun _ _ => False, fun _ _ => False⟩ (start N vs) H) : FnI P w K mg base CX0 x C (k + 1) ps sp := by
  obtain ⟨f, fd, hg, hm, F⟩ := D
  exact ⟨f, fd, hg, hm, F.bindsN hb, F.ok S len fun cdv A outer s H vs Q E hr h => (let ⟨t, a, b⟩ := hbody f cdv A outer s H vs Q E hr h; ⟨t, a.nox, b⟩)⟩
end
section
variable {X : Cx} {CX : CXT} {k : Nat} {C : Addr} {ps : List Str} {sp : Sp} {E : XK} {x m : Str} {p pos apos : Pos} {e o : Expr} {es : List Expr} {ta : TE} {t : TA}
theorem pe_m {pl : Sem Bool} (G : FnM X.prog X.w X.K X.mg X.base CX C m k ps sp) (he : PE X o ta) (c : Cls X.K C) (hr : Room k X.A) (hx : Passes CX X E) (ha : PA X (e :: es) t)
    (hst : starEach (e :: es) X.env = (false, eval e X.env) :: starEach es X.env := by rfl) (hpl : (backTo pos (starEach es X.env)).any (·.1) = false := by rfl)
    (ht : eval (.Call (.Attribute o m apos) (e :: es) [] pos) X.env = (do
      let ov ← eval o X.env
      standAt apos.atName
      let (f, first) ← holding [ov] (getMethod ov m pl)
      callWith pos f first (backTo pos (starEach (e :: es) X.env)) (backToKw pos (keywordEach [] X.env))) := by rfl) :
    PE X (.Call (.Attribute o m apos) (e :: es) [] pos) (tMeth C m sp [] E ta t) := by
  obtain ⟨f, fd, hm, hb, F⟩ := G.ex
  exact pe_meth he c hm F hr hb .nil hx ha hst hpl ht
theorem pe_m0 {pl : Sem Bool} (G : FnM X.prog X.w X.K X.mg X.base CX C m k ps sp) (he : PE X o ta) (c : Cls X.K C) (hr : Room k X.A) (hx : Passes CX X E)
    (ht : eval (.Call (.Attribute o m apos) [] [] pos) X.env = (do
      let ov ← eval o X.env
      standAt apos.atName
      let (f, first) ← holding [ov] (getMethod ov m pl)
      callWith pos f first (backTo pos (starEach [] X.env)) (backToKw pos (keywordEach [] X.env))) := by rfl) :
    PE X (.Call (.Attribute o m apos) [] [] pos) (tMeth C m sp [] E ta tNil) := by
  obtain ⟨f, fd, hm, hb, F⟩ := G.ex
  exact pe_meth0 he c hm F hr hb .nil hx ht
theorem pe_i (G : FnI X.prog X.w X.K X.mg X.base CX x C k ps sp) (hr : Room (k + 1) X.A) (hg : Gl X x) (hx : Passes CX X E)
    (ha : PA X (e :: es) t) (hdb : (x == ("__debug__" : Str)) = false := by decide) (he : starEach (e :: es) X.env = (false, eval e X.env) :: starEach es X.env := by rfl) (hpl : (backTo pos (starEach es X.env)).any (·.1) = false := by rfl) :
    PE X (.Call (.Name x p) (e :: es) [] pos) (tMake C sp [] E t) := by
  obtain ⟨f, fd, hm, M, hb, F⟩ := G.ex
  exact pe_make M F hr hg hm hb .nil hx ha hdb he hpl
theorem pe_i0 (G : FnI X.prog X.w X.K X.mg X.base CX x C k ps sp) (hr : Room (k + 1) X.A) (hg : Gl X x) (hx : Passes CX X E) (hdb : (x == ("__debug__" : Str)) = false := by decide) : PE X (.Call (.Name x p) [] [] pos) (tMake C sp [] E tNil) := by
  obtain ⟨f, fd, hm, M, hb, F⟩ := G.ex
  exact pe_make0 M F hr hg hm hb .nil hx hdb
theorem pe_cI {i : Int} (hg : Gl X x) (h : ∃ t, X.mg x = some (.int i t)) (hd : (x == ("__debug__" : Str)) = false := by decide) : PE X (.Name x pos) (tC (.int i)) := by
  obtain ⟨t, hm⟩ := h
  exact pe_glob hg hm ⟨_, rfl⟩ hd
theorem pe_cS {z : Str} (hg : Gl X x) (h : ∃ t, X.mg x = some (.str z t)) (hd : (x == ("__debug__" : Str)) = false := by decide) : PE X (.Name x pos) (tC (.str z)) := by
  obtain ⟨t, hm⟩ := h
  exact pe_glob hg hm ⟨_, rfl⟩ hd
end
/-! steps -/
section
variable {σ : L2.St} {H : Hp} {Q : VK} {ta tv : TE} {t : TA} {C : Addr} {m f : Str} {sp : Sp} {E : XK} {K : PySem.W.Frag} {a dx : Addr} {fs : List (Str × V)} {v : V} {n b c : L2.St → Hp → Prop} {r : VK} {y z : V}
def mtQ (C : Addr) (m : Str) (sp : Sp) (E : XK) (t : TA) (σ : L2.St) (Q : VK) : VK := fun x H1 => ∃ a dx fs, x = .ref a ∧ H1 a = some (.ins C dx fs) ∧ fs.lookup m = Option.none ∧ t σ H1 fun vs H2 => sp (x :: (vs ++ [])) H2 Q E
theorem s_meth (q : ta σ H (mtQ C m sp E t σ Q)) : tMeth C m sp [] E ta t σ H Q := q
theorem s_mt (h : H a = some (.ins C dx fs)) (hl : fs.lookup m = Option.none) (q : t σ H fun vs H2 => sp (.ref a :: vs) H2 Q E) : mtQ C m sp E t σ Q (.ref a) H :=
  ⟨a, dx, fs, rfl, h, hl, by simp only [List.append_nil]; exact q⟩
def fdQ (K : PySem.W.Frag) (f : Str) (Q : VK) : VK := fun x H1 => ∃ a C dx fs v, x = .ref a ∧ H1 a = some (.ins C dx fs) ∧ Cls K C ∧ NoAttr K C f ∧ fs.lookup f = some v ∧ Q v H1
theorem s_fld (q : ta σ H (fdQ K f Q)) : tFld K ta f σ H Q := q
theorem s_fd (h : H a = some (.ins C dx fs)) (hc : Cls K C) (hn : NoAttr K C f) (hl : fs.lookup f = some v) (q : Q v H) : fdQ K f Q (.ref a) H := ⟨a, C, dx, fs, v, rfl, h, hc, hn, hl, q⟩
def sfQ (K : PySem.W.Frag) (f : Str) (y : V) (n : L2.St → Hp → Prop) (σ : L2.St) : VK := fun x H2 => ∃ a C dx fs, x = .ref a ∧ H2 a = some (.ins C dx fs) ∧ Cls K C ∧ NoAttr K C f ∧ fs.length < 1000 ∧ n σ (upd H2 a (.ins C dx (putF f y fs)))
theorem s_sfld (q : tv σ H fun y H1 => ta σ H1 (sfQ K f y n σ)) : sFld K ta tv f ⟨n, r, b, c⟩ σ H := q
theorem s_sf (h : H a = some (.ins C dx fs)) (hc : Cls K C) (hn : NoAttr K C f) (hl : fs.length < 1000) (q : n σ (upd H a (.ins C dx (putF f y fs)))) : sfQ K f y n σ (.ref a) H := ⟨a, C, dx, fs, rfl, h, hc, hn, hl, q⟩
def mkQ (C : Addr) (sp : Sp) (E : XK) (Q : VK) : List V → Hp → Prop := fun vs H1 => ∀ x dx, H1 x = Option.none → H1 dx = Option.none → dx ≠ x → sp (.ref x :: (vs ++ [])) (upd (upd H1 dx (.own x)) x (.ins C dx [])) (fun v H2 => v = .non ∧ Q (.ref x) H2) E
theorem s_make (q : t σ H (mkQ C sp E Q)) : tMake C sp [] E t σ H Q := q
/-- a new instance: its two cells are a region of one's own -/
theorem m_mk {F0 H0 B F : Hp} {own : List Hp} {vs : List V} (M : Mem F0 H0 B F H own)
    (q : ∀ x R H', Mem F0 H0 B F H' (R :: own) → (∃ dx, R x = some (.ins C dx []) ∧ R dx = some (.own x)) → sp (.ref x :: vs) H' (fun v H2 => v = .non ∧ Q (.ref x) H2) E) : mkQ C sp E Q vs H := by
  intro x dx nx nd ne
  rw [List.append_nil]
  have M1 := M.alloc (o := .own x) nd
  have nx' : upd H dx (.own x) x = Option.none := by rw [upd_ne ne.symm]; exact nx
  have M2 := M1.alloc (o := .ins C dx []) nx'
  have M3 := M2.join
  exact q x _ _ M3 ⟨dx, un_left cell_same, un_right M2.dj01 cell_same⟩
end
/-! ### lists that stand: in a region, lent or owned -/
section
variable {F0 H0 B F H : Hp} {own : List Hp} {σ : L2.St} {K : PySem.W.Frag} {g : TG} {tb : TS} {n : L2.St → Hp → Prop} {r : VK} {Q : VK} {tt : TT} {te : TE} {vs : List Nat}
theorem m_forQ {a : Addr} {xs : List V} {ds : List PyData} (m : Mem F0 H0 B F H own) (hx : SqL K H a xs) (aa : DaA F xs ds) (I : Nat → L2.St → Hp → List Hp → Prop) (hk : ∀ i σ F' H' own', Same F F' → Mem F0 H0 B F' H' own' → I i σ F' own' → SqL K H' a xs) (h0 : I 0 σ F own)
    (hs : ∀ (i : Nat) d v σ F' H' own', ds[i]? = some d → Same F F' → Mem F0 H0 B F' H' own' → Da F' v d → I i σ F' own' → g v σ H' fun σ2 H2 => tb ⟨Nx F0 H0 B F (I (i + 1)), r, n, Nx F0 H0 B F (I (i + 1))⟩ σ2 H2)
    (hd : ∀ σ F' H' own', Same F F' → Mem F0 H0 B F' H' own' → I ds.length σ F' own' → n σ H') : lsQ K (fun J H1 => ForW J g tb n r σ H1) (.ref a) H := by
  have at_ : ∀ {H : Hp} {i : Nat} {σ : L2.St}, Nx F0 H0 B F (I i) σ H → SqL K H a xs := fun {H i σ} ⟨F', own', s, m', hI⟩ => hk _ _ _ _ _ s m' hI
  have el := aa.length
  refine ⟨a, rfl, ⟨xs, hx⟩, for_gen (k := xs.length) (fun i => Nx F0 H0 B F (I i)) ⟨F, own, .refl F, m, h0⟩ (fun i σ H hi p => ⟨xs, xs[i], at_ p, by simp [hi]⟩) (fun σ H p => ⟨xs, at_ p, Nat.le_refl _⟩) (fun i σ H hi p x H' y => ?_) fun σ H ⟨F', own', s, m', hI⟩ => hd σ F' H own' s m' (el ▸ hI)⟩
  obtain ⟨rfl, y⟩ := y
  have ex := y xs (at_ p)
  obtain ⟨F', own', s, m', hI⟩ := p
  obtain ⟨d, ed, dd⟩ := aa.exV ex
  exact hs i d x σ F' _ own' ed s m' (dd.mono s) hI
theorem m_lcQ {a : Addr} {xs : List V} {ds : List PyData} (m : Mem F0 H0 B F H own) (hx : SqL K H a xs) (aa : DaA F xs ds) (I : Nat → List V → Hp → List Hp → Prop) (hk : ∀ i D acc F' H' own', Same F F' → Mem F0 H0 B F' H' (cell D (.lst acc) :: own') → I i acc F' own' → SqL K H' a xs) (h0 : I 0 [] F own)
    (hs : ∀ (i : Nat) d v acc D F' H' own', ds[i]? = some d → Same F F' → Mem F0 H0 B F' H' (cell D (.lst acc) :: own') → Da F' v d → I i acc F' own' → g v (wipe σ vs) H' fun σ2 H2 => wipe σ2 vs = wipe σ vs ∧ tt σ2 H2 fun b H3 =>
      if b = true then te σ2 H3 (LcE D (NxC F0 H0 B F D (I (i + 1)))) else NxC F0 H0 B F D (I (i + 1)) H3)
    (hd : ∀ D acc F' H' own', Same F F' → Mem F0 H0 B F' H' (cell D (.lst acc) :: own') → I ds.length acc F' own' → Q (.ref D) H') : lsQ K (fun J H1 => LcW J g tt te vs Q σ H1) (.ref a) H := by
  have el := aa.length
  refine ⟨a, rfl, ⟨xs, hx⟩, lc_gen (k := xs.length) fun D hD => ?_⟩
  have at_ : ∀ {H : Hp} {i : Nat}, NxC F0 H0 B F D (I i) H → SqL K H a xs := fun {H i} ⟨F', own', acc, s, m', hI⟩ => hk _ _ _ _ _ _ s m' hI
  refine ⟨fun i => NxC F0 H0 B F D (I i), ⟨F, own, [], .refl F, m.alloc hD, h0⟩, fun i H hi p => ⟨xs, xs[i], at_ p, by simp [hi]⟩, fun H p => ⟨xs, at_ p, Nat.le_refl _⟩, fun i H hi p x H' y => ?_, fun H ⟨F', own', acc, s, m', hI⟩ => hd D acc F' H own' s m' (el ▸ hI)⟩
  obtain ⟨rfl, y⟩ := y
  have ex := y xs (at_ p)
  obtain ⟨F', own', acc, s, m', hI⟩ := p
  obtain ⟨d, ed, dd⟩ := aa.exV ex
  exact hs i d x acc D F' _ own' ed s m' (dd.mono s) hI
theorem s_slQ {a : Addr} {xs : List V} {lo hi : Option Int} (h : SqL K H a xs) (q : AlO H (.lst (cutV xs lo hi)) Q) : rSlL K (.ref a) lo hi H Q := ⟨a, xs, rfl, h, q⟩
theorem s_lenQ {a : Addr} {xs : List V} (h : SqL K H a xs) (q : Q (.int xs.length) H) : rLenQ K [.ref a] H Q := ⟨a, xs, rfl, .inl h, q⟩
/-- list(..) of a list that stands -/
theorem s_ext {a b : Addr} {xs zs : List V} (h : H a = some (.lst xs)) (h' : H b = some (.lst zs)) (hz : xs.length + zs.length ≤ sizeLine) (q : Q .non (upd H a (.lst (xs ++ zs)))) : rExtend (.ref a) [.ref b] H Q := ⟨a, b, xs, zs, rfl, rfl, h, h', hz, q⟩
end
def rIns : V → List V → Hp → VK → Prop := fun x vs H Q => ∃ (l : Addr) (xs : List V) (i : Int) (y : V), x = .ref l ∧ vs = [.int i, y] ∧ H l = some (.lst xs) ∧ xs.length < sizeLine ∧ 0 ≤ i ∧ i < 2 ^ 63 ∧ Q .non (upd H l (.lst (xs.take i.toNat ++ [y] ++ xs.drop i.toNat)))
theorem c_insert {X : Cx} : MtR X "list.insert" rIns := mt_insert
theorem s_ins {H : Hp} {Q : VK} {l : Addr} {xs : List V} {i : Int} {y : V} (h : H l = some (.lst xs)) (hz : xs.length < sizeLine) (h0 : 0 ≤ i) (h1 : i < 2 ^ 63) (q : Q .non (upd H l (.lst (xs.take i.toNat ++ [y] ++ xs.drop i.toNat)))) : rIns (.ref l) [.int i, y] H Q := ⟨l, xs, i, y, rfl, rfl, h, hz, h0, h1, q⟩
/-- what is data of a list's own cell -/
theorem dp_own {K : PySem.W.Frag} {F H : Hp} {a : Addr} {xs : List V} {ds : List PyData} (s : Same F H) (h : H a = some (.lst xs)) (aa : DaA F xs ds) : Dp K H (.ref a) (.list ds) := .lst (SqL.of h) (aa.dp s)
theorem shaped_ints {ns : List Int} : SeqAt.shaped (.list (ns.map PyData.int)) = true := by
  have h1 : ∀ ns : List Int, PyData.canLayAll0 (ns.map PyData.int) = true := by
    intro ns
    induction ns with
    | nil => rfl
    | cons a r ih => simp only [List.map_cons, PyData.canLayAll0, PyData.canLay0, ih, Bool.and_self]
  have h2 : ∀ ns : List Int, PyData.depthAll (ns.map PyData.int) ≤ 1 := by
    intro ns
    induction ns with
    | nil => simp [PyData.depthAll]
    | cons a r ih => simp only [List.map_cons, PyData.depthAll, PyData.depth]; omega
  unfold SeqAt.shaped
  rw [Bool.and_eq_true]
  refine ⟨by rw [PyData.canLay0]; exact h1 ns, decide_eq_true ?_⟩
  have := h2 ns
  rw [PyData.depth]
  omega
/-! ### a new list handed back, owned by the caller -/
theorem un_emp {C : Hp} : un emp C = C := by
  funext b
  rfl
theorem Go.lendO {F H F' H' R C : Hp} (g : Go F H emp F' H' C) (r : Same R H) (d : Dj F R) : Go F H R F' H' (un R C) ∧ Dj R C := by
  have dj : Dj R C := fun a e => by
    obtain ⟨o, q⟩ := sn e
    cases z : C a with
    | none => rfl
    | some u =>
      rcases g.newR a (ns z) with y | y
      · exact absurd rfl y
      · rw [r a o q] at y; cases y
  have rr : Same R H' := fun a o e => g.keep a o (r a o e) rfl
  refine ⟨⟨g.ff, g.fh, un_sub rr g.rh, (un_dj (fun a e => ?_) g.dj.symm).symm, fun a o e _ => g.keep a o e rfl, g.dom, fun a e => ?_, fun a e => ?_⟩, dj⟩
  · cases z : F' a with
    | none => rfl
    | some u =>
      rcases g.newF a (ns z) with y | y | y
      · rw [d a y] at e; exact absurd rfl e
      · exact absurd rfl y
      · obtain ⟨o, q⟩ := sn e
        rw [r a o q] at y; cases y
  · rcases g.newF a e with y | y | y
    · exact .inl y
    · exact absurd rfl y
    · exact .inr (.inr y)
  · rcases un_ne e with y | y
    · exact .inl y
    · rcases g.newR a y with z | z
      · exact absurd rfl z
      · exact .inr z
section
variable {F0 H0 B F H R R' A C S F' H' : Hp} {own : List Hp}
theorem Mem.goO (m : Mem F0 H0 B F H own) (g : Go F H emp F' H' C) : Mem F0 H0 B F' H' (C :: own) := m.addE.go g
/-- one list more, ahead of what was lent -/
theorem Mem.goR (m : Mem F0 H0 B F H (R :: own)) (g : Go F H R F' H' (un R C)) (d : Dj R C) : Mem F0 H0 B F' H' (C :: R :: own) := ((m.go g).part d).swap
theorem Mem.goR1 (m : Mem F0 H0 B F H (A :: R :: own)) (g : Go F H R F' H' (un R C)) (d : Dj R C) : Mem F0 H0 B F' H' (C :: A :: R :: own) := (m.swap.goR g d).perm (.cons C (.swap A R own))
theorem Mem.goR2 (m : Mem F0 H0 B F H (A :: S :: R :: own)) (g : Go F H R F' H' (un R C)) (d : Dj R C) : Mem F0 H0 B F' H' (C :: A :: S :: R :: own) :=
  (m.rot3.goR g d).perm (.cons C ((List.Perm.swap A R (S :: own)).trans (.cons A (.swap S R own))))
theorem Mem.goR3 {T : Hp} (m : Mem F0 H0 B F H (A :: S :: T :: R :: own)) (g : Go F H R F' H' (un R C)) (d : Dj R C) : Mem F0 H0 B F' H' (C :: A :: S :: T :: R :: own) := by
  have q : ∀ R : Hp, (A :: S :: T :: R :: own).Perm (R :: A :: S :: T :: own) := fun R => ((((List.Perm.swap R T own).cons S).trans (.swap R S (T :: own))).cons A).trans (.swap R A (S :: T :: own))
  exact ((m.perm (q R)).goR g d).perm (.cons C (q R).symm)
theorem Mem.oh3 {T : Hp} (m : Mem F0 H0 B F H (A :: C :: T :: R :: own)) : Same R H := m.oh _ (List.mem_cons_of_mem _ (List.mem_cons_of_mem _ (List.mem_cons_of_mem _ List.mem_cons_self)))
theorem Mem.fo3 {T : Hp} (m : Mem F0 H0 B F H (A :: C :: T :: R :: own)) : Dj F R := m.fo _ (List.mem_cons_of_mem _ (List.mem_cons_of_mem _ (List.mem_cons_of_mem _ List.mem_cons_self)))
theorem Mem.oh4 {T U : Hp} (m : Mem F0 H0 B F H (A :: C :: T :: U :: R :: own)) : Same R H := m.oh _ (List.mem_cons_of_mem _ (List.mem_cons_of_mem _ (List.mem_cons_of_mem _ (List.mem_cons_of_mem _ List.mem_cons_self))))
theorem Mem.fo4 {T U : Hp} (m : Mem F0 H0 B F H (A :: C :: T :: U :: R :: own)) : Dj F R := m.fo _ (List.mem_cons_of_mem _ (List.mem_cons_of_mem _ (List.mem_cons_of_mem _ (List.mem_cons_of_mem _ List.mem_cons_self))))
theorem Mem.dj02 (m : Mem F0 H0 B F H (A :: C :: R :: own)) : Dj A R := (List.pairwise_cons.mp m.oo).1 R (List.mem_cons_of_mem _ List.mem_cons_self)
theorem Mem.dj03 {T : Hp} (m : Mem F0 H0 B F H (A :: C :: T :: R :: own)) : Dj A R := (List.pairwise_cons.mp m.oo).1 R (List.mem_cons_of_mem _ (List.mem_cons_of_mem _ List.mem_cons_self))
end
theorem cell_no {p : Addr} {o : HO} {R : Hp} (d : Dj (cell p o) R) : R p = Option.none := d p (by rw [cell_same]; intro q; cases q)
theorem m_tyL {F0 H0 B F H : Hp} {own : List Hp} {K : PySem.W.Frag} {x : V} {ds : List PyData} {P : Prop} (m : Mem F0 H0 B F H own) (h : Da F x (.list ds)) (q : P) : tyV K "list" x H ∧ P := by
  obtain ⟨a, xs, rfl, e, aa⟩ := h.of_lst
  exact s_tyL (m.fh _ _ e) q
theorem s_gLst {K : PySem.W.Frag} {H : Hp} {σ : L2.St} {v : V} {n : Nat} {t : TGs} {N : L2.St → Hp → Prop} {F0 H0 B F : Hp} {own : List Hp} {ds : List PyData} (m : Mem F0 H0 B F H own) (h : Da F v (.list ds)) (hn : ds.length = n) (q : ∀ xs, DaA F xs ds → t xs σ H N) : gLst K n t v σ H N := by
  obtain ⟨a, xs, rfl, e, aa⟩ := h.of_lst
  exact ⟨a, xs, rfl, SqL.of (m.fh _ _ e), by rw [aa.length]; exact hn, q xs aa⟩
/-- some of the owned regions, in an order of one's own -/
theorem Mem.idx {F0 H0 B F H : Hp} {own : List Hp} (m : Mem F0 H0 B F H own) (is : List Nat) (hn : is.Nodup) (hl : ∀ i ∈ is, i < own.length) : Mem F0 H0 B F H (is.map fun i => own.getD i emp) := by
  have gd : ∀ {i : Nat} (q : i < own.length), own.getD i emp = own[i] := fun {i} q => by
    rw [List.getD_eq_getElem?_getD, List.getElem?_eq_getElem q]
    rfl
  have mem : ∀ R ∈ (is.map fun i => own.getD i emp), R ∈ own := fun R h => by
    obtain ⟨i, hi, rfl⟩ := List.mem_map.mp h
    have q := hl i hi
    rw [gd q]
    exact List.getElem_mem q
  refine ⟨m.ff, m.fh, fun R h => m.oh R (mem R h), fun R h => m.fo R (mem R h), ?_, m.keep, m.dom, m.newF, fun R h => m.newO R (mem R h)⟩
  have pw := List.pairwise_iff_getElem.mp m.oo
  rw [List.pairwise_map]
  refine List.Pairwise.imp_of_mem (R := fun a b => a ≠ b) (fun {a b} ha hb hab => ?_) hn
  have qa := hl a ha
  have qb := hl b hb
  rw [gd qa, gd qb]
  rcases Nat.lt_or_gt_of_ne hab with h | h
  · exact pw a b qa qb h
  · exact (pw b a qb qa h).symm
end DL

namespace K10
open PySem PySem.Spec PyProof.Rows L2 DL
local macro_rules | `(tactic| tm_at "dl hp") => `(tactic| (first | assumption | exact Mem.at0 (by assumption) | exact Mem.at1 (by assumption) | exact Mem.at2 (by assumption) | exact Mem.at3 (by assumption)))
local macro_rules | `(tactic| tm_at "dl ch") => `(tactic| (repeat (first | exact L2.Same.refl _ | assumption | refine L2.Same.trans ?_ (by assumption))))
local macro_rules | `(tactic| tm_at "dl da") => `(tactic| (first | assumption | (refine Da.mono ?_ (by assumption); (repeat (first | exact L2.Same.refl _ | assumption | refine L2.Same.trans ?_ (by assumption))))))
local macro_rules | `(tactic| tm_at "dl st") => `(tactic| (first | ((with_reducible show tVar _ _ _ _); refine s_var (by rfl) ?_) | with_reducible refine s_seq ?_ | with_reducible refine s_asg ?_ | with_reducible refine s_op ?_ | with_reducible refine s_un ?_ | with_reducible refine s_c ?_ | with_reducible refine s_call ?_ | with_reducible refine s_cons ?_ | with_reducible refine s_nil ?_ | with_reducible refine s_CB ?_ | with_reducible refine s_test ?_ | with_reducible refine s_tB ?_ | with_reducible refine s_tq ?_ | with_reducible refine s_if ?_ | with_reducible refine s_drop ?_ | with_reducible refine s_ret ?_ | with_reducible refine s_retN ?_ | with_reducible refine s_next ?_ | with_reducible refine s_brk ?_ | with_reducible refine s_cont ?_ | with_reducible refine s_name ?_ | with_reducible refine s_I0 ?_ | with_reducible refine s_U ?_ | with_reducible refine s_eqI ?_ | with_reducible refine s_eqS ?_ | with_reducible refine s_eqB ?_ | with_reducible refine s_neI ?_ | with_reducible refine s_neS ?_ | with_reducible refine s_neB ?_ | with_reducible refine s_isN0 ?_ | with_reducible refine s_isNI ?_ | with_reducible refine s_isNS ?_ | with_reducible refine s_isNR ?_ | with_reducible refine s_isNB ?_ | with_reducible refine s_notN0 ?_ | with_reducible refine s_notNI ?_ | with_reducible refine s_notNS ?_ | with_reducible refine s_notNR ?_ | with_reducible refine iteNT ?_ | with_reducible refine iteNF ?_ | with_reducible refine s_not ?_ | with_reducible refine s_and ?_ | with_reducible refine s_or ?_ | with_reducible refine s_ifE ?_ | with_reducible refine s_andV ?_ | with_reducible refine s_orV ?_ | with_reducible refine s_notV ?_ | with_reducible refine s_tup ?_ | with_reducible refine s_lst ?_ | with_reducible refine s_sub ?_ | with_reducible refine s_gCons ?_ | with_reducible refine s_gNil ?_ | with_reducible refine s_ipI ?_ | with_reducible refine s_for ?_ | with_reducible refine s_lc ?_ | with_reducible refine s_yes ?_ | with_reducible refine s_iList ?_ | with_reducible refine s_iTup ?_ | with_reducible refine s_iRng1 ?_ | with_reducible refine s_iRng2 ?_ | with_reducible refine s_iZip ?_ | with_reducible refine s_iEnum ?_ | with_reducible refine s_iStr ?_ | with_reducible refine s_st ?_ | with_reducible refine iteT ?_ | with_reducible refine iteF ?_ | with_reducible refine s_BM ?_ | with_reducible refine s_tyS ?_ | with_reducible refine s_int ?_ | with_reducible refine s_intB ?_ | with_reducible refine s_min ?_ | with_reducible refine s_max ?_ | with_reducible refine s_sl ?_ | with_reducible refine s_noP ?_ | with_reducible refine s_meth ?_ | with_reducible refine s_fld ?_ | with_reducible refine s_sfld ?_ | with_reducible refine s_make ?_ | with_reducible refine s_part ?_ | with_reducible refine s_pt ?_ | with_reducible refine s_augS ?_ | ((with_reducible show tAug _ _ _ _ _ _); refine s_aug (by rfl) ?_) | ((with_reducible show rI _ _ _ _ _ _); refine s_I (by first | (show (0 : Int) < _; decide) | (exact ⟨by decide, by decide⟩) | (exact .inr ⟨by decide, by decide⟩) | (exact .inl ⟨by decide, by decide⟩) | (exact ⟨by decide, by decide, by decide⟩)) ?_) | ((with_reducible show rIsi _ _ _ _); first | refine m_isi (by assumption) (by assumption) (r := true) (by dsimp only [tyD]; decide +kernel) ?_ | refine m_isi (by assumption) (by assumption) (r := false) (by dsimp only [tyD]; decide +kernel) ?_) | ((with_reducible show tyV _ _ _ _ ∧ _); refine s_tyL (by (first | assumption | exact Mem.at0 (by assumption) | exact Mem.at1 (by assumption) | exact Mem.at2 (by assumption) | exact Mem.at3 (by assumption))) ?_) | ((with_reducible show rIxL _ _ _ _ _); refine s_ixL (by (first | assumption | exact Mem.at0 (by assumption) | exact Mem.at1 (by assumption) | exact Mem.at2 (by assumption) | exact Mem.at3 (by assumption))) (by rfl) ?_)))
local macro_rules | `(tactic| tm_at "dl go") => `(tactic| (repeat (first | ((with_reducible show tVar _ _ _ _); refine s_var (by rfl) ?_) | with_reducible refine s_seq ?_ | with_reducible refine s_asg ?_ | with_reducible refine s_op ?_ | with_reducible refine s_un ?_ | with_reducible refine s_c ?_ | with_reducible refine s_call ?_ | with_reducible refine s_cons ?_ | with_reducible refine s_nil ?_ | with_reducible refine s_CB ?_ | with_reducible refine s_test ?_ | with_reducible refine s_tB ?_ | with_reducible refine s_tq ?_ | with_reducible refine s_if ?_ | with_reducible refine s_drop ?_ | with_reducible refine s_ret ?_ | with_reducible refine s_retN ?_ | with_reducible refine s_next ?_ | with_reducible refine s_brk ?_ | with_reducible refine s_cont ?_ | with_reducible refine s_name ?_ | with_reducible refine s_I0 ?_ | with_reducible refine s_U ?_ | with_reducible refine s_eqI ?_ | with_reducible refine s_eqS ?_ | with_reducible refine s_eqB ?_ | with_reducible refine s_neI ?_ | with_reducible refine s_neS ?_ | with_reducible refine s_neB ?_ | with_reducible refine s_isN0 ?_ | with_reducible refine s_isNI ?_ | with_reducible refine s_isNS ?_ | with_reducible refine s_isNR ?_ | with_reducible refine s_isNB ?_ | with_reducible refine s_notN0 ?_ | with_reducible refine s_notNI ?_ | with_reducible refine s_notNS ?_ | with_reducible refine s_notNR ?_ | with_reducible refine iteNT ?_ | with_reducible refine iteNF ?_ | with_reducible refine s_not ?_ | with_reducible refine s_and ?_ | with_reducible refine s_or ?_ | with_reducible refine s_ifE ?_ | with_reducible refine s_andV ?_ | with_reducible refine s_orV ?_ | with_reducible refine s_notV ?_ | with_reducible refine s_tup ?_ | with_reducible refine s_lst ?_ | with_reducible refine s_sub ?_ | with_reducible refine s_gCons ?_ | with_reducible refine s_gNil ?_ | with_reducible refine s_ipI ?_ | with_reducible refine s_for ?_ | with_reducible refine s_lc ?_ | with_reducible refine s_yes ?_ | with_reducible refine s_iList ?_ | with_reducible refine s_iTup ?_ | with_reducible refine s_iRng1 ?_ | with_reducible refine s_iRng2 ?_ | with_reducible refine s_iZip ?_ | with_reducible refine s_iEnum ?_ | with_reducible refine s_iStr ?_ | with_reducible refine s_st ?_ | with_reducible refine iteT ?_ | with_reducible refine iteF ?_ | with_reducible refine s_BM ?_ | with_reducible refine s_tyS ?_ | with_reducible refine s_int ?_ | with_reducible refine s_intB ?_ | with_reducible refine s_min ?_ | with_reducible refine s_max ?_ | with_reducible refine s_sl ?_ | with_reducible refine s_noP ?_ | with_reducible refine s_meth ?_ | with_reducible refine s_fld ?_ | with_reducible refine s_sfld ?_ | with_reducible refine s_make ?_ | with_reducible refine s_part ?_ | with_reducible refine s_pt ?_ | with_reducible refine s_augS ?_ | ((with_reducible show tAug _ _ _ _ _ _); refine s_aug (by rfl) ?_) | ((with_reducible show rI _ _ _ _ _ _); refine s_I (by first | (show (0 : Int) < _; decide) | (exact ⟨by decide, by decide⟩) | (exact .inr ⟨by decide, by decide⟩) | (exact .inl ⟨by decide, by decide⟩) | (exact ⟨by decide, by decide, by decide⟩)) ?_) | ((with_reducible show rIsi _ _ _ _); first | refine m_isi (by assumption) (by assumption) (r := true) (by dsimp only [tyD]; decide +kernel) ?_ | refine m_isi (by assumption) (by assumption) (r := false) (by dsimp only [tyD]; decide +kernel) ?_) | ((with_reducible show tyV _ _ _ _ ∧ _); refine s_tyL (by (first | assumption | exact Mem.at0 (by assumption) | exact Mem.at1 (by assumption) | exact Mem.at2 (by assumption) | exact Mem.at3 (by assumption))) ?_) | ((with_reducible show rIxL _ _ _ _ _); refine s_ixL (by (first | assumption | exact Mem.at0 (by assumption) | exact Mem.at1 (by assumption) | exact Mem.at2 (by assumption) | exact Mem.at3 (by assumption))) (by rfl) ?_))))

def top (i : Nat) : Stmt := PySem.Challenge.pw_gridwhole_k10_files_keep_a_beginning.main.body.getD i (.Pass ⟨0, 0, 0, 0⟩)
abbrev s__law_mix : Stmt := top 4
abbrev n__law_mix : List Str := ["cell", "k", "value"]
theorem sc__law_mix : FnScope ["cell", "k", "value"] ["cell", "k"] (defScope s__law_mix) := ⟨rfl, rfl, rfl, by decide +kernel, rfl, by decide +kernel, by decide +kernel⟩
theorem bd__law_mix : Bnd "_law_mix" s__law_mix ["cell", "k"] := fun _ _ _ _ _ _ us hl => match us, hl with | [_, _], _ => rfl
abbrev s__law_draws : Stmt := top 5
abbrev n__law_draws : List Str := ["script", "draws", "k", "cell", "place"]
theorem sc__law_draws : FnScope ["script", "draws", "k", "cell", "place"] ["script"] (defScope s__law_draws) := ⟨rfl, rfl, rfl, by decide +kernel, rfl, by decide +kernel, by decide +kernel⟩
theorem bd__law_draws : Bnd "_law_draws" s__law_draws ["script"] := fun _ _ _ _ _ _ us hl => match us, hl with | [_], _ => rfl
abbrev s__law_at : Stmt := top 6
abbrev n__law_at : List Str := ["draws", "index"]
theorem sc__law_at : FnScope ["draws", "index"] ["draws", "index"] (defScope s__law_at) := ⟨rfl, rfl, rfl, by decide +kernel, rfl, by decide +kernel, by decide +kernel⟩
theorem bd__law_at : Bnd "_law_at" s__law_at ["draws", "index"] := fun _ _ _ _ _ _ us hl => match us, hl with | [_, _], _ => rfl
abbrev s__law_is_integer : Stmt := top 7
abbrev n__law_is_integer : List Str := ["actual"]
theorem sc__law_is_integer : FnScope ["actual"] ["actual"] (defScope s__law_is_integer) := ⟨rfl, rfl, rfl, by decide +kernel, rfl, by decide +kernel, by decide +kernel⟩
theorem bd__law_is_integer : Bnd "_law_is_integer" s__law_is_integer ["actual"] := fun _ _ _ _ _ _ us hl => match us, hl with | [_], _ => rfl
abbrev s__law_same : Stmt := top 8
abbrev n__law_same : List Str := ["actual", "expected", "k"]
theorem sc__law_same : FnScope ["actual", "expected", "k"] ["actual", "expected"] (defScope s__law_same) := ⟨rfl, rfl, rfl, by decide +kernel, rfl, by decide +kernel, by decide +kernel⟩
theorem bd__law_same : Bnd "_law_same" s__law_same ["actual", "expected"] := fun _ _ _ _ _ _ us hl => match us, hl with | [_, _], _ => rfl
abbrev s__law_next : Stmt := top 9
abbrev n__law_next : List Str := ["state", "limit"]
theorem sc__law_next : FnScope ["state", "limit"] ["state", "limit"] (defScope s__law_next) := ⟨rfl, rfl, rfl, by decide +kernel, rfl, by decide +kernel, by decide +kernel⟩
theorem bd__law_next : Bnd "_law_next" s__law_next ["state", "limit"] := fun _ _ _ _ _ _ us hl => match us, hl with | [_, _], _ => rfl
abbrev s__applied : Stmt := top 1
abbrev n__applied : List Str := ["data", "steps", "result", "name", "number"]
theorem sc__applied : FnScope ["data", "steps", "result", "name", "number"] ["data", "steps"] (defScope s__applied) := ⟨rfl, rfl, rfl, by decide +kernel, rfl, by decide +kernel, by decide +kernel⟩
theorem bd__applied : Bnd "_applied" s__applied ["data", "steps"] := fun _ _ _ _ _ _ us hl => match us, hl with | [_, _], _ => rfl
abbrev s_File___init__ : Stmt := inClass (top 2) 0
abbrev n_File___init__ : List Str := ["self"]
theorem sc_File___init__ : FnScope ["self"] ["self"] (defScope s_File___init__) := ⟨rfl, rfl, rfl, by decide +kernel, rfl, by decide +kernel, by decide +kernel⟩
theorem bd_File___init__ : BndM "__init__" "File.__init__" s_File___init__ ["self"] := fun _ _ _ _ _ _ us hl => match us, hl with | [_], _ => rfl
abbrev s_File_write : Stmt := inClass (top 2) 1
abbrev n_File_write : List Str := ["self", "data", "steps", "count", "byte"]
theorem sc_File_write : FnScope ["self", "data", "steps", "count", "byte"] ["self", "data", "steps"] (defScope s_File_write) := ⟨rfl, rfl, rfl, by decide +kernel, rfl, by decide +kernel, by decide +kernel⟩
theorem bd_File_write : BndM "write" "File.write" s_File_write ["self", "data", "steps"] := fun _ _ _ _ _ _ us hl => match us, hl with | [_, _, _], _ => rfl
abbrev s_File_shorten : Stmt := inClass (top 2) 2
abbrev n_File_shorten : List Str := ["self", "size", "steps"]
theorem sc_File_shorten : FnScope ["self", "size", "steps"] ["self", "size", "steps"] (defScope s_File_shorten) := ⟨rfl, rfl, rfl, by decide +kernel, rfl, by decide +kernel, by decide +kernel⟩
theorem bd_File_shorten : BndM "shorten" "File.shorten" s_File_shorten ["self", "size", "steps"] := fun _ _ _ _ _ _ us hl => match us, hl with | [_, _, _], _ => rfl
abbrev s_File_flush : Stmt := inClass (top 2) 3
abbrev n_File_flush : List Str := ["self", "steps"]
theorem sc_File_flush : FnScope ["self", "steps"] ["self", "steps"] (defScope s_File_flush) := ⟨rfl, rfl, rfl, by decide +kernel, rfl, by decide +kernel, by decide +kernel⟩
theorem bd_File_flush : BndM "flush" "File.flush" s_File_flush ["self", "steps"] := fun _ _ _ _ _ _ us hl => match us, hl with | [_, _], _ => rfl
abbrev s_File_content : Stmt := inClass (top 2) 4
abbrev n_File_content : List Str := ["self"]
theorem sc_File_content : FnScope ["self"] ["self"] (defScope s_File_content) := ⟨rfl, rfl, rfl, by decide +kernel, rfl, by decide +kernel, by decide +kernel⟩
theorem bd_File_content : BndM "content" "File.content" s_File_content ["self"] := fun _ _ _ _ _ _ us hl => match us, hl with | [_], _ => rfl
abbrev s_File_pending : Stmt := inClass (top 2) 5
abbrev n_File_pending : List Str := ["self"]
theorem sc_File_pending : FnScope ["self"] ["self"] (defScope s_File_pending) := ⟨rfl, rfl, rfl, by decide +kernel, rfl, by decide +kernel, by decide +kernel⟩
theorem bd_File_pending : BndM "pending" "File.pending" s_File_pending ["self"] := fun _ _ _ _ _ _ us hl => match us, hl with | [_], _ => rfl
abbrev s_File_lose : Stmt := inClass (top 2) 6
abbrev n_File_lose : List Str := ["self", "steps"]
theorem sc_File_lose : FnScope ["self", "steps"] ["self", "steps"] (defScope s_File_lose) := ⟨rfl, rfl, rfl, by decide +kernel, rfl, by decide +kernel, by decide +kernel⟩
theorem bd_File_lose : BndM "lose" "File.lose" s_File_lose ["self", "steps"] := fun _ _ _ _ _ _ us hl => match us, hl with | [_, _], _ => rfl
abbrev s__law_after : Stmt := top 10
abbrev n__law_after : List Str := ["data", "steps", "kind", "number"]
theorem sc__law_after : FnScope ["data", "steps", "kind", "number"] ["data", "steps"] (defScope s__law_after) := ⟨rfl, rfl, rfl, by decide +kernel, rfl, by decide +kernel, by decide +kernel⟩
theorem bd__law_after : Bnd "_law_after" s__law_after ["data", "steps"] := fun _ _ _ _ _ _ us hl => match us, hl with | [_, _], _ => rfl
abbrev s__law_deed : Stmt := top 11
abbrev n__law_deed : List Str := ["state", "file", "lasting", "steps", "pick", "limit", "data", "count", "passed", "done", "size", "k", "byte"]
theorem sc__law_deed : FnScope ["state", "file", "lasting", "steps", "pick", "limit", "data", "count", "passed", "done", "size", "k", "byte"] ["state", "file", "lasting", "steps"] (defScope s__law_deed) := ⟨rfl, rfl, rfl, by decide +kernel, rfl, by decide +kernel, by decide +kernel⟩
theorem bd__law_deed : Bnd "_law_deed" s__law_deed ["state", "file", "lasting", "steps"] := fun _ _ _ _ _ _ us hl => match us, hl with | [_, _, _, _], _ => rfl
abbrev s_law : Stmt := top 12
abbrev n_law : List Str := ["script", "state", "file", "lasting", "steps", "other", "still", "k", "right"]
theorem sc_law : FnScope ["script", "state", "file", "lasting", "steps", "other", "still", "k", "right"] ["script"] (defScope s_law) := ⟨rfl, rfl, rfl, by decide +kernel, rfl, by decide +kernel, by decide +kernel⟩
theorem bd_law : Bnd "law" s_law ["script"] := fun _ _ _ _ _ _ us hl => match us, hl with | [_], _ => rfl
structure Tx (K : PySem.W.Frag) (mg : Str → Option Value) : Prop where
  b_bool : mg "bool" = none
  b_int : mg "int" = none
  b_isinstance : mg "isinstance" = none
  b_len : mg "len" = none
  b_list : mg "list" = none
  b_min : mg "min" = none
  b_range : mg "range" = none
  b_str : mg "str" = none
  b_tuple : mg "tuple" = none
  cl_File : Cls K (He.ga K "File")
  na_File__lasting : NoAttr K (He.ga K "File") "_lasting"
  na_File__steps : NoAttr K (He.ga K "File") "_steps"
  d__applied : DefAt K mg "_applied" s__applied
  i_File : IniAt K mg "File" (He.ga K "File") "File.__init__" s_File___init__
  m_File_write : MetAt K (He.ga K "File") "write" "File.write" s_File_write
  m_File_shorten : MetAt K (He.ga K "File") "shorten" "File.shorten" s_File_shorten
  m_File_flush : MetAt K (He.ga K "File") "flush" "File.flush" s_File_flush
  m_File_content : MetAt K (He.ga K "File") "content" "File.content" s_File_content
  m_File_pending : MetAt K (He.ga K "File") "pending" "File.pending" s_File_pending
  m_File_lose : MetAt K (He.ga K "File") "lose" "File.lose" s_File_lose
  d__law_mix : DefAt K mg "_law_mix" s__law_mix
  d__law_draws : DefAt K mg "_law_draws" s__law_draws
  d__law_at : DefAt K mg "_law_at" s__law_at
  d__law_is_integer : DefAt K mg "_law_is_integer" s__law_is_integer
  d__law_same : DefAt K mg "_law_same" s__law_same
  d__law_next : DefAt K mg "_law_next" s__law_next
  d__law_after : DefAt K mg "_law_after" s__law_after
  d__law_deed : DefAt K mg "_law_deed" s__law_deed
  d_law : DefAt K mg "law" s_law
section
variable {P : Program} {w : World} {K : PySem.W.Frag} {mg : Str → Option Value} {base : Heap}
/-! draws: _law_mix, _law_draws, _law_at -/
def sp__law_mix : Sp := fun vs H Q _ => ∃ c k : Int, vs = [.int c, .int k] ∧ ∀ z, 0 ≤ z → z < 9973 → Q (.int z) H
theorem ok__law_mix (T : Tx K mg) : FnE P w K mg base CX0 "_law_mix" 1 ["cell", "k"] sp__law_mix := by
  refine fnE T.d__law_mix sc__law_mix bd__law_mix (fun vs H Q E h => ?_) (fun f cdv A outer s H vs Q E hr h => ?_)
  · obtain ⟨c, k, rfl, _⟩ := h
    rfl
  obtain ⟨c, k, rfl, q⟩ := h
  refine ⟨_, (pss_cons (ps_set (i := 2) sc__law_mix.nd rfl (Or.inl rfl) (pe_op op_mod (pe_callTy c_int (by rfl) T.b_int DL.bt_int (pa_cons (pe_op op_add (pe_op op_add (pe_op op_mul (pe_callTy c_int (by rfl) T.b_int DL.bt_int (pa_cons (pv 0) pa_nil)) pe_int) (pe_op op_mul (pv 1) pe_int)) pe_int) pa_nil)) pe_int))
  (pss_cons (ps_set (i := 2) sc__law_mix.nd rfl (Or.inl rfl) (pe_op op_mod (pe_callTy c_int (by rfl) T.b_int DL.bt_int (pa_cons (pe_op op_add (pe_op op_add (pe_op op_mul (pv 2) (pv 2)) (pe_op op_mul (pv 1) pe_int)) pe_int) pa_nil)) pe_int))
  (pss_one (ps_ret (pe_op op_mod (pe_op op_fdiv (pv 2) pe_int) pe_int))))), ?_⟩
  (tm_at "dl go")
  have h0 := Int.emod_nonneg (c * 48271 + k * 69621 + 12345) (show (2147483647 : Int) ≠ 0 by decide)
  have h1 := Int.emod_lt_of_pos (c * 48271 + k * 69621 + 12345) (show (0 : Int) < 2147483647 by decide)
  generalize (c * 48271 + k * 69621 + 12345) % 2147483647 = v at h0 h1 ⊢
  refine s_I (.inl ⟨by omega, by omega⟩) ?_
  (tm_at "dl go")
  exact q _ (Int.emod_nonneg _ (by decide)) (Int.emod_lt_of_pos _ (by decide))
def Zs (zs : List Int) : Prop := (∀ z ∈ zs, 0 ≤ z ∧ z < 9973) ∧ zs.length ≤ 4000
def sp__law_draws (K : PySem.W.Frag) : Sp := fun vs H Q _ => ∃ (a : Addr) (ns : List Int), vs = [.ref a] ∧ SqL K H a (ns.map V.int) ∧ ns.length ≤ 63 ∧
  ∀ v F' H' zs, Go emp H emp F' H' emp → Da F' v (.list (zs.map PyData.int)) → Zs zs → Q v H'
theorem seq_keep {H : Hp} {F' H' : Hp} {own : List Hp} {a : Addr} {xs : List V} (m : Mem emp H emp F' H' own) (h : SqL K H a xs) : SqL K H' a xs := by
  have s : Same H H' := fun b o e => m.keep b o e rfl
  exact s.seq h
theorem ok__law_draws (T : Tx K mg) : FnE P w K mg base CX0 "_law_draws" 3 ["script"] (sp__law_draws K) := by
  refine fnE T.d__law_draws sc__law_draws bd__law_draws (fun vs H Q E h => ?_) (fun f cdv A outer s H vs Q E hr h => ?_)
  · obtain ⟨a, ns, rfl, _⟩ := h
    rfl
  obtain ⟨a, ns, rfl, hS, hl, q⟩ := h
  have M := Mem.start0 (emp_same (A := H))
  refine ⟨_, (pss_cons (ps_set (i := 1) sc__law_draws.nd rfl (Or.inl rfl) (pe_lst pa_nil))
  (pss_cons (ps_for PassesOwn.never rfl (pi_range1 rfl T.b_range (pa_cons (pe_callB (c_min2 rfl) (by rfl) T.b_min DL.bt_min (pa_cons pe_int (pa_cons (pe_callB c_lenQ (by rfl) T.b_len DL.bt_len (pa_cons (pv 0) pa_nil)) pa_nil))) pa_nil)) (pg_name (i := 2) sc__law_draws.nd rfl (Or.inl rfl))
  (pss_cons (ps_set (i := 3) sc__law_draws.nd rfl (Or.inl rfl) (pe_callTy c_int (by rfl) T.b_int DL.bt_int (pa_cons (pe_ix ix_list (pv 0) (pv 2) (fun _ _ => rfl)) pa_nil)))
  (pss_one (ps_if (pt_cmpR op_lt (pv 3) (pe_op op_pow pe_int pe_int) (nomark _))
  (pss_one (ps_expr (pe_bm PySem.F.plainAttrs_list PySem.F.slot_list_append PySem.F.type_list_append c_append (pv 1) (pa_cons (pe_fn (ok__law_mix T) (hr.mono (by first | decide | omega)) rfl pass0 (pa_cons (pv 3) (pa_cons (pv 2) pa_nil))) pa_nil))))
  (pss_one (ps_for PassesOwn.never rfl (pi_range1 rfl T.b_range (pa_cons pe_int pa_nil)) (pg_name (i := 4) sc__law_draws.nd rfl (Or.inl rfl))
  (pss_one (ps_if (pt_cmpR op_gt (pv 3) pe_int (nomark _))
  (pss_cons (ps_expr (pe_bm PySem.F.plainAttrs_list PySem.F.slot_list_append PySem.F.type_list_append c_append (pv 1) (pa_cons (pe_op op_mod (pe_callTy c_int (by rfl) T.b_int DL.bt_int (pa_cons (pv 3) pa_nil)) pe_int) pa_nil)))
  (pss_one (ps_set (i := 3) sc__law_draws.nd rfl (Or.inl rfl) (pe_op op_fdiv (pv 3) pe_int))))
  pss_nil))))))))
  (pss_one (ps_ret (pv 1))))), ?_⟩
  (tm_at "dl go")
  refine m_lz (by simp only [List.length_cons, List.length_nil]; decide) ?_
  refine m_lst M fun d H1 M1 => ?_
  (tm_at "dl go")
  refine ⟨a, _, rfl, .inl (seq_keep M1 hS), ?_⟩
  (tm_at "dl go")
  have e63 : (if ((ns.map V.int).length : Int) < 63 then ((ns.map V.int).length : Int) else 63) = (ns.length : Int) := by
    rw [List.length_map]
    split <;> omega
  rw [e63]
  refine s_r1 (by omega) (by omega) ?_
  refine m_forR M1 (fun i σ F' own => ∃ (zs : List Int) (u v w : Option V), σ = [some (.ref a), some (.ref d), u, v, w] ∧ own = [cell d (.lst (zs.map V.int))] ∧ (∀ z ∈ zs, 0 ≤ z ∧ z < 9973) ∧ zs.length ≤ 60 * i)
    ⟨[], _, _, _, rfl, rfl, fun z hz => (nomatch hz), Nat.zero_le _⟩ ?_ ?_
  · rintro i σ F2 H2 own hi s2 M2 ⟨zs, u, v, w, rfl, rfl, hz, hzl⟩
    have hi' : i < ns.length := by simpa using hi
    have ei : atI (ns.map V.int) (0 + (i : Int)) = some (V.int ns[i]) := atI_map (atI_at (j := i) (by omega) (List.getElem?_eq_getElem hi'))
    refine s_name ?_
    refine s_seq (s_asg ?_)
    refine s_CB (s_cons (s_op (s_var rfl (s_var rfl ?_))))
    refine s_ixQ (seq_keep M2 hS) ei ?_
    (tm_at "dl go")
    refine ite2 (fun h => ?_) (fun h => ?_)
    · (tm_at "dl go")
      refine ⟨_, _, rfl, fun z z0 z1 => ?_⟩
      (tm_at "dl go")
      refine m_app0 M2 (Nat.lt_of_le_of_lt (show _ ≤ 4000 by rw [List.length_map]; omega) (by decide)) fun H3 M3 => ?_
      (tm_at "dl go")
      refine Nx.mk s2 M3 ⟨zs ++ [z], _, _, _, rfl, by rw [List.map_append]; rfl, fun y hy => ?_, by rw [List.length_append, List.length_singleton]; omega⟩
      rcases List.mem_append.mp hy with h | h
      · exact hz y h
      · rw [List.mem_singleton.mp h]
        exact ⟨z0, z1⟩
    · (tm_at "dl go")
      refine s_r1 (by decide) (by decide) ?_
      refine m_forR M2 (fun j σ F' own => ∃ (zs' : List Int) (c : Int) (w : Option V), σ = [some (.ref a), some (.ref d), some (.int (0 + (i : Int))), some (.int c), w] ∧ own = [cell d (.lst (zs'.map V.int))] ∧ (∀ z ∈ zs', 0 ≤ z ∧ z < 9973) ∧ zs'.length ≤ 60 * i + j)
        ⟨zs, _, _, rfl, rfl, hz, by omega⟩ ?_ ?_
      · rintro j σ F3 H3 own hj s3 M3 ⟨zs', c, w', rfl, rfl, hz', hzl'⟩
        have hj' : j < 60 := by simpa using hj
        (tm_at "dl go")
        refine ite2 (fun h => ?_) (fun h => ?_)
        · (tm_at "dl go")
          refine m_app0 M3 (Nat.lt_of_le_of_lt (show _ ≤ 4000 by rw [List.length_map]; omega) (by decide)) fun H4 M4 => ?_
          (tm_at "dl go")
          refine Nx.mk s3 M4 ⟨zs' ++ [c % 9973], _, _, rfl, by rw [List.map_append]; rfl, fun y hy => ?_, by rw [List.length_append, List.length_singleton]; omega⟩
          rcases List.mem_append.mp hy with h | h
          · exact hz' y h
          · rw [List.mem_singleton.mp h]
            exact ⟨Int.emod_nonneg _ (by decide), Int.emod_lt_of_pos _ (by decide)⟩
        · (tm_at "dl go")
          exact Nx.mk s3 M3 ⟨zs', _, _, rfl, rfl, hz', by omega⟩
      · rintro σ F3 H3 own s3 M3 ⟨zs', c, w', rfl, rfl, hz', hzl'⟩
        have e60 : (60 : Int).toNat = 60 := rfl
        exact Nx.mk (s2.trans s3) M3 ⟨zs', _, _, _, rfl, rfl, hz', by omega⟩
  · rintro σ F2 H2 own s2 M2 ⟨zs, u, v, w, rfl, rfl, hz, hzl⟩
    (tm_at "dl go")
    obtain ⟨F3, M3, s3, d3⟩ := M2.data (ds := zs.map PyData.int) DaA.ints
    exact q _ _ _ _ M3.fin0 d3 ⟨hz, by simp at hzl; omega⟩
def sp__law_at : Sp := fun vs H Q _ => ∃ (F : Hp) (x : V) (zs : List Int) (i : Int), vs = [x, .int i] ∧ Same F H ∧ Da F x (.list (zs.map PyData.int)) ∧ Zs zs ∧ 0 ≤ i ∧ ∀ z, 0 ≤ z → z < 9973 → Q (.int z) H
theorem ok__law_at (T : Tx K mg) : FnE P w K mg base CX0 "_law_at" 3 ["draws", "index"] sp__law_at := by
  refine fnE T.d__law_at sc__law_at bd__law_at (fun vs H Q E h => ?_) (fun f cdv A outer s H vs Q E hr h => ?_)
  · obtain ⟨F, x, zs, i, rfl, _⟩ := h
    rfl
  obtain ⟨F, x, zs, i, rfl, hF, hx, ⟨hz, hzl⟩, i0, q⟩ := h
  have M := Mem.start0 hF
  refine ⟨_, (pss_cons (ps_if (pt_cmpR op_lt (pv 1) (pe_callB c_lenQ (by rfl) T.b_len DL.bt_len (pa_cons (pv 0) pa_nil)) (nomark _))
  (pss_one (ps_ret (pe_ix ix_list (pv 0) (pv 1) (fun _ _ => rfl))))
  pss_nil)
  (pss_cons (ps_if (pt_cmpR op_eq (pe_callB c_lenQ (by rfl) T.b_len DL.bt_len (pa_cons (pv 0) pa_nil)) pe_int (nomark _))
  (pss_one (ps_ret (pe_fn (ok__law_mix T) (hr.mono (by first | decide | omega)) rfl pass0 (pa_cons (pv 1) (pa_cons pe_int pa_nil)))))
  pss_nil)
  (pss_one (ps_ret (pe_fn (ok__law_mix T) (hr.mono (by first | decide | omega)) rfl pass0 (pa_cons (pe_op op_add (pe_ix ix_list (pv 0) (pe_op op_mod (pe_callTy c_int (by rfl) T.b_int DL.bt_int (pa_cons (pv 1) pa_nil)) (pe_callB c_lenQ (by rfl) T.b_len DL.bt_len (pa_cons (pv 0) pa_nil))) (fun _ _ => rfl)) (pe_op op_mul (pv 1) pe_int)) (pa_cons (pv 1) pa_nil))))))), ?_⟩
  (tm_at "dl go")
  refine m_lenL M hx ?_
  rw [List.length_map]
  (tm_at "dl go")
  refine ite2 (fun h => ?_) (fun h => ?_)
  · obtain ⟨z, ez, _⟩ := atI_lt (xs := zs) i0 (of_decide_eq_true h)
    (tm_at "dl go")
    refine m_ixL M hx (atI_map ez) fun v hv => ?_
    obtain rfl := hv.of_int
    (tm_at "dl go")
    obtain ⟨z0, z1⟩ := hz z (atI_mem ez)
    exact q z z0 z1
  · (tm_at "dl go")
    refine m_lenL M hx ?_
    rw [List.length_map]
    (tm_at "dl go")
    refine ite2 (fun h2 => ?_) (fun h2 => ?_)
    · (tm_at "dl go")
      exact ⟨_, _, rfl, q⟩
    · have hp : 0 < (zs.length : Int) := by
        have : ¬ (zs.length : Int) = 0 := fun e => h2 (decide_eq_true e)
        omega
      (tm_at "dl go")
      refine m_lenL M hx ?_
      rw [List.length_map]
      refine s_I hp ?_
      obtain ⟨z, ez, _⟩ := atI_lt (xs := zs) (Int.emod_nonneg i (show (zs.length : Int) ≠ 0 by omega)) (Int.emod_lt_of_pos i hp)
      refine m_ixL M hx (atI_map ez) fun v hv => ?_
      obtain rfl := hv.of_int
      (tm_at "dl go")
      exact ⟨_, _, rfl, q⟩
section
variable {F0 H0 B F H R A C : Hp} {own : List Hp} {p : Addr} {n : Int} {Q : VK} {E : XK}
theorem at_call {x : V} {zs : List Int} {i : Int} (M : Mem F0 H0 B F H own) (hx : Da F x (.list (zs.map PyData.int))) (hz : Zs zs) (i0 : 0 ≤ i) (q : ∀ z, 0 ≤ z → z < 9973 → Q (.int z) H) : sp__law_at [x, .int i] H Q E := ⟨F, x, zs, i, rfl, M.fh, hx, hz, i0, q⟩
end

/-! a state: the draws and a place -/
def IsSt (F R : Hp) (p : Addr) : Prop := ∃ (d : Addr) (zs : List Int) (i : Int), R = cell p (.lst [.ref d, .int i]) ∧ Da F (.ref d) (.list (zs.map PyData.int)) ∧ Zs zs ∧ 0 ≤ i
theorem IsSt.mono {F F' R : Hp} {p : Addr} (s : Same F F') (h : IsSt F R p) : IsSt F' R p := by
  obtain ⟨d, zs, i, e, hs, r⟩ := h
  exact ⟨d, zs, i, e, hs.mono s, r⟩
def sp__law_next : Sp := fun vs H Q _ => ∃ (F R : Hp) (p : Addr) (n : Int), vs = [.ref p, .int n] ∧ Same F H ∧ Same R H ∧ Dj F R ∧ IsSt F R p ∧ 0 < n ∧
  ∀ z F' H' R', Go F H R F' H' R' → IsSt F' R' p → 0 ≤ z → z < n → Q (.int z) H'
theorem ok__law_next (T : Tx K mg) : FnE P w K mg base CX0 "_law_next" 5 ["state", "limit"] sp__law_next := by
  refine fnE T.d__law_next sc__law_next bd__law_next (fun vs H Q E h => ?_) (fun f cdv A outer s H vs Q E hr h => ?_)
  · obtain ⟨F, R, p, n, rfl, _⟩ := h
    rfl
  obtain ⟨F, R, p, n, rfl, hF, hR, hd, ⟨d, zs, i, eR, hs, hz, i0⟩, n0, k⟩ := h
  have M := Mem.startC eR hF hR hd
  refine ⟨_, (pss_cons (ps_augS (pv 0) pe_int get_list pe_int ip_add set_list)
  (pss_one (ps_ret (pe_op op_mod (pe_fn (ok__law_at T) (hr.mono (by first | decide | omega)) rfl pass0 (pa_cons (pe_ix ix_list (pv 0) pe_int (fun _ _ => rfl)) (pa_cons (pe_ix ix_list (pv 0) pe_int (fun _ _ => rfl)) pa_nil))) (pv 1))))), ?_⟩
  (tm_at "dl go")
  refine m_set0 M (by rfl) rfl fun H1 M1 => ?_
  (tm_at "dl go")
  refine at_call M1 hs hz (by omega) fun z z0 z1 => ?_
  (tm_at "dl go")
  refine s_I n0 ?_
  exact k _ _ _ _ M1.fin ⟨d, zs, i + 1, rfl, hs, hz, by omega⟩ (Int.emod_nonneg _ (by omega)) (Int.emod_lt_of_pos _ n0)
section
variable {F0 H0 B F H R A C S : Hp} {own : List Hp} {p : Addr} {n : Int} {Q : VK} {E : XK}
theorem next0 (M : Mem F0 H0 B F H (R :: own)) (hs : IsSt F R p) (n0 : 0 < n) (q : ∀ z F' H' R', Mem F0 H0 B F' H' (R' :: own) → Same F F' → IsSt F' R' p → 0 ≤ z → z < n → Q (.int z) H') : sp__law_next [.ref p, .int n] H Q E :=
  ⟨F, R, p, n, rfl, M.fh, M.oh0, M.fo0, hs, n0, fun z F' H' R' g h z0 z1 => q z F' H' R' (M.go g) g.ff h z0 z1⟩
theorem next1 (M : Mem F0 H0 B F H (A :: R :: own)) (hs : IsSt F R p) (n0 : 0 < n) (q : ∀ z F' H' R', Mem F0 H0 B F' H' (A :: R' :: own) → Same F F' → IsSt F' R' p → 0 ≤ z → z < n → Q (.int z) H') : sp__law_next [.ref p, .int n] H Q E :=
  ⟨F, R, p, n, rfl, M.fh, M.oh1, M.fo1, hs, n0, fun z F' H' R' g h z0 z1 => q z F' H' R' (M.go1 g) g.ff h z0 z1⟩
theorem next2 (M : Mem F0 H0 B F H (A :: C :: R :: own)) (hs : IsSt F R p) (n0 : 0 < n) (q : ∀ z F' H' R', Mem F0 H0 B F' H' (A :: C :: R' :: own) → Same F F' → IsSt F' R' p → 0 ≤ z → z < n → Q (.int z) H') : sp__law_next [.ref p, .int n] H Q E :=
  ⟨F, R, p, n, rfl, M.fh, M.oh2, M.fo2, hs, n0, fun z F' H' R' g h z0 z1 => q z F' H' R' (M.go2 g) g.ff h z0 z1⟩
end

/-! _law_same: of the same data, True -/
def sp__law_is_integer : Sp := fun vs H Q _ => ∃ i : Int, vs = [.int i] ∧ Q (.bl true) H
theorem ok__law_is_integer (T : Tx K mg) : FnE P w K mg base CX0 "_law_is_integer" 1 ["actual"] sp__law_is_integer := by
  refine fnE T.d__law_is_integer sc__law_is_integer bd__law_is_integer (fun vs H Q E h => ?_) (fun f cdv A outer s H vs Q E hr h => ?_)
  · obtain ⟨i, rfl, _⟩ := h
    rfl
  obtain ⟨i, rfl, k⟩ := h
  have M := Mem.start0 (emp_same (A := H))
  have hi : Da emp (.int i) (.int i) := .int i
  refine ⟨_, (pss_one (ps_ret (pe_and (pe_callB c_isi (by rfl) T.b_isinstance DL.bt_isinstance (pa_cons (pv 0) (pa_cons (pe_ty (by rfl) T.b_int DL.bt_int) pa_nil))) (pe_one (pe_not (pe_callB c_isi (by rfl) T.b_isinstance DL.bt_isinstance (pa_cons (pv 0) (pa_cons (pe_ty (by rfl) T.b_bool DL.bt_bool) pa_nil)))))))), ?_⟩
  (tm_at "dl go")
  exact k
def sp_same : Nat → Sp
  | 0 => fun _ _ _ _ => False
  | n + 1 => fun vs H Q _ => ∃ (F : Hp) (x y : V) (d : PyData), vs = [x, y] ∧ Same F H ∧ Da F x d ∧ Da F y d ∧ Fit n d ∧ ∀ H', Same H H' → Q (.bl true) H'
theorem ok__law_same (T : Tx K mg) : ∀ n : Nat, FnE P w K mg base CX0 "_law_same" (n + 1) ["actual", "expected"] (sp_same n)
  | 0 => FnE.never T.d__law_same bd__law_same 1
  | n + 1 => by
    have G__law_same := ok__law_same T n
    refine fnE T.d__law_same sc__law_same bd__law_same (fun vs H Q E h => ?_) (fun f cdv A outer s H vs Q E hr h => ?_)
    · obtain ⟨F, x, y, d, rfl, _⟩ := h
      rfl
    obtain ⟨F, x, y, d, rfl, hF, hx, hy, hd, k⟩ := h
    have M := Mem.start0 hF
    have kk : ∀ {F' H' : Hp}, Mem F H emp F' H' [] → Q (.bl true) H' := fun {F' H'} M' => k H' M'.fin0.same0
    refine ⟨_, (pss_cons (ps_if (pt_val (pe_callB c_isiT (by rfl) T.b_isinstance DL.bt_isinstance (pa_cons (pv 1) (pa_cons (pe_tup (pa_cons (pe_ty (by rfl) T.b_list DL.bt_list) (pa_cons (pe_ty (by rfl) T.b_tuple DL.bt_tuple) pa_nil))) pa_nil))))
  (pss_cons (ps_if (PW.pt (pw_or (pt_cmpR op_ne (pe_callB c_isi (by rfl) T.b_isinstance DL.bt_isinstance (pa_cons (pv 1) (pa_cons (pe_ty (by rfl) T.b_list DL.bt_list) pa_nil))) (pe_callB c_isi (by rfl) T.b_isinstance DL.bt_isinstance (pa_cons (pv 0) (pa_cons (pe_ty (by rfl) T.b_list DL.bt_list) pa_nil))) (nomark _)) (pw_or1 (pt_cmpR op_ne (pe_callB c_isi (by rfl) T.b_isinstance DL.bt_isinstance (pa_cons (pv 1) (pa_cons (pe_ty (by rfl) T.b_tuple DL.bt_tuple) pa_nil))) (pe_callB c_isi (by rfl) T.b_isinstance DL.bt_isinstance (pa_cons (pv 0) (pa_cons (pe_ty (by rfl) T.b_tuple DL.bt_tuple) pa_nil))) (nomark _)))))
  (pss_one (ps_ret pe_bl))
  pss_nil)
  (pss_cons (ps_if (pt_cmpR op_ne (pe_callB c_lenQ (by rfl) T.b_len DL.bt_len (pa_cons (pv 0) pa_nil)) (pe_callB c_lenQ (by rfl) T.b_len DL.bt_len (pa_cons (pv 1) pa_nil)) (nomark _))
  (pss_one (ps_ret pe_bl))
  pss_nil)
  (pss_cons (ps_for PassesOwn.never rfl (pi_range1 rfl T.b_range (pa_cons (pe_callB c_lenQ (by rfl) T.b_len DL.bt_len (pa_cons (pv 1) pa_nil)) pa_nil)) (pg_name (i := 2) sc__law_same.nd rfl (Or.inl rfl))
  (pss_one (ps_if (pt_not (pt_val (pe_fn G__law_same hr rfl pass0 (pa_cons (pe_ix ix_seq (pv 0) (pv 2) (fun _ _ => rfl)) (pa_cons (pe_ix ix_seq (pv 1) (pv 2) (fun _ _ => rfl)) pa_nil)))))
  (pss_one (ps_ret pe_bl))
  pss_nil)))
  (pss_one (ps_ret pe_bl)))))
  pss_nil)
  (pss_cons (ps_if (pt_cmpR op_isN1 (pv 1) pe_non (nomark _))
  (pss_one (ps_ret (pe_cmpR op_isN1 (pv 0) pe_non (nomark _))))
  pss_nil)
  (pss_cons (ps_if (pt_val (pe_callB c_isi (by rfl) T.b_isinstance DL.bt_isinstance (pa_cons (pv 1) (pa_cons (pe_ty (by rfl) T.b_bool DL.bt_bool) pa_nil))))
  (pss_one (ps_ret (pe_and (pe_callB c_isi (by rfl) T.b_isinstance DL.bt_isinstance (pa_cons (pv 0) (pa_cons (pe_ty (by rfl) T.b_bool DL.bt_bool) pa_nil))) (pe_one (pe_cmpR op_eq (pv 0) (pv 1) (nomark _))))))
  pss_nil)
  (pss_cons (ps_if (pt_val (pe_callB c_isi (by rfl) T.b_isinstance DL.bt_isinstance (pa_cons (pv 1) (pa_cons (pe_ty (by rfl) T.b_int DL.bt_int) pa_nil))))
  (pss_one (ps_ret (pe_and (pe_fn (ok__law_is_integer T) (hr.mono (by first | decide | omega)) rfl pass0 (pa_cons (pv 0) pa_nil)) (pe_one (pe_cmpR op_eq (pv 0) (pv 1) (nomark _))))))
  pss_nil)
  (pss_one (ps_ret (pe_and (pe_callB c_isi (by rfl) T.b_isinstance DL.bt_isinstance (pa_cons (pv 0) (pa_cons (pe_ty (by rfl) T.b_str DL.bt_str) pa_nil))) (pe_one (pe_cmpR op_eq (pv 0) (pv 1) (nomark _)))))))))), ?_⟩
    (tm_at "dl go")
    refine m_tupV M (by simp only [List.length_cons, List.length_nil]; decide) fun tt F1 H1 M1 s1 ht => ?_
    replace hx := hx.mono s1
    replace hy := hy.mono s1
    cases d with
    | dict kvs => cases n <;> exact hd.elim
    | none =>
      refine m_isiT M1 hy ht (r := false) (by dsimp only [tyD]; decide +kernel) ?_
      obtain rfl := hx.of_non
      obtain rfl := hy.of_non
      (tm_at "dl go")
      exact kk M1
    | bool b =>
      refine m_isiT M1 hy ht (r := false) (by dsimp only [tyD]; decide +kernel) ?_
      obtain rfl := hx.of_bl
      obtain rfl := hy.of_bl
      (tm_at "dl go")
      rw [decide_eq_true rfl]
      exact kk M1
    | int i =>
      refine m_isiT M1 hy ht (r := false) (by dsimp only [tyD]; decide +kernel) ?_
      obtain rfl := hx.of_int
      obtain rfl := hy.of_int
      (tm_at "dl go")
      refine ⟨i, rfl, ?_⟩
      (tm_at "dl go")
      rw [decide_eq_true rfl]
      exact kk M1
    | str z =>
      refine m_isiT M1 hy ht (r := false) (by dsimp only [tyD]; decide +kernel) ?_
      obtain rfl := hx.of_str
      obtain rfl := hy.of_str
      (tm_at "dl go")
      rw [decide_eq_true rfl]
      exact kk M1
    | list ds =>
      refine m_isiT M1 hy ht (r := true) (by dsimp only [tyD]; decide +kernel) ?_
      cases n with
      | zero => exact hd.elim
      | succ n =>
      obtain ⟨hz, hall⟩ : ds.length ≤ 1000000000 ∧ ∀ d ∈ ds, Fit n d := hd
      obtain ⟨yp, _, rfl, _, _⟩ := id hy.of_lst
      (tm_at "dl go")
      rw [decide_eq_true rfl]
      (tm_at "dl go")
      rw [decide_eq_true rfl]
      (tm_at "dl go")
      refine m_lenA M1 (.inl hx) ?_
      (tm_at "dl go")
      refine m_lenA M1 (.inl hy) ?_
      (tm_at "dl go")
      rw [decide_eq_true rfl]
      refine iteF ?_
      (tm_at "dl go")
      refine m_lenA M1 (.inl hy) ?_
      (tm_at "dl go")
      refine s_r1 (by omega) (by omega) ?_
      refine m_forR M1 (fun i σ F' own => ∃ z : Option V, σ = [some x, some (.ref yp), z] ∧ own = []) ⟨_, rfl, rfl⟩ ?_ ?_
      · rintro i σ F5 H5 own hi s5 M5 ⟨z, rfl, rfl⟩
        have hi' : i < ds.length := by simpa using hi
        have ei : atI ds (0 + (i : Int)) = some ds[i] := atI_at (j := i) (by omega) (List.getElem?_eq_getElem hi')
        (tm_at "dl go")
        refine m_ixA M5 (.inl (hx.mono s5)) ei fun v dv => ?_
        (tm_at "dl go")
        refine m_ixA M5 (.inl (hy.mono s5)) ei fun u du => ?_
        (tm_at "dl go")
        refine ⟨F5, v, u, ds[i], rfl, M5.fh, dv, du, hall _ (List.getElem_mem hi'), fun H6 s6 => ?_⟩
        (tm_at "dl go")
        exact Nx.mk s5 (M5.go0 (Go.same M5.fh s6)) ⟨_, rfl, rfl⟩
      · rintro σ F5 H5 own s5 M5 ⟨z, rfl, rfl⟩
        (tm_at "dl go")
        exact kk M5
    | tuple ds =>
      refine m_isiT M1 hy ht (r := true) (by dsimp only [tyD]; decide +kernel) ?_
      cases n with
      | zero => exact hd.elim
      | succ n =>
      obtain ⟨hz, hall⟩ : ds.length ≤ 1000000000 ∧ ∀ d ∈ ds, Fit n d := hd
      obtain ⟨yp, _, rfl, _, _⟩ := id hy.of_tup
      (tm_at "dl go")
      rw [decide_eq_true rfl]
      (tm_at "dl go")
      rw [decide_eq_true rfl]
      (tm_at "dl go")
      refine m_lenA M1 (.inr hx) ?_
      (tm_at "dl go")
      refine m_lenA M1 (.inr hy) ?_
      (tm_at "dl go")
      rw [decide_eq_true rfl]
      refine iteF ?_
      (tm_at "dl go")
      refine m_lenA M1 (.inr hy) ?_
      (tm_at "dl go")
      refine s_r1 (by omega) (by omega) ?_
      refine m_forR M1 (fun i σ F' own => ∃ z : Option V, σ = [some x, some (.ref yp), z] ∧ own = []) ⟨_, rfl, rfl⟩ ?_ ?_
      · rintro i σ F5 H5 own hi s5 M5 ⟨z, rfl, rfl⟩
        have hi' : i < ds.length := by simpa using hi
        have ei : atI ds (0 + (i : Int)) = some ds[i] := atI_at (j := i) (by omega) (List.getElem?_eq_getElem hi')
        (tm_at "dl go")
        refine m_ixA M5 (.inr (hx.mono s5)) ei fun v dv => ?_
        (tm_at "dl go")
        refine m_ixA M5 (.inr (hy.mono s5)) ei fun u du => ?_
        (tm_at "dl go")
        refine ⟨F5, v, u, ds[i], rfl, M5.fh, dv, du, hall _ (List.getElem_mem hi'), fun H6 s6 => ?_⟩
        (tm_at "dl go")
        exact Nx.mk s5 (M5.go0 (Go.same M5.fh s6)) ⟨_, rfl, rfl⟩
      · rintro σ F5 H5 own s5 M5 ⟨z, rfl, rfl⟩
        (tm_at "dl go")
        exact kk M5
section
variable {F0 H0 B F H : Hp} {own : List Hp} {Q : VK} {E : XK} {x y : V} {d : PyData}
theorem same_call (M : Mem F0 H0 B F H own) (hx : Da F x d) (hy : Da F y d) (hd : Fit 9 d) (q : ∀ H', Mem F0 H0 B F H' own → Q (.bl true) H') : sp_same 10 [x, y] H Q E :=
  ⟨F, x, y, d, rfl, M.fh, hx, hy, hd, fun H' s => q H' (M.go0 (Go.same M.fh s))⟩
end

end
end K10

namespace K10
open PySem PySem.Spec PyProof.Rows L2 DL
local macro_rules | `(tactic| tm_at "dl hp") => `(tactic| (first | assumption | exact Mem.at0 (by assumption) | exact Mem.at1 (by assumption) | exact Mem.at2 (by assumption) | exact Mem.at3 (by assumption)))
local macro_rules | `(tactic| tm_at "dl ch") => `(tactic| (repeat (first | exact L2.Same.refl _ | assumption | refine L2.Same.trans ?_ (by assumption))))
local macro_rules | `(tactic| tm_at "dl da") => `(tactic| (first | assumption | (refine Da.mono ?_ (by assumption); (repeat (first | exact L2.Same.refl _ | assumption | refine L2.Same.trans ?_ (by assumption))))))
local macro_rules | `(tactic| tm_at "dl st") => `(tactic| (first | ((with_reducible show tVar _ _ _ _); refine s_var (by rfl) ?_) | with_reducible refine s_seq ?_ | with_reducible refine s_asg ?_ | with_reducible refine s_op ?_ | with_reducible refine s_un ?_ | with_reducible refine s_c ?_ | with_reducible refine s_call ?_ | with_reducible refine s_cons ?_ | with_reducible refine s_nil ?_ | with_reducible refine s_CB ?_ | with_reducible refine s_test ?_ | with_reducible refine s_tB ?_ | with_reducible refine s_tq ?_ | with_reducible refine s_if ?_ | with_reducible refine s_drop ?_ | with_reducible refine s_ret ?_ | with_reducible refine s_retN ?_ | with_reducible refine s_next ?_ | with_reducible refine s_brk ?_ | with_reducible refine s_cont ?_ | with_reducible refine s_name ?_ | with_reducible refine s_I0 ?_ | with_reducible refine s_U ?_ | with_reducible refine s_eqI ?_ | with_reducible refine s_eqS ?_ | with_reducible refine s_eqB ?_ | with_reducible refine s_neI ?_ | with_reducible refine s_neS ?_ | with_reducible refine s_neB ?_ | with_reducible refine s_isN0 ?_ | with_reducible refine s_isNI ?_ | with_reducible refine s_isNS ?_ | with_reducible refine s_isNR ?_ | with_reducible refine s_isNB ?_ | with_reducible refine s_notN0 ?_ | with_reducible refine s_notNI ?_ | with_reducible refine s_notNS ?_ | with_reducible refine s_notNR ?_ | with_reducible refine iteNT ?_ | with_reducible refine iteNF ?_ | with_reducible refine s_not ?_ | with_reducible refine s_and ?_ | with_reducible refine s_or ?_ | with_reducible refine s_ifE ?_ | with_reducible refine s_andV ?_ | with_reducible refine s_orV ?_ | with_reducible refine s_notV ?_ | with_reducible refine s_tup ?_ | with_reducible refine s_lst ?_ | with_reducible refine s_sub ?_ | with_reducible refine s_gCons ?_ | with_reducible refine s_gNil ?_ | with_reducible refine s_ipI ?_ | with_reducible refine s_for ?_ | with_reducible refine s_lc ?_ | with_reducible refine s_yes ?_ | with_reducible refine s_iList ?_ | with_reducible refine s_iTup ?_ | with_reducible refine s_iRng1 ?_ | with_reducible refine s_iRng2 ?_ | with_reducible refine s_iZip ?_ | with_reducible refine s_iEnum ?_ | with_reducible refine s_iStr ?_ | with_reducible refine s_st ?_ | with_reducible refine iteT ?_ | with_reducible refine iteF ?_ | with_reducible refine s_BM ?_ | with_reducible refine s_tyS ?_ | with_reducible refine s_int ?_ | with_reducible refine s_intB ?_ | with_reducible refine s_min ?_ | with_reducible refine s_max ?_ | with_reducible refine s_sl ?_ | with_reducible refine s_noP ?_ | with_reducible refine s_meth ?_ | with_reducible refine s_fld ?_ | with_reducible refine s_sfld ?_ | with_reducible refine s_make ?_ | with_reducible refine s_part ?_ | with_reducible refine s_pt ?_ | with_reducible refine s_augS ?_ | ((with_reducible show tAug _ _ _ _ _ _); refine s_aug (by rfl) ?_) | ((with_reducible show rI _ _ _ _ _ _); refine s_I (by first | (show (0 : Int) < _; decide) | (exact ⟨by decide, by decide⟩) | (exact .inr ⟨by decide, by decide⟩) | (exact .inl ⟨by decide, by decide⟩) | (exact ⟨by decide, by decide, by decide⟩)) ?_) | ((with_reducible show rIsi _ _ _ _); first | refine m_isi (by assumption) (by assumption) (r := true) (by dsimp only [tyD]; decide +kernel) ?_ | refine m_isi (by assumption) (by assumption) (r := false) (by dsimp only [tyD]; decide +kernel) ?_) | ((with_reducible show tyV _ _ _ _ ∧ _); refine s_tyL (by (first | assumption | exact Mem.at0 (by assumption) | exact Mem.at1 (by assumption) | exact Mem.at2 (by assumption) | exact Mem.at3 (by assumption))) ?_) | ((with_reducible show rIxL _ _ _ _ _); refine s_ixL (by (first | assumption | exact Mem.at0 (by assumption) | exact Mem.at1 (by assumption) | exact Mem.at2 (by assumption) | exact Mem.at3 (by assumption))) (by rfl) ?_)))
local macro_rules | `(tactic| tm_at "dl go") => `(tactic| (repeat (first | ((with_reducible show tVar _ _ _ _); refine s_var (by rfl) ?_) | with_reducible refine s_seq ?_ | with_reducible refine s_asg ?_ | with_reducible refine s_op ?_ | with_reducible refine s_un ?_ | with_reducible refine s_c ?_ | with_reducible refine s_call ?_ | with_reducible refine s_cons ?_ | with_reducible refine s_nil ?_ | with_reducible refine s_CB ?_ | with_reducible refine s_test ?_ | with_reducible refine s_tB ?_ | with_reducible refine s_tq ?_ | with_reducible refine s_if ?_ | with_reducible refine s_drop ?_ | with_reducible refine s_ret ?_ | with_reducible refine s_retN ?_ | with_reducible refine s_next ?_ | with_reducible refine s_brk ?_ | with_reducible refine s_cont ?_ | with_reducible refine s_name ?_ | with_reducible refine s_I0 ?_ | with_reducible refine s_U ?_ | with_reducible refine s_eqI ?_ | with_reducible refine s_eqS ?_ | with_reducible refine s_eqB ?_ | with_reducible refine s_neI ?_ | with_reducible refine s_neS ?_ | with_reducible refine s_neB ?_ | with_reducible refine s_isN0 ?_ | with_reducible refine s_isNI ?_ | with_reducible refine s_isNS ?_ | with_reducible refine s_isNR ?_ | with_reducible refine s_isNB ?_ | with_reducible refine s_notN0 ?_ | with_reducible refine s_notNI ?_ | with_reducible refine s_notNS ?_ | with_reducible refine s_notNR ?_ | with_reducible refine iteNT ?_ | with_reducible refine iteNF ?_ | with_reducible refine s_not ?_ | with_reducible refine s_and ?_ | with_reducible refine s_or ?_ | with_reducible refine s_ifE ?_ | with_reducible refine s_andV ?_ | with_reducible refine s_orV ?_ | with_reducible refine s_notV ?_ | with_reducible refine s_tup ?_ | with_reducible refine s_lst ?_ | with_reducible refine s_sub ?_ | with_reducible refine s_gCons ?_ | with_reducible refine s_gNil ?_ | with_reducible refine s_ipI ?_ | with_reducible refine s_for ?_ | with_reducible refine s_lc ?_ | with_reducible refine s_yes ?_ | with_reducible refine s_iList ?_ | with_reducible refine s_iTup ?_ | with_reducible refine s_iRng1 ?_ | with_reducible refine s_iRng2 ?_ | with_reducible refine s_iZip ?_ | with_reducible refine s_iEnum ?_ | with_reducible refine s_iStr ?_ | with_reducible refine s_st ?_ | with_reducible refine iteT ?_ | with_reducible refine iteF ?_ | with_reducible refine s_BM ?_ | with_reducible refine s_tyS ?_ | with_reducible refine s_int ?_ | with_reducible refine s_intB ?_ | with_reducible refine s_min ?_ | with_reducible refine s_max ?_ | with_reducible refine s_sl ?_ | with_reducible refine s_noP ?_ | with_reducible refine s_meth ?_ | with_reducible refine s_fld ?_ | with_reducible refine s_sfld ?_ | with_reducible refine s_make ?_ | with_reducible refine s_part ?_ | with_reducible refine s_pt ?_ | with_reducible refine s_augS ?_ | ((with_reducible show tAug _ _ _ _ _ _); refine s_aug (by rfl) ?_) | ((with_reducible show rI _ _ _ _ _ _); refine s_I (by first | (show (0 : Int) < _; decide) | (exact ⟨by decide, by decide⟩) | (exact .inr ⟨by decide, by decide⟩) | (exact .inl ⟨by decide, by decide⟩) | (exact ⟨by decide, by decide, by decide⟩)) ?_) | ((with_reducible show rIsi _ _ _ _); first | refine m_isi (by assumption) (by assumption) (r := true) (by dsimp only [tyD]; decide +kernel) ?_ | refine m_isi (by assumption) (by assumption) (r := false) (by dsimp only [tyD]; decide +kernel) ?_) | ((with_reducible show tyV _ _ _ _ ∧ _); refine s_tyL (by (first | assumption | exact Mem.at0 (by assumption) | exact Mem.at1 (by assumption) | exact Mem.at2 (by assumption) | exact Mem.at3 (by assumption))) ?_) | ((with_reducible show rIxL _ _ _ _ _); refine s_ixL (by (first | assumption | exact Mem.at0 (by assumption) | exact Mem.at1 (by assumption) | exact Mem.at2 (by assumption) | exact Mem.at3 (by assumption))) (by rfl) ?_))))

section
variable {P : Program} {w : World} {K : PySem.W.Frag} {mg : Str → Option Value} {base : Heap}
/-! files: the plain part -/
inductive Sx where
  | app (b : Int) | tru (n : Nat)
def encS : Sx → PyData
  | .app b => .tuple [.str "append", .int b]
  | .tru n => .tuple [.str "truncate", .int (n : Int)]
def one (l : List Int) : Sx → List Int
  | .app b => l ++ [b]
  | .tru n => l.take n
def apl (l : List Int) (s : List Sx) : List Int := s.foldl one l
theorem one_len (l : List Int) (x : Sx) : (one l x).length ≤ l.length + 1 := by
  cases x with
  | app b => simp [one]
  | tru n => simp only [one, List.length_take]; omega
theorem apl_len : ∀ (s : List Sx) (l : List Int), (apl l s).length ≤ l.length + s.length
  | [], l => Nat.le_refl _
  | x :: s, l => by
    have h1 := apl_len s (one l x)
    have h2 := one_len l x
    show (apl (one l x) s).length ≤ _
    rw [List.length_cons]
    omega
theorem apl_snoc (l : List Int) (s : List Sx) (x : Sx) : apl l (s ++ [x]) = one (apl l s) x := by
  unfold apl
  rw [List.foldl_append]
  rfl
theorem take_snoc {α : Type} {l : List α} {i : Nat} {a : α} (h : l[i]? = some a) : l.take (i + 1) = l.take i ++ [a] := by
  rw [List.take_succ, h]
  rfl
/-! _applied -/
def sp__applied : Sp := fun vs H Q _ => ∃ (F : Hp) (x : V) (y : Addr) (l : List Int) (ss : List Sx) (sv : List V), vs = [x, .ref y] ∧ Same F H ∧ Da F x (.list (l.map PyData.int)) ∧ H y = some (.lst sv) ∧ DaA F sv (ss.map encS) ∧ l.length + ss.length ≤ 1000000 ∧
  ∀ p F' H', Go F H emp F' H' (cell p (.lst ((apl l ss).map V.int))) → Q (.ref p) H'
theorem ok__applied (T : Tx K mg) : FnE P w K mg base CX0 "_applied" 1 ["data", "steps"] sp__applied := by
  refine fnE T.d__applied sc__applied bd__applied (fun vs H Q E h => ?_) (fun f cdv A outer s H vs Q E hr h => ?_)
  · obtain ⟨F, x, y, l, ss, sv, rfl, _⟩ := h
    rfl
  obtain ⟨F, x, y, l, ss, sv, rfl, hF, hx, hy, hs, hz, k⟩ := h
  have M := Mem.start0 hF
  refine ⟨_, (pss_cons (ps_set (i := 2) sc__applied.nd rfl (Or.inl rfl) (pe_callTy c_list (by rfl) T.b_list DL.bt_list (pa_cons (pv 0) pa_nil)))
  (pss_cons (ps_for PassesOwn.never rfl (pi_list (pv 1)) (pg_tup rfl (pgs_cons (pg_name (i := 3) sc__applied.nd rfl (Or.inl rfl)) (pgs_cons (pg_name (i := 4) sc__applied.nd rfl (Or.inl rfl)) pgs_nil)))
  (pss_one (ps_if (pt_cmpR op_eq (pv 3) pe_str (nomark _))
  (pss_one (ps_expr (pe_bm PySem.F.plainAttrs_list PySem.F.slot_list_append PySem.F.type_list_append c_append (pv 2) (pa_cons (pv 4) pa_nil))))
  (pss_one (ps_set (i := 2) sc__applied.nd rfl (Or.inl rfl) (pe_slice sl_list (pv 2) po_none (po_some (pv 4))))))))
  (pss_one (ps_ret (pv 2))))), ?_⟩
  (tm_at "dl go")
  refine m_listO M hx fun r vs H1 M1 ha => ?_
  obtain rfl := ha.ints_inv
  (tm_at "dl go")
  have keep : ∀ {F' H' : Hp} {own' : List Hp}, Mem F H emp F' H' own' → SqL K H' y sv := fun m => SqL.of (m.keep _ _ hy rfl)
  refine m_forQ M1 (keep M1) hs (fun i σ F' own => ∃ (r : Addr) (u v : Option V), σ = [some x, some (.ref y), some (.ref r), u, v] ∧ own = [cell r (.lst ((apl l (ss.take i)).map V.int))])
    (fun i σ F' H' own' _ m _ => keep m) ⟨r, _, _, rfl, rfl⟩ ?_ ?_
  · rintro i d v σ F2 H2 own ed s2 M2 dv ⟨r, u, w, rfl, rfl⟩
    rw [List.getElem?_map] at ed
    cases es : ss[i]? with
    | none => rw [es] at ed; cases ed
    | some st =>
    rw [es] at ed
    obtain rfl := Option.some.inj ed
    have hi : i < ss.length := (List.getElem?_eq_some_iff.mp es).1
    have hal := apl_len (ss.take i) l
    rw [List.length_take] at hal
    cases st with
    | app b =>
      refine m_tupG2 M2 dv fun a c ha hc => ?_
      obtain rfl := ha.of_str
      obtain rfl := hc.of_int
      (tm_at "dl go")
      rw [decide_eq_true rfl]
      (tm_at "dl go")
      refine m_app0 M2 (Nat.lt_of_le_of_lt (show _ ≤ 1000000 by rw [List.length_map]; omega) (by decide)) fun H3 M3 => ?_
      (tm_at "dl go")
      refine Nx.mk s2 M3 ⟨r, _, _, rfl, ?_⟩
      rw [take_snoc es, apl_snoc]
      simp [one]
    | tru n =>
      refine m_tupG2 M2 dv fun a c ha hc => ?_
      obtain rfl := ha.of_str
      obtain rfl := hc.of_int
      (tm_at "dl go")
      rw [decide_eq_false (show ¬ ("truncate" : Str) = "append" by decide +kernel)]
      (tm_at "dl go")
      refine s_slQ (SqL.of M2.at0) (m_lst M2 fun r' H3 M3 => ?_)
      (tm_at "dl go")
      refine Nx.mk s2 M3.drop1 ⟨r', _, _, rfl, ?_⟩
      have e : cutV ((apl l (ss.take i)).map V.int) Option.none (some (n : Int)) = (one (apl l (ss.take i)) (.tru n)).map V.int := by
        show cutA ((apl l (ss.take i)).map V.int) Option.none (some (n : Int)) = _
        rw [cutA_to]
        simp [one]
      rw [take_snoc es, apl_snoc, e]
  · rintro σ F2 H2 own s2 M2 ⟨r, u, w, rfl, rfl⟩
    (tm_at "dl go")
    have e : (ss.take (ss.map encS).length) = ss := List.take_of_length_le (by simp)
    rw [e] at M2
    exact k _ _ _ M2.fin
/-! a file -/
abbrev CF (K : PySem.W.Frag) : Addr := He.ga K "File"
def IsF (K : PySem.W.Frag) (F R : Hp) (a : Addr) (l : List Int) (ss : List Sx) : Prop := ∃ (dx li s : Addr) (sv : List V), R a = some (.ins (CF K) dx [("_lasting", .ref li), ("_steps", .ref s)]) ∧ R dx = some (.own a) ∧ R s = some (.lst sv) ∧ Da F (.ref li) (.list (l.map PyData.int)) ∧ DaA F sv (ss.map encS)
theorem IsF.mono {F F' R : Hp} {a : Addr} {l : List Int} {ss : List Sx} (s : Same F F') (h : IsF K F R a l ss) : IsF K F' R a l ss := by
  obtain ⟨dx, li, z, sv, h1, h2, h3, h4, h5⟩ := h
  exact ⟨dx, li, z, sv, h1, h2, h3, h4.mono s, h5.mono s⟩
def sp_init : Sp := fun vs H Q _ => ∃ (F R : Hp) (a dx : Addr), vs = [.ref a] ∧ Same F H ∧ Same R H ∧ Dj F R ∧ R a = some (.ins (CF K) dx []) ∧ R dx = some (.own a) ∧ ∀ F' H' R', Go F H R F' H' R' → IsF K F' R' a [] [] → Q .non H'
theorem ok_File___init__ (T : Tx K mg) : FnI P w K mg base CX0 "File" (CF K) 1 ["self"] (sp_init (K := K)) := by
  refine fnI T.i_File sc_File___init__ bd_File___init__ (fun vs H Q E h => ?_) (fun f cdv A outer s H vs Q E hr h => ?_)
  · obtain ⟨F, R, a, dx, rfl, _⟩ := h
    rfl
  obtain ⟨F, R, a, dx, rfl, hF, hR, hd, h1, h2, k⟩ := h
  have M := Mem.start hF hR hd
  refine ⟨_, (pss_cons (ps_fld (pv 0) (pe_lst pa_nil) rfl)
  (pss_one (ps_fld (pv 0) (pe_lst pa_nil) rfl))), ?_⟩
  (tm_at "dl go")
  refine m_lz (Nat.zero_le _) ?_
  refine m_lstF M .nil fun li F1 H1 M1 s1 d1 => ?_
  (tm_at "dl go")
  refine s_sf (M1.oh0 _ _ h1) T.cl_File T.na_File__lasting (by show 0 < 1000; decide) ?_
  have M2 := M1.write (p := a) (o := .ins (CF K) dx (putF "_lasting" (.ref li) [])) (ns h1)
  (tm_at "dl go")
  refine m_lz (Nat.zero_le _) ?_
  refine m_lst M2 fun st H3 M3 => ?_
  (tm_at "dl go")
  refine s_sf (M3.oh1 _ _ upd_same) T.cl_File T.na_File__steps (by show 1 < 1000; decide) ?_
  have M4 := M3.swap.write (p := a) (o := .ins (CF K) dx (putF "_steps" (.ref st) (putF "_lasting" (.ref li) []))) (by rw [upd_same]; intro q; cases q)
  have M5 := M4.join
  have nd : dx ≠ a := ne_of h2 h1 (by intro q; cases q)
  refine k _ _ _ M5.fin ⟨dx, li, st, [], ?_, ?_, un_right M4.dj01 cell_same, d1, .nil⟩
  · exact un_left (by rw [upd_same]; rfl)
  · exact un_left (by rw [upd_ne nd, upd_ne nd]; exact h2)
end
end K10

namespace K10
open PySem PySem.Spec PyProof.Rows L2 DL
local macro_rules | `(tactic| tm_at "dl hp") => `(tactic| (first | assumption | exact Mem.at0 (by assumption) | exact Mem.at1 (by assumption) | exact Mem.at2 (by assumption) | exact Mem.at3 (by assumption)))
local macro_rules | `(tactic| tm_at "dl ch") => `(tactic| (repeat (first | exact L2.Same.refl _ | assumption | refine L2.Same.trans ?_ (by assumption))))
local macro_rules | `(tactic| tm_at "dl da") => `(tactic| (first | assumption | (refine Da.mono ?_ (by assumption); (repeat (first | exact L2.Same.refl _ | assumption | refine L2.Same.trans ?_ (by assumption))))))
local macro_rules | `(tactic| tm_at "dl st") => `(tactic| (first | ((with_reducible show tVar _ _ _ _); refine s_var (by rfl) ?_) | with_reducible refine s_seq ?_ | with_reducible refine s_asg ?_ | with_reducible refine s_op ?_ | with_reducible refine s_un ?_ | with_reducible refine s_c ?_ | with_reducible refine s_call ?_ | with_reducible refine s_cons ?_ | with_reducible refine s_nil ?_ | with_reducible refine s_CB ?_ | with_reducible refine s_test ?_ | with_reducible refine s_tB ?_ | with_reducible refine s_tq ?_ | with_reducible refine s_if ?_ | with_reducible refine s_drop ?_ | with_reducible refine s_ret ?_ | with_reducible refine s_retN ?_ | with_reducible refine s_next ?_ | with_reducible refine s_brk ?_ | with_reducible refine s_cont ?_ | with_reducible refine s_name ?_ | with_reducible refine s_I0 ?_ | with_reducible refine s_U ?_ | with_reducible refine s_eqI ?_ | with_reducible refine s_eqS ?_ | with_reducible refine s_eqB ?_ | with_reducible refine s_neI ?_ | with_reducible refine s_neS ?_ | with_reducible refine s_neB ?_ | with_reducible refine s_isN0 ?_ | with_reducible refine s_isNI ?_ | with_reducible refine s_isNS ?_ | with_reducible refine s_isNR ?_ | with_reducible refine s_isNB ?_ | with_reducible refine s_notN0 ?_ | with_reducible refine s_notNI ?_ | with_reducible refine s_notNS ?_ | with_reducible refine s_notNR ?_ | with_reducible refine iteNT ?_ | with_reducible refine iteNF ?_ | with_reducible refine s_not ?_ | with_reducible refine s_and ?_ | with_reducible refine s_or ?_ | with_reducible refine s_ifE ?_ | with_reducible refine s_andV ?_ | with_reducible refine s_orV ?_ | with_reducible refine s_notV ?_ | with_reducible refine s_tup ?_ | with_reducible refine s_lst ?_ | with_reducible refine s_sub ?_ | with_reducible refine s_gCons ?_ | with_reducible refine s_gNil ?_ | with_reducible refine s_ipI ?_ | with_reducible refine s_for ?_ | with_reducible refine s_lc ?_ | with_reducible refine s_yes ?_ | with_reducible refine s_iList ?_ | with_reducible refine s_iTup ?_ | with_reducible refine s_iRng1 ?_ | with_reducible refine s_iRng2 ?_ | with_reducible refine s_iZip ?_ | with_reducible refine s_iEnum ?_ | with_reducible refine s_iStr ?_ | with_reducible refine s_st ?_ | with_reducible refine iteT ?_ | with_reducible refine iteF ?_ | with_reducible refine s_BM ?_ | with_reducible refine s_tyS ?_ | with_reducible refine s_int ?_ | with_reducible refine s_intB ?_ | with_reducible refine s_min ?_ | with_reducible refine s_max ?_ | with_reducible refine s_sl ?_ | with_reducible refine s_noP ?_ | with_reducible refine s_meth ?_ | with_reducible refine s_fld ?_ | with_reducible refine s_sfld ?_ | with_reducible refine s_make ?_ | with_reducible refine s_part ?_ | with_reducible refine s_pt ?_ | with_reducible refine s_augS ?_ | ((with_reducible show tAug _ _ _ _ _ _); refine s_aug (by rfl) ?_) | ((with_reducible show rI _ _ _ _ _ _); refine s_I (by first | (show (0 : Int) < _; decide) | (exact ⟨by decide, by decide⟩) | (exact .inr ⟨by decide, by decide⟩) | (exact .inl ⟨by decide, by decide⟩) | (exact ⟨by decide, by decide, by decide⟩)) ?_) | ((with_reducible show rIsi _ _ _ _); first | refine m_isi (by assumption) (by assumption) (r := true) (by dsimp only [tyD]; decide +kernel) ?_ | refine m_isi (by assumption) (by assumption) (r := false) (by dsimp only [tyD]; decide +kernel) ?_) | ((with_reducible show tyV _ _ _ _ ∧ _); refine s_tyL (by (first | assumption | exact Mem.at0 (by assumption) | exact Mem.at1 (by assumption) | exact Mem.at2 (by assumption) | exact Mem.at3 (by assumption))) ?_) | ((with_reducible show rIxL _ _ _ _ _); refine s_ixL (by (first | assumption | exact Mem.at0 (by assumption) | exact Mem.at1 (by assumption) | exact Mem.at2 (by assumption) | exact Mem.at3 (by assumption))) (by rfl) ?_)))
local macro_rules | `(tactic| tm_at "dl go") => `(tactic| (repeat (first | ((with_reducible show tVar _ _ _ _); refine s_var (by rfl) ?_) | with_reducible refine s_seq ?_ | with_reducible refine s_asg ?_ | with_reducible refine s_op ?_ | with_reducible refine s_un ?_ | with_reducible refine s_c ?_ | with_reducible refine s_call ?_ | with_reducible refine s_cons ?_ | with_reducible refine s_nil ?_ | with_reducible refine s_CB ?_ | with_reducible refine s_test ?_ | with_reducible refine s_tB ?_ | with_reducible refine s_tq ?_ | with_reducible refine s_if ?_ | with_reducible refine s_drop ?_ | with_reducible refine s_ret ?_ | with_reducible refine s_retN ?_ | with_reducible refine s_next ?_ | with_reducible refine s_brk ?_ | with_reducible refine s_cont ?_ | with_reducible refine s_name ?_ | with_reducible refine s_I0 ?_ | with_reducible refine s_U ?_ | with_reducible refine s_eqI ?_ | with_reducible refine s_eqS ?_ | with_reducible refine s_eqB ?_ | with_reducible refine s_neI ?_ | with_reducible refine s_neS ?_ | with_reducible refine s_neB ?_ | with_reducible refine s_isN0 ?_ | with_reducible refine s_isNI ?_ | with_reducible refine s_isNS ?_ | with_reducible refine s_isNR ?_ | with_reducible refine s_isNB ?_ | with_reducible refine s_notN0 ?_ | with_reducible refine s_notNI ?_ | with_reducible refine s_notNS ?_ | with_reducible refine s_notNR ?_ | with_reducible refine iteNT ?_ | with_reducible refine iteNF ?_ | with_reducible refine s_not ?_ | with_reducible refine s_and ?_ | with_reducible refine s_or ?_ | with_reducible refine s_ifE ?_ | with_reducible refine s_andV ?_ | with_reducible refine s_orV ?_ | with_reducible refine s_notV ?_ | with_reducible refine s_tup ?_ | with_reducible refine s_lst ?_ | with_reducible refine s_sub ?_ | with_reducible refine s_gCons ?_ | with_reducible refine s_gNil ?_ | with_reducible refine s_ipI ?_ | with_reducible refine s_for ?_ | with_reducible refine s_lc ?_ | with_reducible refine s_yes ?_ | with_reducible refine s_iList ?_ | with_reducible refine s_iTup ?_ | with_reducible refine s_iRng1 ?_ | with_reducible refine s_iRng2 ?_ | with_reducible refine s_iZip ?_ | with_reducible refine s_iEnum ?_ | with_reducible refine s_iStr ?_ | with_reducible refine s_st ?_ | with_reducible refine iteT ?_ | with_reducible refine iteF ?_ | with_reducible refine s_BM ?_ | with_reducible refine s_tyS ?_ | with_reducible refine s_int ?_ | with_reducible refine s_intB ?_ | with_reducible refine s_min ?_ | with_reducible refine s_max ?_ | with_reducible refine s_sl ?_ | with_reducible refine s_noP ?_ | with_reducible refine s_meth ?_ | with_reducible refine s_fld ?_ | with_reducible refine s_sfld ?_ | with_reducible refine s_make ?_ | with_reducible refine s_part ?_ | with_reducible refine s_pt ?_ | with_reducible refine s_augS ?_ | ((with_reducible show tAug _ _ _ _ _ _); refine s_aug (by rfl) ?_) | ((with_reducible show rI _ _ _ _ _ _); refine s_I (by first | (show (0 : Int) < _; decide) | (exact ⟨by decide, by decide⟩) | (exact .inr ⟨by decide, by decide⟩) | (exact .inl ⟨by decide, by decide⟩) | (exact ⟨by decide, by decide, by decide⟩)) ?_) | ((with_reducible show rIsi _ _ _ _); first | refine m_isi (by assumption) (by assumption) (r := true) (by dsimp only [tyD]; decide +kernel) ?_ | refine m_isi (by assumption) (by assumption) (r := false) (by dsimp only [tyD]; decide +kernel) ?_) | ((with_reducible show tyV _ _ _ _ ∧ _); refine s_tyL (by (first | assumption | exact Mem.at0 (by assumption) | exact Mem.at1 (by assumption) | exact Mem.at2 (by assumption) | exact Mem.at3 (by assumption))) ?_) | ((with_reducible show rIxL _ _ _ _ _); refine s_ixL (by (first | assumption | exact Mem.at0 (by assumption) | exact Mem.at1 (by assumption) | exact Mem.at2 (by assumption) | exact Mem.at3 (by assumption))) (by rfl) ?_))))

section
variable {P : Program} {w : World} {K : PySem.W.Frag} {mg : Str → Option Value} {base : Heap}
theorem put_l (x y z : V) : putF "_lasting" z [(("_lasting" : Str), x), (("_steps" : Str), y)] = [(("_lasting" : Str), z), (("_steps" : Str), y)] := by
  show (if ("_lasting" : Str) = "_lasting" then _ else _) = _
  rw [if_pos rfl]
theorem put_s (x y z : V) : putF "_steps" z [(("_lasting" : Str), x), (("_steps" : Str), y)] = [(("_lasting" : Str), x), (("_steps" : Str), z)] := by
  show (if ("_lasting" : Str) = "_steps" then _ else (("_lasting" : Str), x) :: (if ("_steps" : Str) = "_steps" then _ else _)) = _
  rw [if_neg (show ¬ ("_lasting" : Str) = "_steps" by decide +kernel), if_pos rfl]
theorem get_l (x y : V) : List.lookup ("_lasting" : Str) ([(("_lasting" : Str), x), (("_steps" : Str), y)] : List (Str × V)) = some x := by
  rw [List.lookup_cons_self]
theorem get_s (x y : V) : List.lookup ("_steps" : Str) ([(("_lasting" : Str), x), (("_steps" : Str), y)] : List (Str × V)) = some y := by
  rw [List.lookup_cons, show (("_steps" : Str) == "_lasting") = false by decide +kernel]
  rw [List.lookup_cons_self]
theorem get_no {m : Str} (h1 : (m == ("_lasting" : Str)) = false) (h2 : (m == ("_steps" : Str)) = false) (x y : V) : ([(("_lasting" : Str), x), (("_steps" : Str), y)] : List (Str × V)).lookup m = Option.none := by
  rw [List.lookup_cons, h1]
  show List.lookup m [(("_steps" : Str), y)] = Option.none
  rw [List.lookup_cons, h2]
  rfl
/-! what a limit is -/
inductive Lim where
  | no | at_ (n : Nat)
def Lim.v : Lim → V
  | .no => .non
  | .at_ n => .int (n : Int)
def Lim.cap (n : Nat) : Lim → Nat
  | .no => n
  | .at_ m => min m n
/-- the instance -/
theorem IsF.fld {F R H : Hp} {a : Addr} {l : List Int} {ss : List Sx} (h : IsF K F R a l ss) (s : Same R H) : ∃ (dx li st : Addr) (sv : List V), H a = some (.ins (CF K) dx [("_lasting", .ref li), ("_steps", .ref st)]) ∧ Da F (.ref li) (.list (l.map PyData.int)) ∧ R st = some (.lst sv) ∧ H st = some (.lst sv) ∧ DaA F sv (ss.map encS) := by
  obtain ⟨dx, li, st, sv, h1, h2, h3, h4, h5⟩ := h
  exact ⟨dx, li, st, sv, s _ _ h1, h4, h3, s _ _ h3, h5⟩
/-! write -/
def sp_write (K : PySem.W.Frag) : Sp := fun vs H Q _ => ∃ (F R : Hp) (a x : Addr) (l : List Int) (ss : List Sx) (bs : List Int) (m : Lim), vs = [.ref a, .ref x, m.v] ∧ Same F H ∧ Same R H ∧ Dj F R ∧ IsF K F R a l ss ∧ H x = some (.lst (bs.map V.int)) ∧ R x = Option.none ∧ ss.length + bs.length ≤ 100000 ∧
  ∀ F' H' R', Go F H R F' H' R' → IsF K F' R' a l (ss ++ (bs.take (m.cap bs.length)).map Sx.app) → Q (.int ((m.cap bs.length : Nat) : Int)) H'
theorem ok_File_write (T : Tx K mg) : FnM P w K mg base CX0 (CF K) "write" 1 ["self", "data", "steps"] (sp_write K) := by
  refine fnM T.m_File_write sc_File_write bd_File_write (fun vs H Q E h => ?_) (fun f cdv A outer s H vs Q E hr h => ?_)
  · obtain ⟨F, R, a, x, l, ss, bs, m, rfl, _⟩ := h
    rfl
  obtain ⟨F, R, a, x, l, ss, bs, m, rfl, hF, hR, hd, hf, hx, hxR, hz, k⟩ := h
  have M := Mem.start hF hR hd
  refine ⟨_, (pss_cons (ps_set (i := 3) sc_File_write.nd rfl (Or.inl rfl) (pe_ifExp (pt_cmpR op_isN1 (pv 2) pe_non (nomark _)) (pe_callB c_lenQ (by rfl) T.b_len DL.bt_len (pa_cons (pv 1) pa_nil)) (pe_callB (c_min2 rfl) (by rfl) T.b_min DL.bt_min (pa_cons (pv 2) (pa_cons (pe_callB c_lenQ (by rfl) T.b_len DL.bt_len (pa_cons (pv 1) pa_nil)) pa_nil)))))
  (pss_cons (ps_expr (pe_bm PySem.F.plainAttrs_list PySem.F.slot_list_extend PySem.F.type_list_extend c_extend (pe_fld (pv 0) rfl) (pa_cons (pe_lc (own := [("byte", 4)]) (g := gName 4) rfl sc_File_write.nd (pi_list (pe_slice sl_list (pv 1) po_none (po_some (pv 3)))) (blkOk_by (own := [("byte", 4)]) (N := n_File_write) (sc := defScope s_File_write) (by decide +kernel)) (fun _ _ _ _ _ => (pg_name (i := 4) sc_File_write.nd rfl (Or.inl rfl))) (fun _ _ _ _ _ => pts_nil) (fun _ _ _ _ _ => (pe_tup (pa_cons pe_str (pa_cons (pv 4) pa_nil))))) pa_nil)))
  (pss_one (ps_ret (pv 3))))), ?_⟩
  refine s_seq (s_asg ?_)
  refine s_cut (fun v H' => v = .int ((m.cap bs.length : Nat) : Int) ∧ H' = H) (fun Q k => ?_) ?_
  · cases m with
    | no =>
      dsimp only [Lim.v]
      (tm_at "dl go")
      refine s_lenQ (SqL.of hx) ?_
      rw [List.length_map]
      exact k _ _ ⟨rfl, rfl⟩
    | at_ n =>
      dsimp only [Lim.v]
      (tm_at "dl go")
      refine s_lenQ (SqL.of hx) ?_
      rw [List.length_map]
      (tm_at "dl go")
      refine k _ _ ⟨?_, rfl⟩
      congr 1
      show (if ((bs.length : Nat) : Int) < (n : Int) then ((bs.length : Nat) : Int) else (n : Int)) = ((min n bs.length : Nat) : Int)
      split <;> omega
  rintro v H' ⟨rfl, rfl⟩
  have hcap : m.cap bs.length ≤ bs.length := by
    cases m with
    | no => exact Nat.le_refl _
    | at_ n => exact Nat.min_le_right _ _
  (tm_at "dl go")
  obtain ⟨dx, li, st, sv, e1, e2, e3, e4, e5⟩ := hf.fld hR
  refine s_fd e1 T.cl_File T.na_File__steps (get_s _ _) ?_
  refine s_tyL e4 ?_
  (tm_at "dl go")
  refine s_slQ (SqL.of hx) ?_
  have ecut : cutV (bs.map V.int) Option.none (some ((m.cap bs.length : Nat) : Int)) = (bs.take (m.cap bs.length)).map V.int := by
    show cutA (bs.map V.int) Option.none (some ((m.cap bs.length : Nat) : Int)) = _
    rw [cutA_to, List.map_take]
  rw [ecut]
  refine m_lstF M (DaA.ints (ns := bs.take (m.cap bs.length))) fun q F1 H1 M1 s1 d1 => ?_
  refine m_lcL M1 d1 (fun i acc F' own => own = [R] ∧ DaA F' acc (((bs.take (m.cap bs.length)).take i).map fun b => encS (.app b))) ⟨rfl, .nil⟩ ?_ ?_
  · rintro i d v acc D F2 H2 own ed s2 M2 dv ⟨rfl, ha⟩
    rw [List.getElem?_map] at ed
    cases eb : (bs.take (m.cap bs.length))[i]? with
    | none => rw [eb] at ed; cases ed
    | some b =>
    rw [eb] at ed
    obtain rfl := Option.some.inj ed
    obtain rfl := dv.of_int
    (tm_at "dl go")
    refine ⟨rfl, ?_⟩
    (tm_at "dl go")
    refine m_tup M2 (.cons (.str "append") (.cons (.int b) .nil)) (Nat.le_of_lt (small1000 (by simp only [List.length_cons, List.length_nil]; decide))) fun t F3 H3 M3 s3 ht => ?_
    have al := ha.length
    rw [List.length_map, List.length_take, List.length_take] at al
    refine LcE.mk (s2.trans s3) M3 (Nat.lt_of_le_of_lt (show acc.length ≤ 100000 by omega) (by decide)) ⟨rfl, ?_⟩
    rw [take_snoc eb, List.map_append]
    exact (ha.mono s3).snoc ht
  · rintro D acc F2 H2 own s2 M2 ⟨rfl, ha⟩
    rw [List.length_map, List.take_length] at ha
    have l1 := e5.length
    have l2 := ha.length
    rw [List.length_map] at l1 l2
    rw [List.length_take] at l2
    (tm_at "dl go")
    refine s_ext (M2.oh1 _ _ e3) M2.at0 (sz100 (by omega)) ?_
    have M3 := M2.drop.write (p := st) (o := .lst (sv ++ acc)) (ns e3)
    (tm_at "dl go")
    obtain ⟨dx', li', st', sv', f1, f2, f3, f4, f5⟩ := hf
    have n1 : a ≠ st := ne_of f1 e3 (by intro q; cases q)
    have n2 : dx' ≠ st := ne_of f2 e3 (by intro q; cases q)
    have e1' : R a = some (.ins (CF K) dx [("_lasting", .ref li), ("_steps", .ref st)]) := by
      have := hR _ _ f1
      rw [e1] at this
      cases this
      exact f1
    rw [f1] at e1'
    cases e1'
    refine k _ _ _ M3.fin ⟨dx, li, st, _, by rw [upd_ne n1]; exact f1, by rw [upd_ne n2]; exact f2, upd_same, f4.mono (s1.trans s2), ?_⟩
    rw [List.map_append, List.map_map]
    exact (e5.mono (s1.trans s2)).append ha
/-! shorten -/
def sp_shorten (K : PySem.W.Frag) : Sp := fun vs H Q _ => ∃ (F R : Hp) (a : Addr) (l : List Int) (ss : List Sx) (n : Nat) (m : Lim), vs = [.ref a, .int (n : Int), m.v] ∧ Same F H ∧ Same R H ∧ Dj F R ∧ IsF K F R a l ss ∧ ss.length ≤ 100000 ∧
  ((m = .at_ 0 → ∀ F' H' R', Go F H R F' H' R' → IsF K F' R' a l ss → Q (.int 0) H') ∧ (m ≠ .at_ 0 → ∀ F' H' R', Go F H R F' H' R' → IsF K F' R' a l (ss ++ [.tru n]) → Q (.int 1) H'))
theorem lim0 {m : Lim} {H : Hp} {Q : VK} (h1 : m = .at_ 0 → Q (.bl true) H) (h2 : m ≠ .at_ 0 → Q (.bl false) H) : rEq m.v (.int 0) H Q := by
  cases m with
  | no => exact ⟨rfl, by rw [decide_eq_false (fun z => nomatch z)]; exact h2 (fun z => nomatch z)⟩
  | at_ n =>
    refine s_eqI ?_
    by_cases h : n = 0
    · subst h
      rw [decide_eq_true (show ((0 : Nat) : Int) = 0 from rfl)]
      exact h1 rfl
    · rw [decide_eq_false (by omega)]
      exact h2 (fun z => h (by injection z))
theorem IsF.steps {F F' R : Hp} {a : Addr} {l : List Int} {ss ss' : List Sx} (h : IsF K F R a l ss) (s : Same F F') {dx li st : Addr} {sv' : List V} (e1 : R a = some (.ins (CF K) dx [("_lasting", .ref li), ("_steps", .ref st)])) (h5 : DaA F' sv' (ss'.map encS)) : IsF K F' (upd R st (.lst sv')) a l ss' := by
  obtain ⟨dx', li', st', sv, f1, f2, f3, f4, f5⟩ := h
  rw [f1] at e1
  cases e1
  have n1 : a ≠ st := ne_of f1 f3 (by intro q; cases q)
  have n2 : dx ≠ st := ne_of f2 f3 (by intro q; cases q)
  exact ⟨dx, li, st, _, by rw [upd_ne n1]; exact f1, by rw [upd_ne n2]; exact f2, upd_same, f4.mono s, h5⟩
theorem IsF.fldR {F R H : Hp} {a : Addr} {l : List Int} {ss : List Sx} (h : IsF K F R a l ss) (s : Same R H) : ∃ (dx li st : Addr) (sv : List V), R a = some (.ins (CF K) dx [("_lasting", .ref li), ("_steps", .ref st)]) ∧ H a = some (.ins (CF K) dx [("_lasting", .ref li), ("_steps", .ref st)]) ∧ R dx = some (.own a) ∧ Da F (.ref li) (.list (l.map PyData.int)) ∧ R st = some (.lst sv) ∧ H st = some (.lst sv) ∧ DaA F sv (ss.map encS) := by
  obtain ⟨dx, li, st, sv, h1, h2, h3, h4, h5⟩ := h
  exact ⟨dx, li, st, sv, h1, s _ _ h1, h2, h4, h3, s _ _ h3, h5⟩
theorem ok_File_shorten (T : Tx K mg) : FnM P w K mg base CX0 (CF K) "shorten" 1 ["self", "size", "steps"] (sp_shorten K) := by
  refine fnM T.m_File_shorten sc_File_shorten bd_File_shorten (fun vs H Q E h => ?_) (fun f cdv A outer s H vs Q E hr h => ?_)
  · obtain ⟨F, R, a, l, ss, n, m, rfl, _⟩ := h
    rfl
  obtain ⟨F, R, a, l, ss, n, m, rfl, hF, hR, hd, hf, hz, k0, k1⟩ := h
  have M := Mem.start hF hR hd
  refine ⟨_, (pss_cons (ps_if (pt_cmpR op_eq (pv 2) pe_int (nomark _))
  (pss_one (ps_ret pe_int))
  pss_nil)
  (pss_cons (ps_expr (pe_bm PySem.F.plainAttrs_list PySem.F.slot_list_append PySem.F.type_list_append c_append (pe_fld (pv 0) rfl) (pa_cons (pe_tup (pa_cons pe_str (pa_cons (pv 1) pa_nil))) pa_nil)))
  (pss_one (ps_ret pe_int)))), ?_⟩
  (tm_at "dl go")
  refine lim0 (fun hm => ?_) (fun hm => ?_)
  · (tm_at "dl go")
    exact k0 hm _ _ _ M.fin hf
  · (tm_at "dl go")
    obtain ⟨dx, li, st, sv, e0, e1, ed, e2, e3, e4, e5⟩ := hf.fldR hR
    refine s_fd e1 T.cl_File T.na_File__steps (get_s _ _) ?_
    refine s_tyL e4 ?_
    (tm_at "dl go")
    refine m_tup M (.cons (.str "truncate") (.cons (.int (n : Int)) .nil)) (Nat.le_of_lt (small1000 (by simp only [List.length_cons, List.length_nil]; decide))) fun t F1 H1 M1 s1 ht => ?_
    have l1 := e5.length
    rw [List.length_map] at l1
    (tm_at "dl go")
    refine s_append (M1.oh0 _ _ e3) (Nat.lt_of_le_of_lt (show sv.length ≤ 100000 by omega) (by decide)) ?_
    have M2 := M1.write (p := st) (o := .lst (sv ++ [.ref t])) (ns e3)
    (tm_at "dl go")
    refine k1 hm _ _ _ M2.fin (hf.steps s1 e0 ?_)
    rw [List.map_append]
    exact (e5.mono s1).snoc ht
/-! content, pending -/
def sp_content (K : PySem.W.Frag) : Sp := fun vs H Q _ => ∃ (F R : Hp) (a : Addr) (l : List Int) (ss : List Sx), vs = [.ref a] ∧ Same F H ∧ Same R H ∧ Dj F R ∧ IsF K F R a l ss ∧ l.length + ss.length ≤ 1000000 ∧
  ∀ p F' H', Go F H R F' H' (un R (cell p (.lst ((apl l ss).map V.int)))) → Dj R (cell p (.lst ((apl l ss).map V.int))) → Q (.ref p) H'
theorem ok_File_content (T : Tx K mg) : FnM P w K mg base CX0 (CF K) "content" 3 ["self"] (sp_content K) := by
  refine fnM T.m_File_content sc_File_content bd_File_content (fun vs H Q E h => ?_) (fun f cdv A outer s H vs Q E hr h => ?_)
  · obtain ⟨F, R, a, l, ss, rfl, _⟩ := h
    rfl
  obtain ⟨F, R, a, l, ss, rfl, hF, hR, hd, hf, hz, k⟩ := h
  obtain ⟨dx, li, st, sv, e0, e1, ed, e2, e3, e4, e5⟩ := hf.fldR hR
  refine ⟨_, (pss_one (ps_ret (pe_fn (ok__applied T) (hr.mono (by first | decide | omega)) rfl pass0 (pa_cons (pe_fld (pv 0) rfl) (pa_cons (pe_fld (pv 0) rfl) pa_nil))))), ?_⟩
  (tm_at "dl go")
  refine s_fd e1 T.cl_File T.na_File__lasting (get_l _ _) ?_
  (tm_at "dl go")
  refine s_fd e1 T.cl_File T.na_File__steps (get_s _ _) ?_
  (tm_at "dl go")
  exact ⟨F, .ref li, st, l, ss, sv, rfl, hF, e2, e4, e5, hz, fun p F' H' g => k p F' H' (g.lendO hR hd).1 (g.lendO hR hd).2⟩
def sp_pending (K : PySem.W.Frag) : Sp := fun vs H Q _ => ∃ (F R : Hp) (a : Addr) (l : List Int) (ss : List Sx), vs = [.ref a] ∧ Same F H ∧ Same R H ∧ Dj F R ∧ IsF K F R a l ss ∧ Q (.int (ss.length : Int)) H
theorem ok_File_pending (T : Tx K mg) : FnM P w K mg base CX0 (CF K) "pending" 1 ["self"] (sp_pending K) := by
  refine fnM T.m_File_pending sc_File_pending bd_File_pending (fun vs H Q E h => ?_) (fun f cdv A outer s H vs Q E hr h => ?_)
  · obtain ⟨F, R, a, l, ss, rfl, _⟩ := h
    rfl
  obtain ⟨F, R, a, l, ss, rfl, hF, hR, hd, hf, k⟩ := h
  obtain ⟨dx, li, st, sv, e0, e1, ed, e2, e3, e4, e5⟩ := hf.fldR hR
  refine ⟨_, (pss_one (ps_ret (pe_callB c_lenQ (by rfl) T.b_len DL.bt_len (pa_cons (pe_fld (pv 0) rfl) pa_nil)))), ?_⟩
  (tm_at "dl go")
  refine s_fd e1 T.cl_File T.na_File__steps (get_s _ _) ?_
  refine s_lenQ (SqL.of e4) ?_
  have l1 := e5.length
  rw [List.length_map] at l1
  rw [l1]
  exact k
/-! lose, flush -/
def sp_lose (K : PySem.W.Frag) : Sp := fun vs H Q _ => ∃ (F R : Hp) (a : Addr) (l : List Int) (ss : List Sx) (n : Nat), vs = [.ref a, .int (n : Int)] ∧ Same F H ∧ Same R H ∧ Dj F R ∧ IsF K F R a l ss ∧ l.length + ss.length ≤ 1000000 ∧
  ∀ F' H' R', Go F H R F' H' R' → IsF K F' R' a (apl l (ss.take n)) [] → Q .non H'
theorem ok_File_lose (T : Tx K mg) : FnM P w K mg base CX0 (CF K) "lose" 3 ["self", "steps"] (sp_lose K) := by
  refine fnM T.m_File_lose sc_File_lose bd_File_lose (fun vs H Q E h => ?_) (fun f cdv A outer s H vs Q E hr h => ?_)
  · obtain ⟨F, R, a, l, ss, n, rfl, _⟩ := h
    rfl
  obtain ⟨F, R, a, l, ss, n, rfl, hF, hR, hd, hf, hz, k⟩ := h
  obtain ⟨dx, li, st, sv, e0, e1, ed, e2, e3, e4, e5⟩ := hf.fldR hR
  have M := Mem.start hF hR hd
  refine ⟨_, (pss_cons (ps_fld (pv 0) (pe_fn (ok__applied T) (hr.mono (by first | decide | omega)) rfl pass0 (pa_cons (pe_fld (pv 0) rfl) (pa_cons (pe_slice sl_list (pe_fld (pv 0) rfl) po_none (po_some (pv 1))) pa_nil))) rfl)
  (pss_one (ps_fld (pv 0) (pe_lst pa_nil) rfl))), ?_⟩
  (tm_at "dl go")
  refine s_fd e1 T.cl_File T.na_File__lasting (get_l _ _) ?_
  (tm_at "dl go")
  refine s_fd e1 T.cl_File T.na_File__steps (get_s _ _) ?_
  (tm_at "dl go")
  refine s_slQ (SqL.of e4) ?_
  have ecut : DaA F (cutV sv Option.none (some (n : Int))) ((ss.take n).map encS) := by
    have q := e5.cut Option.none (some (n : Int))
    rw [cutA_to, ← List.map_take] at q
    exact q
  refine m_lst M fun q H1 M1 => ?_
  (tm_at "dl go")
  refine ⟨F, .ref li, q, l, ss.take n, _, rfl, M1.fh, e2, M1.at0, ecut, by rw [List.length_take]; omega, fun lv F1' H2 g => ?_⟩
  obtain ⟨F2, M2', s2, d2⟩ := (M1.goO g).data (DaA.ints (ns := apl l (ss.take n)))
  have M2 := M2'.drop
  (tm_at "dl go")
  refine s_sf (M2.oh0 _ _ e0) T.cl_File T.na_File__lasting (by show 2 < 1000; decide) ?_
  have M3 := M2.write (p := a) (o := .ins (CF K) dx (putF "_lasting" (.ref lv) [("_lasting", .ref li), ("_steps", .ref st)])) (ns e0)
  rw [put_l] at M3 ⊢
  (tm_at "dl go")
  refine m_lz (Nat.zero_le _) ?_
  refine m_lst M3 fun z H4 M4 => ?_
  (tm_at "dl go")
  refine s_sf (M4.oh1 _ _ upd_same) T.cl_File T.na_File__steps (by show 2 < 1000; decide) ?_
  have M5 := (M4.swap.write (p := a) (o := .ins (CF K) dx (putF "_steps" (.ref z) [("_lasting", .ref lv), ("_steps", .ref st)])) (by rw [upd_same]; intro q; cases q)).join
  rw [put_s] at M5 ⊢
  have nd : dx ≠ a := ne_of ed e0 (by intro q; cases q)
  have dj : Dj (upd (upd R a (.ins (CF K) dx [("_lasting", .ref lv), ("_steps", .ref st)])) a (.ins (CF K) dx [("_lasting", .ref lv), ("_steps", .ref z)])) (cell z (.lst [])) := by
    have := (M4.swap.write (p := a) (o := .ins (CF K) dx (putF "_steps" (.ref z) [("_lasting", .ref lv), ("_steps", .ref st)])) (by rw [upd_same]; intro q; cases q)).dj01
    rw [put_s] at this
    exact this
  exact k _ _ _ M5.fin ⟨dx, lv, z, [], un_left upd_same, un_left (by rw [upd_ne nd, upd_ne nd]; exact ed), un_right dj cell_same, d2, .nil⟩
def sp_flush (K : PySem.W.Frag) : Sp := fun vs H Q _ => ∃ (F R : Hp) (a : Addr) (l : List Int) (ss : List Sx) (m : Lim), vs = [.ref a, m.v] ∧ Same F H ∧ Same R H ∧ Dj F R ∧ IsF K F R a l ss ∧ l.length + ss.length ≤ 1000000 ∧
  ((m = .at_ 0 → ∀ F' H' R', Go F H R F' H' R' → IsF K F' R' a l ss → Q (.int 0) H') ∧ (m ≠ .at_ 0 → ∀ F' H' R', Go F H R F' H' R' → IsF K F' R' a (apl l ss) [] → Q (.int 1) H'))
theorem ok_File_flush (T : Tx K mg) : FnM P w K mg base CX0 (CF K) "flush" 5 ["self", "steps"] (sp_flush K) := by
  refine fnM T.m_File_flush sc_File_flush bd_File_flush (fun vs H Q E h => ?_) (fun f cdv A outer s H vs Q E hr h => ?_)
  · obtain ⟨F, R, a, l, ss, m, rfl, _⟩ := h
    rfl
  obtain ⟨F, R, a, l, ss, m, rfl, hF, hR, hd, hf, hz, k0, k1⟩ := h
  have M := Mem.start hF hR hd
  refine ⟨_, (pss_cons (ps_if (pt_cmpR op_eq (pv 1) pe_int (nomark _))
  (pss_one (ps_ret pe_int))
  pss_nil)
  (pss_cons (ps_expr (pe_m (ok_File_lose T) (pv 0) T.cl_File (hr.mono (by first | decide | omega)) pass0 (pa_cons (pe_callB c_lenQ (by rfl) T.b_len DL.bt_len (pa_cons (pe_fld (pv 0) rfl) pa_nil)) pa_nil)))
  (pss_one (ps_ret pe_int)))), ?_⟩
  (tm_at "dl go")
  refine lim0 (fun hm => ?_) (fun hm => ?_)
  · (tm_at "dl go")
    exact k0 hm _ _ _ M.fin hf
  · (tm_at "dl go")
    obtain ⟨dx, li, st, sv, e0, e1, ed, e2, e3, e4, e5⟩ := hf.fldR hR
    refine s_mt e1 (get_no (by decide +kernel) (by decide +kernel) _ _) ?_
    (tm_at "dl go")
    refine s_fd e1 T.cl_File T.na_File__steps (get_s _ _) ?_
    (tm_at "dl go")
    refine s_lenQ (SqL.of e4) ?_
    have l1 := e5.length
    rw [List.length_map] at l1
    rw [l1]
    (tm_at "dl go")
    refine ⟨F, R, a, l, ss, ss.length, rfl, hF, hR, hd, hf, hz, fun F' H' R' g h => ?_⟩
    (tm_at "dl go")
    rw [List.take_length] at h
    exact k1 hm _ _ _ g h
end
end K10

namespace K10
open PySem PySem.Spec PyProof.Rows L2 DL
local macro_rules | `(tactic| tm_at "dl hp") => `(tactic| (first | assumption | exact Mem.at0 (by assumption) | exact Mem.at1 (by assumption) | exact Mem.at2 (by assumption) | exact Mem.at3 (by assumption)))
local macro_rules | `(tactic| tm_at "dl ch") => `(tactic| (repeat (first | exact L2.Same.refl _ | assumption | refine L2.Same.trans ?_ (by assumption))))
local macro_rules | `(tactic| tm_at "dl da") => `(tactic| (first | assumption | (refine Da.mono ?_ (by assumption); (repeat (first | exact L2.Same.refl _ | assumption | refine L2.Same.trans ?_ (by assumption))))))
local macro_rules | `(tactic| tm_at "dl st") => `(tactic| (first | ((with_reducible show tVar _ _ _ _); refine s_var (by rfl) ?_) | with_reducible refine s_seq ?_ | with_reducible refine s_asg ?_ | with_reducible refine s_op ?_ | with_reducible refine s_un ?_ | with_reducible refine s_c ?_ | with_reducible refine s_call ?_ | with_reducible refine s_cons ?_ | with_reducible refine s_nil ?_ | with_reducible refine s_CB ?_ | with_reducible refine s_test ?_ | with_reducible refine s_tB ?_ | with_reducible refine s_tq ?_ | with_reducible refine s_if ?_ | with_reducible refine s_drop ?_ | with_reducible refine s_ret ?_ | with_reducible refine s_retN ?_ | with_reducible refine s_next ?_ | with_reducible refine s_brk ?_ | with_reducible refine s_cont ?_ | with_reducible refine s_name ?_ | with_reducible refine s_I0 ?_ | with_reducible refine s_U ?_ | with_reducible refine s_eqI ?_ | with_reducible refine s_eqS ?_ | with_reducible refine s_eqB ?_ | with_reducible refine s_neI ?_ | with_reducible refine s_neS ?_ | with_reducible refine s_neB ?_ | with_reducible refine s_isN0 ?_ | with_reducible refine s_isNI ?_ | with_reducible refine s_isNS ?_ | with_reducible refine s_isNR ?_ | with_reducible refine s_isNB ?_ | with_reducible refine s_notN0 ?_ | with_reducible refine s_notNI ?_ | with_reducible refine s_notNS ?_ | with_reducible refine s_notNR ?_ | with_reducible refine iteNT ?_ | with_reducible refine iteNF ?_ | with_reducible refine s_not ?_ | with_reducible refine s_and ?_ | with_reducible refine s_or ?_ | with_reducible refine s_ifE ?_ | with_reducible refine s_andV ?_ | with_reducible refine s_orV ?_ | with_reducible refine s_notV ?_ | with_reducible refine s_tup ?_ | with_reducible refine s_lst ?_ | with_reducible refine s_sub ?_ | with_reducible refine s_gCons ?_ | with_reducible refine s_gNil ?_ | with_reducible refine s_ipI ?_ | with_reducible refine s_for ?_ | with_reducible refine s_lc ?_ | with_reducible refine s_yes ?_ | with_reducible refine s_iList ?_ | with_reducible refine s_iTup ?_ | with_reducible refine s_iRng1 ?_ | with_reducible refine s_iRng2 ?_ | with_reducible refine s_iZip ?_ | with_reducible refine s_iEnum ?_ | with_reducible refine s_iStr ?_ | with_reducible refine s_st ?_ | with_reducible refine iteT ?_ | with_reducible refine iteF ?_ | with_reducible refine s_BM ?_ | with_reducible refine s_tyS ?_ | with_reducible refine s_int ?_ | with_reducible refine s_intB ?_ | with_reducible refine s_min ?_ | with_reducible refine s_max ?_ | with_reducible refine s_sl ?_ | with_reducible refine s_noP ?_ | with_reducible refine s_meth ?_ | with_reducible refine s_fld ?_ | with_reducible refine s_sfld ?_ | with_reducible refine s_make ?_ | with_reducible refine s_part ?_ | with_reducible refine s_pt ?_ | with_reducible refine s_augS ?_ | ((with_reducible show tAug _ _ _ _ _ _); refine s_aug (by rfl) ?_) | ((with_reducible show rI _ _ _ _ _ _); refine s_I (by first | (show (0 : Int) < _; decide) | (exact ⟨by decide, by decide⟩) | (exact .inr ⟨by decide, by decide⟩) | (exact .inl ⟨by decide, by decide⟩) | (exact ⟨by decide, by decide, by decide⟩)) ?_) | ((with_reducible show rIsi _ _ _ _); first | refine m_isi (by assumption) (by assumption) (r := true) (by dsimp only [tyD]; decide +kernel) ?_ | refine m_isi (by assumption) (by assumption) (r := false) (by dsimp only [tyD]; decide +kernel) ?_) | ((with_reducible show tyV _ _ _ _ ∧ _); refine s_tyL (by (first | assumption | exact Mem.at0 (by assumption) | exact Mem.at1 (by assumption) | exact Mem.at2 (by assumption) | exact Mem.at3 (by assumption))) ?_) | ((with_reducible show rIxL _ _ _ _ _); refine s_ixL (by (first | assumption | exact Mem.at0 (by assumption) | exact Mem.at1 (by assumption) | exact Mem.at2 (by assumption) | exact Mem.at3 (by assumption))) (by rfl) ?_)))
local macro_rules | `(tactic| tm_at "dl go") => `(tactic| (repeat (first | ((with_reducible show tVar _ _ _ _); refine s_var (by rfl) ?_) | with_reducible refine s_seq ?_ | with_reducible refine s_asg ?_ | with_reducible refine s_op ?_ | with_reducible refine s_un ?_ | with_reducible refine s_c ?_ | with_reducible refine s_call ?_ | with_reducible refine s_cons ?_ | with_reducible refine s_nil ?_ | with_reducible refine s_CB ?_ | with_reducible refine s_test ?_ | with_reducible refine s_tB ?_ | with_reducible refine s_tq ?_ | with_reducible refine s_if ?_ | with_reducible refine s_drop ?_ | with_reducible refine s_ret ?_ | with_reducible refine s_retN ?_ | with_reducible refine s_next ?_ | with_reducible refine s_brk ?_ | with_reducible refine s_cont ?_ | with_reducible refine s_name ?_ | with_reducible refine s_I0 ?_ | with_reducible refine s_U ?_ | with_reducible refine s_eqI ?_ | with_reducible refine s_eqS ?_ | with_reducible refine s_eqB ?_ | with_reducible refine s_neI ?_ | with_reducible refine s_neS ?_ | with_reducible refine s_neB ?_ | with_reducible refine s_isN0 ?_ | with_reducible refine s_isNI ?_ | with_reducible refine s_isNS ?_ | with_reducible refine s_isNR ?_ | with_reducible refine s_isNB ?_ | with_reducible refine s_notN0 ?_ | with_reducible refine s_notNI ?_ | with_reducible refine s_notNS ?_ | with_reducible refine s_notNR ?_ | with_reducible refine iteNT ?_ | with_reducible refine iteNF ?_ | with_reducible refine s_not ?_ | with_reducible refine s_and ?_ | with_reducible refine s_or ?_ | with_reducible refine s_ifE ?_ | with_reducible refine s_andV ?_ | with_reducible refine s_orV ?_ | with_reducible refine s_notV ?_ | with_reducible refine s_tup ?_ | with_reducible refine s_lst ?_ | with_reducible refine s_sub ?_ | with_reducible refine s_gCons ?_ | with_reducible refine s_gNil ?_ | with_reducible refine s_ipI ?_ | with_reducible refine s_for ?_ | with_reducible refine s_lc ?_ | with_reducible refine s_yes ?_ | with_reducible refine s_iList ?_ | with_reducible refine s_iTup ?_ | with_reducible refine s_iRng1 ?_ | with_reducible refine s_iRng2 ?_ | with_reducible refine s_iZip ?_ | with_reducible refine s_iEnum ?_ | with_reducible refine s_iStr ?_ | with_reducible refine s_st ?_ | with_reducible refine iteT ?_ | with_reducible refine iteF ?_ | with_reducible refine s_BM ?_ | with_reducible refine s_tyS ?_ | with_reducible refine s_int ?_ | with_reducible refine s_intB ?_ | with_reducible refine s_min ?_ | with_reducible refine s_max ?_ | with_reducible refine s_sl ?_ | with_reducible refine s_noP ?_ | with_reducible refine s_meth ?_ | with_reducible refine s_fld ?_ | with_reducible refine s_sfld ?_ | with_reducible refine s_make ?_ | with_reducible refine s_part ?_ | with_reducible refine s_pt ?_ | with_reducible refine s_augS ?_ | ((with_reducible show tAug _ _ _ _ _ _); refine s_aug (by rfl) ?_) | ((with_reducible show rI _ _ _ _ _ _); refine s_I (by first | (show (0 : Int) < _; decide) | (exact ⟨by decide, by decide⟩) | (exact .inr ⟨by decide, by decide⟩) | (exact .inl ⟨by decide, by decide⟩) | (exact ⟨by decide, by decide, by decide⟩)) ?_) | ((with_reducible show rIsi _ _ _ _); first | refine m_isi (by assumption) (by assumption) (r := true) (by dsimp only [tyD]; decide +kernel) ?_ | refine m_isi (by assumption) (by assumption) (r := false) (by dsimp only [tyD]; decide +kernel) ?_) | ((with_reducible show tyV _ _ _ _ ∧ _); refine s_tyL (by (first | assumption | exact Mem.at0 (by assumption) | exact Mem.at1 (by assumption) | exact Mem.at2 (by assumption) | exact Mem.at3 (by assumption))) ?_) | ((with_reducible show rIxL _ _ _ _ _); refine s_ixL (by (first | assumption | exact Mem.at0 (by assumption) | exact Mem.at1 (by assumption) | exact Mem.at2 (by assumption) | exact Mem.at3 (by assumption))) (by rfl) ?_))))

section
variable {P : Program} {w : World} {K : PySem.W.Frag} {mg : Str → Option Value} {base : Heap}
/-! the law's own account -/
def encL : Sx → PyData
  | .app b => .tuple [.int 0, .int b]
  | .tru n => .tuple [.int 1, .int (n : Int)]
def sp__law_after : Sp := fun vs H Q _ => ∃ (F : Hp) (x y : V) (l : List Int) (ss : List Sx), vs = [x, y] ∧ Same F H ∧ Da F x (.list (l.map PyData.int)) ∧ Da F y (.list (ss.map encL)) ∧ l.length + ss.length ≤ 1000000 ∧
  ∀ v F' H', Go F H emp F' H' emp → Da F' v (.list ((apl l ss).map PyData.int)) → Q v H'
theorem ok__law_after (T : Tx K mg) : FnE P w K mg base CX0 "_law_after" 1 ["data", "steps"] sp__law_after := by
  refine fnE T.d__law_after sc__law_after bd__law_after (fun vs H Q E h => ?_) (fun f cdv A outer s H vs Q E hr h => ?_)
  · obtain ⟨F, x, y, l, ss, rfl, _⟩ := h
    rfl
  obtain ⟨F, x, y, l, ss, rfl, hF, hx, hy, hz, k⟩ := h
  have M := Mem.start0 hF
  refine ⟨_, (pss_cons (ps_set (i := 0) sc__law_after.nd rfl (Or.inl rfl) (pe_callTy c_list (by rfl) T.b_list DL.bt_list (pa_cons (pv 0) pa_nil)))
  (pss_cons (ps_for PassesOwn.never rfl (pi_list (pv 1)) (pg_tup rfl (pgs_cons (pg_name (i := 2) sc__law_after.nd rfl (Or.inl rfl)) (pgs_cons (pg_name (i := 3) sc__law_after.nd rfl (Or.inl rfl)) pgs_nil)))
  (pss_one (ps_if (pt_cmpR op_eq (pv 2) pe_int (nomark _))
  (pss_one (ps_expr (pe_bm PySem.F.plainAttrs_list PySem.F.slot_list_append PySem.F.type_list_append c_append (pv 0) (pa_cons (pv 3) pa_nil))))
  (pss_one (ps_set (i := 0) sc__law_after.nd rfl (Or.inl rfl) (pe_slice sl_list (pv 0) po_none (po_some (pv 3))))))))
  (pss_one (ps_ret (pv 0))))), ?_⟩
  (tm_at "dl go")
  refine m_listO M hx fun r vs H1 M1 ha => ?_
  obtain rfl := ha.ints_inv
  (tm_at "dl go")
  refine m_forL M1 hy (fun i σ F' own => ∃ (r : Addr) (u v : Option V), σ = [some (.ref r), some y, u, v] ∧ own = [cell r (.lst ((apl l (ss.take i)).map V.int))])
    ⟨r, _, _, rfl, rfl⟩ ?_ ?_
  · rintro i d v σ F2 H2 own ed s2 M2 dv ⟨r, u, w, rfl, rfl⟩
    rw [List.getElem?_map] at ed
    cases es : ss[i]? with
    | none => rw [es] at ed; cases ed
    | some st =>
    rw [es] at ed
    obtain rfl := Option.some.inj ed
    have hi : i < ss.length := (List.getElem?_eq_some_iff.mp es).1
    have hal := apl_len (ss.take i) l
    rw [List.length_take] at hal
    cases st with
    | app b =>
      refine m_tupG2 M2 dv fun a c ha hc => ?_
      obtain rfl := ha.of_int
      obtain rfl := hc.of_int
      (tm_at "dl go")
      rw [decide_eq_true rfl]
      (tm_at "dl go")
      refine m_app0 M2 (Nat.lt_of_le_of_lt (show _ ≤ 1000000 by rw [List.length_map]; omega) (by decide)) fun H3 M3 => ?_
      (tm_at "dl go")
      refine Nx.mk s2 M3 ⟨r, _, _, rfl, ?_⟩
      rw [take_snoc es, apl_snoc]
      simp [one]
    | tru n =>
      refine m_tupG2 M2 dv fun a c ha hc => ?_
      obtain rfl := ha.of_int
      obtain rfl := hc.of_int
      (tm_at "dl go")
      rw [decide_eq_false (show ¬ (1 : Int) = 0 by decide)]
      (tm_at "dl go")
      refine s_slQ (SqL.of M2.at0) (m_lst M2 fun r' H3 M3 => ?_)
      (tm_at "dl go")
      refine Nx.mk s2 M3.drop1 ⟨r', _, _, rfl, ?_⟩
      have e : cutV ((apl l (ss.take i)).map V.int) Option.none (some (n : Int)) = (one (apl l (ss.take i)) (.tru n)).map V.int := by
        show cutA ((apl l (ss.take i)).map V.int) Option.none (some (n : Int)) = _
        rw [cutA_to]
        simp [one]
      rw [take_snoc es, apl_snoc, e]
  · rintro σ F2 H2 own s2 M2 ⟨r, u, w, rfl, rfl⟩
    (tm_at "dl go")
    obtain ⟨F3, M3, s3, d3⟩ := M2.data (ds := (apl l ss).map PyData.int) (by
      rw [List.take_of_length_le (by simp)]
      exact DaA.ints)
    exact k _ _ _ M3.fin0 d3
theorem fit_ints {n : Nat} {l : List Int} (h : l.length ≤ 1000000000) : Fit (n + 1) (.list (l.map PyData.int)) :=
  ⟨by rw [List.length_map]; exact h, fun d hd => (by obtain ⟨i, _, rfl⟩ := List.mem_map.mp hd; cases n <;> trivial)⟩
/-! calls of a file's methods, by place -/
section
variable {F0 H0 B F H R A C S : Hp} {own : List Hp} {a : Addr} {l : List Int} {ss : List Sx} {n : Nat} {Q : VK} {E : XK}
theorem after_call {x y : V} (M : Mem F0 H0 B F H own) (hx : Da F x (.list (l.map PyData.int))) (hy : Da F y (.list (ss.map encL))) (hz : l.length + ss.length ≤ 1000000) (q : ∀ v F' H', Mem F0 H0 B F' H' own → Same F F' → Da F' v (.list ((apl l ss).map PyData.int)) → Q v H') : sp__law_after [x, y] H Q E :=
  ⟨F, x, y, l, ss, rfl, M.fh, hx, hy, hz, fun v F' H' g d => q v F' H' (M.go0 g) g.ff d⟩
theorem content0 (M : Mem F0 H0 B F H (R :: own)) (hf : IsF K F R a l ss) (hz : l.length + ss.length ≤ 1000000) (q : ∀ p F' H', Mem F0 H0 B F' H' (cell p (.lst ((apl l ss).map V.int)) :: R :: own) → Same F F' → Q (.ref p) H') : sp_content K [.ref a] H Q E :=
  ⟨F, R, a, l, ss, rfl, M.fh, M.oh0, M.fo0, hf, hz, fun v F' H' g d => q v F' H' (M.goR g d) g.ff⟩
theorem content2 (M : Mem F0 H0 B F H (A :: C :: R :: own)) (hf : IsF K F R a l ss) (hz : l.length + ss.length ≤ 1000000) (q : ∀ p F' H', Mem F0 H0 B F' H' (cell p (.lst ((apl l ss).map V.int)) :: A :: C :: R :: own) → Same F F' → Q (.ref p) H') : sp_content K [.ref a] H Q E :=
  ⟨F, R, a, l, ss, rfl, M.fh, M.oh2, M.fo2, hf, hz, fun v F' H' g d => q v F' H' (M.goR2 g d) g.ff⟩
theorem content3 (M : Mem F0 H0 B F H (A :: C :: S :: R :: own)) (hf : IsF K F R a l ss) (hz : l.length + ss.length ≤ 1000000) (q : ∀ p F' H', Mem F0 H0 B F' H' (cell p (.lst ((apl l ss).map V.int)) :: A :: C :: S :: R :: own) → Same F F' → Q (.ref p) H') : sp_content K [.ref a] H Q E :=
  ⟨F, R, a, l, ss, rfl, M.fh, M.oh3, M.fo3, hf, hz, fun v F' H' g d => q v F' H' (M.goR3 g d) g.ff⟩
theorem pending_call (s : Same F H) (r : Same R H) (d : Dj F R) (hf : IsF K F R a l ss) (q : Q (.int (ss.length : Int)) H) : sp_pending K [.ref a] H Q E := ⟨F, R, a, l, ss, rfl, s, r, d, hf, q⟩
end
/-! _law_deed -/
def sp__law_deed (K : PySem.W.Frag) : Sp := fun vs H Q _ => ∃ (F R S : Hp) (p a : Addr) (x y : V) (l : List Int) (ss : List Sx), vs = [.ref p, .ref a, x, y] ∧ Same F H ∧ Same R H ∧ Same S H ∧ Dj F R ∧ Dj F S ∧ Dj S R ∧ IsSt F R p ∧ IsF K F S a l ss ∧ Da F x (.list (l.map PyData.int)) ∧ Da F y (.list (ss.map encL)) ∧ l.length + ss.length ≤ 10000 ∧
  ∀ v F' H' R' S' l' ss', Go F H (un S R) F' H' (un S' R') → Dj S' R' → IsSt F' R' p → IsF K F' S' a l' ss' → Da F' v (.list [.bool true, .list (l'.map PyData.int), .list (ss'.map encL)]) → l'.length + ss'.length ≤ l.length + ss.length + 60 → Q v H'
theorem ok__law_deed (T : Tx K mg) : FnE P w K mg base CX0 "_law_deed" 41 ["state", "file", "lasting", "steps"] (sp__law_deed K) := by
  refine fnE T.d__law_deed sc__law_deed bd__law_deed (fun vs H Q E h => ?_) (fun f cdv A outer s H vs Q E hr h => ?_)
  · obtain ⟨F, R, S, p, a, x, y, l, ss, rfl, _⟩ := h
    rfl
  obtain ⟨F, R, S, p, a, x, y, l, ss, rfl, hF, hR, hS, hFR, hFS, hSR, hst, hf, hx, hy, hz, k⟩ := h
  have M := Mem.start2 hF hS hR hFS hFR hSR
  have kk : ∀ {F' H' R' S' : Hp} {l' : List Int} {ss' : List Sx} {x' y' : V}, Mem F H (un S R) F' H' [S', R'] → IsSt F' R' p → IsF K F' S' a l' ss' → Da F' x' (.list (l'.map PyData.int)) → Da F' y' (.list (ss'.map encL)) → l'.length + ss'.length ≤ l.length + ss.length + 60 → [V.bl true, x', y'].length ≤ sizeLine ∧ AlO H' (.lst [.bl true, x', y']) Q := by
    intro F' H' R' S' l' ss' x' y' m h1 h2 h3 h4 h5
    refine m_lz (by simp only [List.length_cons, List.length_nil]; decide) (m_lstF m (.cons (.bl true) (.cons h3 (.cons h4 .nil))) fun v F2 H2 m2 s2 d2 => ?_)
    exact k _ _ _ _ _ _ _ m2.join.fin m2.dj01 (h1.mono s2) (h2.mono s2) d2 h5
  refine ⟨_, (pss_cons (ps_set (i := 4) sc__law_deed.nd rfl (Or.inl rfl) (pe_fn (ok__law_next T) (hr.mono (by first | decide | omega)) rfl pass0 (pa_cons (pv 0) (pa_cons pe_int pa_nil))))
  (pss_cons (ps_set (i := 5) sc__law_deed.nd rfl (Or.inl rfl) pe_non)
  (pss_cons (ps_if (pt_cmpR op_eq (pe_fn (ok__law_next T) (hr.mono (by first | decide | omega)) rfl pass0 (pa_cons (pv 0) (pa_cons pe_int pa_nil))) pe_int (nomark _))
  (pss_one (ps_set (i := 5) sc__law_deed.nd rfl (Or.inl rfl) (pe_ix ix_list (pe_lst (pa_cons (pe_fn (ok__law_next T) (hr.mono (by first | decide | omega)) rfl pass0 (pa_cons (pv 0) (pa_cons pe_int pa_nil))) (pa_cons (pe_fn (ok__law_next T) (hr.mono (by first | decide | omega)) rfl pass0 (pa_cons (pv 0) (pa_cons pe_int pa_nil))) pa_nil))) (pe_fn (ok__law_next T) (hr.mono (by first | decide | omega)) rfl pass0 (pa_cons (pv 0) (pa_cons pe_int pa_nil))) (fun _ _ => rfl))))
  pss_nil)
  (pss_cons (ps_if (pt_cmpR op_lt (pv 4) pe_int (nomark _))
  (pss_cons (ps_setLc (i := 6) (own := [("k", 11)]) (g := gName 11) (by rfl) sc__law_deed.nd rfl rfl (sw_true rfl rfl rfl (by decide +kernel)) (pi_range1 rfl T.b_range (pa_cons (pe_op op_add (pe_fn (ok__law_next T) (hr.mono (by first | decide | omega)) rfl pass0 (pa_cons (pv 0) (pa_cons pe_int pa_nil))) (pe_op op_mul pe_int (pe_callTy c_intB (by rfl) T.b_int DL.bt_int (pa_cons (pe_cmpR op_eq (pe_fn (ok__law_next T) (hr.mono (by first | decide | omega)) rfl pass0 (pa_cons (pv 0) (pa_cons pe_int pa_nil))) pe_int (nomark _)) pa_nil)))) pa_nil)) (blkOk_by (own := [("k", 11)]) (N := n__law_deed) (sc := defScope s__law_deed) (by decide +kernel)) (fun _ _ _ _ _ => (pg_name (i := 11) sc__law_deed.nd rfl (Or.inl rfl))) (fun _ _ _ _ _ => pts_nil) (fun _ _ _ _ _ => (pe_fn (ok__law_next T) (hr.mono (by first | decide | omega)) rfl pass0 (pa_cons (pv 0) (pa_cons pe_int pa_nil)))))
  (pss_cons (ps_set (i := 7) sc__law_deed.nd rfl (Or.inl rfl) (pe_callB c_lenQ (by rfl) T.b_len DL.bt_len (pa_cons (pv 6) pa_nil)))
  (pss_cons (ps_if (pt_cmpR op_notN1 (pv 5) pe_non (nomark _))
  (pss_one (ps_set (i := 7) sc__law_deed.nd rfl (Or.inl rfl) (pe_callB (c_min2 rfl) (by rfl) T.b_min DL.bt_min (pa_cons (pv 7) (pa_cons (pv 5) pa_nil)))))
  pss_nil)
  (pss_cons (ps_set (i := 8) sc__law_deed.nd rfl (Or.inl rfl) (pe_callTy c_list (by rfl) T.b_list DL.bt_list (pa_cons (pv 6) pa_nil)))
  (pss_cons (ps_set (i := 9) sc__law_deed.nd rfl (Or.inl rfl) (pe_m (ok_File_write T) (pv 1) T.cl_File (hr.mono (by first | decide | omega)) pass0 (pa_cons (pv 8) (pa_cons (pv 5) pa_nil))))
  (pss_cons (ps_if (pt_cmpR (op_neD hr.units) (pv 8) (pv 6) (nomark _))
  (pss_one (ps_ret (pe_lst (pa_cons pe_bl (pa_cons (pv 2) (pa_cons (pv 3) pa_nil))))))
  pss_nil)
  (pss_cons (ps_expr (pe_bm PySem.F.plainAttrs_list PySem.F.slot_list_insert PySem.F.type_list_insert c_insert (pv 8) (pa_cons pe_int (pa_cons pe_int pa_nil))))
  (pss_cons (ps_expr (pe_bm PySem.F.plainAttrs_list PySem.F.slot_list_append PySem.F.type_list_append c_append (pv 8) (pa_cons pe_int pa_nil)))
  (pss_one (ps_ret (pe_lst (pa_cons (pe_fn (ok__law_same T 10) (hr.mono (by first | decide | omega)) rfl pass0 (pa_cons (pv 9) (pa_cons (pv 7) pa_nil))) (pa_cons (pv 2) (pa_cons (pe_op op_cat (pv 3) (pe_lc (own := [("byte", 12)]) (g := gName 12) rfl sc__law_deed.nd (pi_list (pe_slice sl_list (pv 6) po_none (po_some (pv 7)))) (blkOk_by (own := [("byte", 12)]) (N := n__law_deed) (sc := defScope s__law_deed) (by decide +kernel)) (fun _ _ _ _ _ => (pg_name (i := 12) sc__law_deed.nd rfl (Or.inl rfl))) (fun _ _ _ _ _ => pts_nil) (fun _ _ _ _ _ => (pe_tup (pa_cons pe_int (pa_cons (pv 12) pa_nil)))))) pa_nil))))))))))))))
  pss_nil)
  (pss_cons (ps_if (pt_cmpR op_lt (pv 4) pe_int (nomark _))
  (pss_cons (ps_set (i := 10) sc__law_deed.nd rfl (Or.inl rfl) (pe_fn (ok__law_next T) (hr.mono (by first | decide | omega)) rfl pass0 (pa_cons (pv 0) (pa_cons (pe_op op_add (pe_callB c_lenQ (by rfl) T.b_len DL.bt_len (pa_cons (pe_fn (ok__law_after T) (hr.mono (by first | decide | omega)) rfl pass0 (pa_cons (pv 2) (pa_cons (pv 3) pa_nil))) pa_nil)) pe_int) pa_nil))))
  (pss_cons (ps_set (i := 9) sc__law_deed.nd rfl (Or.inl rfl) (pe_m (ok_File_shorten T) (pv 1) T.cl_File (hr.mono (by first | decide | omega)) pass0 (pa_cons (pv 10) (pa_cons (pv 5) pa_nil))))
  (pss_cons (ps_if (pt_cmpR op_eq (pv 5) pe_int (nomark _))
  (pss_one (ps_ret (pe_lst (pa_cons (pe_fn (ok__law_same T 10) (hr.mono (by first | decide | omega)) rfl pass0 (pa_cons (pv 9) (pa_cons pe_int pa_nil))) (pa_cons (pv 2) (pa_cons (pv 3) pa_nil))))))
  pss_nil)
  (pss_one (ps_ret (pe_lst (pa_cons (pe_fn (ok__law_same T 10) (hr.mono (by first | decide | omega)) rfl pass0 (pa_cons (pv 9) (pa_cons pe_int pa_nil))) (pa_cons (pv 2) (pa_cons (pe_op op_cat (pv 3) (pe_lst (pa_cons (pe_tup (pa_cons pe_int (pa_cons (pv 10) pa_nil))) pa_nil))) pa_nil)))))))))
  pss_nil)
  (pss_cons (ps_if (pt_cmpR op_lt (pv 4) pe_int (nomark _))
  (pss_cons (ps_set (i := 9) sc__law_deed.nd rfl (Or.inl rfl) (pe_m (ok_File_flush T) (pv 1) T.cl_File (hr.mono (by first | decide | omega)) pass0 (pa_cons (pv 5) pa_nil)))
  (pss_cons (ps_if (pt_cmpR op_eq (pv 5) pe_int (nomark _))
  (pss_one (ps_ret (pe_lst (pa_cons (pe_fn (ok__law_same T 10) (hr.mono (by first | decide | omega)) rfl pass0 (pa_cons (pv 9) (pa_cons pe_int pa_nil))) (pa_cons (pv 2) (pa_cons (pv 3) pa_nil))))))
  pss_nil)
  (pss_one (ps_ret (pe_lst (pa_cons (pe_fn (ok__law_same T 10) (hr.mono (by first | decide | omega)) rfl pass0 (pa_cons (pv 9) (pa_cons pe_int pa_nil))) (pa_cons (pe_fn (ok__law_after T) (hr.mono (by first | decide | omega)) rfl pass0 (pa_cons (pv 2) (pa_cons (pv 3) pa_nil))) (pa_cons (pe_lst pa_nil) pa_nil))))))))
  pss_nil)
  (pss_cons (ps_set (i := 7) sc__law_deed.nd rfl (Or.inl rfl) (pe_fn (ok__law_next T) (hr.mono (by first | decide | omega)) rfl pass0 (pa_cons (pv 0) (pa_cons (pe_op op_add (pe_callB c_lenQ (by rfl) T.b_len DL.bt_len (pa_cons (pv 3) pa_nil)) pe_int) pa_nil))))
  (pss_cons (ps_expr (pe_m (ok_File_lose T) (pv 1) T.cl_File (hr.mono (by first | decide | omega)) pass0 (pa_cons (pv 7) pa_nil)))
  (pss_one (ps_ret (pe_lst (pa_cons pe_bl (pa_cons (pe_fn (ok__law_after T) (hr.mono (by first | decide | omega)) rfl pass0 (pa_cons (pv 2) (pa_cons (pe_slice sl_list (pv 3) po_none (po_some (pv 7))) pa_nil))) (pa_cons (pe_lst pa_nil) pa_nil)))))))))))))), ?_⟩
  (tm_at "dl go")
  refine next1 M hst (by decide) fun pick F1 H1 R1 M1 s1 hs1 p0 p1 => ?_
  refine s_name ?_
  refine s_seq (s_asg (s_c (s_name ?_)))
  -- the limit
  refine s_seq (s_join (fun σ' H' => ∃ (m : Lim) (F' R' : Hp), σ' = [some (.ref p), some (.ref a), some x, some y, some (.int pick), some m.v, none, none, none, none, none, none, none] ∧ Mem F H (un S R) F' H' [S, R'] ∧ Same F F' ∧ IsSt F' R' p ∧ (∀ n, m = .at_ n → n < 60)) (fun N hN => ?_) ?_)
  · (tm_at "dl go")
    refine next1 M1 hs1 (by decide) fun z F2 H2 R2 M2 s2 hs2 z0 z1 => ?_
    (tm_at "dl go")
    refine ite2 (fun h => ?_) (fun h => ?_)
    · (tm_at "dl go")
      refine next1 M2 hs2 (by decide) fun u F3 H3 R3 M3 s3 hs3 u0 u1 => ?_
      (tm_at "dl go")
      refine next1 M3 hs3 (by decide) fun t F4 H4 R4 M4 s4 hs4 t0 t1 => ?_
      (tm_at "dl go")
      refine m_lz (by simp only [List.length_cons, List.length_nil]; decide) ?_
      refine m_lstF M4 (.cons (.int u) (.cons (.int t) .nil)) fun q F5 H5 M5 s5 d5 => ?_
      (tm_at "dl go")
      refine next1 M5 (hs4.mono s5) (by decide) fun b F6 H6 R6 M6 s6 hs6 b0 b1 => ?_
      have hm : ∃ n : Int, atI [PyData.int u, .int t] b = some (.int n) ∧ 0 ≤ n ∧ n < 60 := by
        have : b = 0 ∨ b = 1 := by omega
        rcases this with rfl | rfl
        · exact ⟨u, rfl, u0, by omega⟩
        · exact ⟨t, rfl, t0, by omega⟩
      obtain ⟨n, en, n0, n1⟩ := hm
      refine m_ixL M6 (d5.mono s6) en fun v hv => ?_
      obtain rfl := hv.of_int
      (tm_at "dl go")
      refine hN _ _ ⟨.at_ n.toNat, F6, R6, ?_, M6, s1.trans (s2.trans (s3.trans (s4.trans (s5.trans s6)))), hs6, fun j e => by injection e; omega⟩
      have e : n = ((n.toNat : Nat) : Int) := by omega
      show _ = [some (V.ref p), some (.ref a), some x, some y, some (.int pick), some (.int ((n.toNat : Nat) : Int)), none, none, none, none, none, none, none]
      rw [← e]
      rfl
    · (tm_at "dl go")
      exact hN _ _ ⟨.no, F2, R2, rfl, M2, s1.trans s2, hs2, fun j e => by cases e⟩
  rintro σ' H' ⟨m, F2, R2, rfl, M2, s2, hs2, hm⟩
  have hx2 := hx.mono s2
  have hy2 := hy.mono s2
  have hf2 := hf.mono s2
  have lz : ss.length + l.length ≤ 10000 := by omega
  (tm_at "dl go")
  refine ite2 (fun h3 => ?_) (fun h3 => ?_)
  · -- write
    (tm_at "dl go")
    refine next1 M2 hs2 (by decide) fun u F3 H3 R3 M3 s3 hs3 u0 u1 => ?_
    (tm_at "dl go")
    refine next1 M3 hs3 (by decide) fun t F4 H4 R4 M4 s4 hs4 t0 t1 => ?_
    (tm_at "dl go")
    have hc : ∃ c : Int, (if decide (t = 0) = true then (1 : Int) else 0) = c ∧ 0 ≤ c ∧ c ≤ 1 := by
      by_cases h : t = 0
      · exact ⟨1, by rw [decide_eq_true h, if_pos rfl], by decide, by decide⟩
      · exact ⟨0, by rw [decide_eq_false h, if_neg (by decide)], by decide, by decide⟩
    obtain ⟨c, ec, c0, c1⟩ := hc
    rw [ec]
    refine s_r1 (by omega) (by omega) ?_
    refine m_lcR M4 (fun i acc F' own => ∃ (bs : List Int) (R' : Hp), own = [S, R'] ∧ IsSt F' R' p ∧ acc = bs.map V.int ∧ bs.length = i) ⟨[], R4, rfl, hs4, rfl, rfl⟩ ?_ ?_
    · rintro i acc D F5 H5 own hi s5 M5 ⟨bs, R5, rfl, hs5, rfl, hb⟩
      (tm_at "dl go")
      refine ⟨rfl, ?_⟩
      (tm_at "dl go")
      refine next2 M5 hs5 (by decide) fun z F6 H6 R6 M6 s6 hs6 z0 z1 => ?_
      refine LcE.mk (s5.trans s6) M6 (Nat.lt_of_le_of_lt (show _ ≤ 1000 by rw [List.length_map]; omega) (by decide)) ⟨bs ++ [z], R6, rfl, hs6, by rw [List.map_append]; rfl, by rw [List.length_append, hb]; rfl⟩
    rintro D acc F5 H5 own s5 M5 ⟨bs, R5, rfl, hs5, rfl, hb⟩
    have hbl : bs.length ≤ 60 := by omega
    obtain ⟨F6, M6, s6, d6⟩ := M5.data (ds := bs.map PyData.int) DaA.ints
    have s26 := s3.trans (s4.trans (s5.trans s6))
    replace hs5 := hs5.mono s6
    (tm_at "dl go")
    refine m_lenL M6 d6 ?_
    rw [List.length_map]
    refine s_name ?_
    refine s_seq (s_join (fun σ' H' => H' = H5 ∧ σ' = [some (.ref p), some (.ref a), some x, some y, some (.int pick), some m.v, some (.ref D), some (.int ((m.cap bs.length : Nat) : Int)), none, none, none, none, none]) (fun N hN => ?_) ?_)
    · cases m with
      | no =>
        dsimp only [Lim.v]
        (tm_at "dl go")
        exact hN _ _ ⟨rfl, rfl⟩
      | at_ n =>
        dsimp only [Lim.v]
        (tm_at "dl go")
        refine hN _ _ ⟨rfl, ?_⟩
        have e : (if (n : Int) < ((bs.length : Nat) : Int) then (n : Int) else ((bs.length : Nat) : Int)) = ((min n bs.length : Nat) : Int) := by split <;> omega
        rw [e]
        rfl
    rintro σ' H' ⟨rfl, rfl⟩
    have hcap : m.cap bs.length ≤ bs.length := by
      cases m with
      | no => exact Nat.le_refl _
      | at_ n => exact Nat.min_le_right _ _
    (tm_at "dl go")
    refine m_listO M6 d6 fun z vs H7 M7 ha => ?_
    obtain rfl := ha.ints_inv
    have hf7 := hf2.mono s26
    obtain ⟨dx, li, st, sv, e0, e1, ed, e2, e3, e4, e5⟩ := hf7.fldR M7.oh1
    (tm_at "dl go")
    refine s_mt e1 (get_no (by decide +kernel) (by decide +kernel) _ _) ?_
    (tm_at "dl go")
    refine ⟨F6, S, a, z, l, ss, bs, m, rfl, M7.fh, M7.oh1, M7.fo1, hf7, M7.at0, M7.dj01 z (by rw [cell_same]; intro q; cases q), by omega, fun F8 H8 S8 g8 hf8 => ?_⟩
    have M8 := M7.go1 g8
    have d8 := d6.mono g8.ff
    (tm_at "dl go")
    refine ⟨_, _, dp_own M8.fh M8.at0 DaA.ints, d8.dp M8.fh, shaped_ints, shaped_ints, ?_⟩
    rw [SeqAt.eqv_refl _ (SeqAt.canLay_of_shaped shaped_ints)]
    (tm_at "dl go")
    refine s_ins M8.at0 (Nat.lt_of_le_of_lt (show _ ≤ 1000 by rw [List.length_map]; omega) (by decide)) (by decide) (by decide) ?_
    have M9 := M8.put (u := .lst ((bs.map V.int).take (0 : Int).toNat ++ [.int 9] ++ (bs.map V.int).drop (0 : Int).toNat))
    (tm_at "dl go")
    refine m_app0 M9 (Nat.lt_of_le_of_lt (show _ ≤ 1000 by simp; omega) (by decide)) fun H10 M10 => ?_
    (tm_at "dl go")
    refine same_call M10 (.int _) (.int _) (by trivial) fun H11 M11 => ?_
    (tm_at "dl go")
    refine m_slL M11 d8 fun q F12 H12 M12 s12 d12 => ?_
    rw [cutA_to, ← List.map_take] at d12
    refine m_lcL M12 d12 (fun i acc F' own => ∃ C, own = [C, S8, R5] ∧ DaA F' acc (((bs.take (m.cap bs.length)).take i).map fun b => encL (.app b))) ⟨_, rfl, .nil⟩ ?_ ?_
    · rintro i d v acc D2 F13 H13 own ed s13 M13 dv ⟨C, rfl, ha⟩
      rw [List.getElem?_map] at ed
      cases eb : (bs.take (m.cap bs.length))[i]? with
      | none => rw [eb] at ed; cases ed
      | some b =>
      rw [eb] at ed
      obtain rfl := Option.some.inj ed
      obtain rfl := dv.of_int
      (tm_at "dl go")
      refine ⟨rfl, ?_⟩
      (tm_at "dl go")
      refine m_tup M13 (.cons (.int 0) (.cons (.int b) .nil)) (Nat.le_of_lt (small1000 (by simp only [List.length_cons, List.length_nil]; decide))) fun t F14 H14 M14 s14 ht => ?_
      have al := ha.length
      rw [List.length_map, List.length_take, List.length_take] at al
      refine LcE.mk (s13.trans s14) M14 (Nat.lt_of_le_of_lt (show acc.length ≤ 1000 by omega) (by decide)) ⟨C, rfl, ?_⟩
      rw [take_snoc eb, List.map_append]
      exact (ha.mono s14).snoc ht
    rintro D2 acc F13 H13 own s13 M13 ⟨C, rfl, ha⟩
    rw [List.length_map, List.take_length] at ha
    obtain ⟨F14, M14, s14, d14⟩ := M13.data ha
    have s2e := s26.trans (g8.ff.trans (s12.trans (s13.trans s14)))
    refine m_cat M14 (hy2.mono s2e) d14 (sz100 (by rw [List.length_map, List.length_map, List.length_take]; omega)) fun r F15 H15 M15 s15 d15 => ?_
    (tm_at "dl go")
    refine kk M15.drop (hs5.mono (g8.ff.trans (s12.trans (s13.trans (s14.trans s15))))) (hf8.mono (s12.trans (s13.trans (s14.trans s15)))) (hx2.mono (s2e.trans s15)) (ss' := ss ++ (bs.take (m.cap bs.length)).map Sx.app) ?_ (by rw [List.length_append, List.length_map, List.length_take]; omega)
    rw [List.map_append, List.map_map]
    exact d15
  (tm_at "dl go")
  refine ite2 (fun h5 => ?_) (fun h5 => ?_)
  · -- shorten
    (tm_at "dl go")
    refine after_call M2 hx2 hy2 (by omega) fun v F3 H3 M3 s3 d3 => ?_
    (tm_at "dl go")
    refine m_lenL M3 d3 ?_
    rw [List.length_map]
    (tm_at "dl go")
    refine next1 M3 (hs2.mono s3) (by omega) fun n F4 H4 R4 M4 s4 hs4 n0 n1 => ?_
    obtain ⟨n, rfl⟩ := Int.eq_ofNat_of_zero_le n0
    have hf4 := hf2.mono (s3.trans s4)
    obtain ⟨dx, li, st, sv, e0, e1, ed, e2, e3, e4, e5⟩ := hf4.fldR M4.oh0
    have hx4 := hx2.mono (s3.trans s4)
    have hy4 := hy2.mono (s3.trans s4)
    (tm_at "dl go")
    refine s_mt e1 (get_no (by decide +kernel) (by decide +kernel) _ _) ?_
    (tm_at "dl go")
    refine ⟨F4, S, a, l, ss, n, m, rfl, M4.fh, M4.oh0, M4.fo0, hf4, by omega, fun em F5 H5 S5 g5 hf5 => ?_, fun em F5 H5 S5 g5 hf5 => ?_⟩
    · have M5 := M4.go g5
      (tm_at "dl go")
      refine lim0 (fun _ => ?_) (fun e => absurd em e)
      (tm_at "dl go")
      refine same_call M5 (.int _) (.int _) (by trivial) fun H6 M6 => ?_
      (tm_at "dl go")
      exact kk M6 (hs4.mono g5.ff) hf5 (hx4.mono g5.ff) (hy4.mono g5.ff) (by omega)
    · have M5 := M4.go g5
      (tm_at "dl go")
      refine lim0 (fun e => absurd e em) (fun _ => ?_)
      (tm_at "dl go")
      refine same_call M5 (.int _) (.int _) (by trivial) fun H6 M6 => ?_
      (tm_at "dl go")
      refine m_tup M6 (.cons (.int 1) (.cons (.int (n : Int)) .nil)) (Nat.le_of_lt (small1000 (by simp only [List.length_cons, List.length_nil]; decide))) fun t F7 H7 M7 s7 ht => ?_
      (tm_at "dl go")
      refine m_lz (by simp only [List.length_cons, List.length_nil]; decide) ?_
      refine m_lstF M7 (.cons ht .nil) fun q F8 H8 M8 s8 d8 => ?_
      refine m_cat M8 (hy4.mono (g5.ff.trans (s7.trans s8))) d8 (sz100 (by rw [List.length_map]; simp; omega)) fun r F9 H9 M9 s9 d9 => ?_
      (tm_at "dl go")
      have sf := s7.trans (s8.trans s9)
      refine kk M9 (hs4.mono (g5.ff.trans sf)) (hf5.mono sf) (hx4.mono (g5.ff.trans sf)) ?_ (by simp; omega)
      rw [List.map_append]
      exact d9
  (tm_at "dl go")
  refine ite2 (fun h7 => ?_) (fun h7 => ?_)
  · -- flush
    have hf4 := hf2
    obtain ⟨dx, li, st, sv, e0, e1, ed, e2, e3, e4, e5⟩ := hf4.fldR M2.oh0
    (tm_at "dl go")
    refine s_mt e1 (get_no (by decide +kernel) (by decide +kernel) _ _) ?_
    (tm_at "dl go")
    refine ⟨F2, S, a, l, ss, m, rfl, M2.fh, M2.oh0, M2.fo0, hf4, by omega, fun em F5 H5 S5 g5 hf5 => ?_, fun em F5 H5 S5 g5 hf5 => ?_⟩
    · have M5 := M2.go g5
      (tm_at "dl go")
      refine lim0 (fun _ => ?_) (fun e => absurd em e)
      (tm_at "dl go")
      refine same_call M5 (.int _) (.int _) (by trivial) fun H6 M6 => ?_
      (tm_at "dl go")
      exact kk M6 (hs2.mono g5.ff) hf5 (hx2.mono g5.ff) (hy2.mono g5.ff) (by omega)
    · have M5 := M2.go g5
      (tm_at "dl go")
      refine lim0 (fun e => absurd e em) (fun _ => ?_)
      (tm_at "dl go")
      refine same_call M5 (.int _) (.int _) (by trivial) fun H6 M6 => ?_
      (tm_at "dl go")
      refine after_call M6 (hx2.mono g5.ff) (hy2.mono g5.ff) (by omega) fun v F7 H7 M7 s7 d7 => ?_
      (tm_at "dl go")
      refine m_lz (by simp only [List.length_cons, List.length_nil]; decide) ?_
      refine m_lstF M7 .nil fun q F8 H8 M8 s8 d8 => ?_
      (tm_at "dl go")
      have al := apl_len ss l
      exact kk M8 (hs2.mono (g5.ff.trans (s7.trans s8))) (hf5.mono (s7.trans s8)) (d7.mono s8) (ss' := []) d8 (by simp; omega)
  · -- lose
    (tm_at "dl go")
    refine m_lenL M2 hy2 ?_
    rw [List.length_map]
    (tm_at "dl go")
    refine next1 M2 hs2 (by omega) fun n F4 H4 R4 M4 s4 hs4 n0 n1 => ?_
    obtain ⟨n, rfl⟩ := Int.eq_ofNat_of_zero_le n0
    have hf4 := hf2.mono s4
    obtain ⟨dx, li, st, sv, e0, e1, ed, e2, e3, e4, e5⟩ := hf4.fldR M4.oh0
    (tm_at "dl go")
    refine s_mt e1 (get_no (by decide +kernel) (by decide +kernel) _ _) ?_
    (tm_at "dl go")
    refine ⟨F4, S, a, l, ss, n, rfl, M4.fh, M4.oh0, M4.fo0, hf4, by omega, fun F5 H5 S5 g5 hf5 => ?_⟩
    have M5 := M4.go g5
    have s5 := s4.trans g5.ff
    (tm_at "dl go")
    refine m_slL M5 (hy2.mono s5) fun q F6 H6 M6 s6 d6 => ?_
    rw [cutA_to, ← List.map_take] at d6
    (tm_at "dl go")
    refine after_call M6 ((hx2.mono s5).mono s6) d6 (by rw [List.length_take]; omega) fun v F7 H7 M7 s7 d7 => ?_
    (tm_at "dl go")
    refine m_lz (by simp only [List.length_cons, List.length_nil]; decide) ?_
    refine m_lstF M7 .nil fun q F8 H8 M8 s8 d8 => ?_
    (tm_at "dl go")
    have al := apl_len (ss.take n) l
    rw [List.length_take] at al
    exact kk M8 (hs4.mono (g5.ff.trans (s6.trans (s7.trans s8)))) (hf5.mono (s6.trans (s7.trans s8))) (d7.mono s8) (ss' := []) d8 (by simp; omega)
end
end K10

namespace K10
open PySem PySem.Spec PyProof.Rows L2 DL
local macro_rules | `(tactic| tm_at "dl hp") => `(tactic| (first | assumption | exact Mem.at0 (by assumption) | exact Mem.at1 (by assumption) | exact Mem.at2 (by assumption) | exact Mem.at3 (by assumption)))
local macro_rules | `(tactic| tm_at "dl ch") => `(tactic| (repeat (first | exact L2.Same.refl _ | assumption | refine L2.Same.trans ?_ (by assumption))))
local macro_rules | `(tactic| tm_at "dl da") => `(tactic| (first | assumption | (refine Da.mono ?_ (by assumption); (repeat (first | exact L2.Same.refl _ | assumption | refine L2.Same.trans ?_ (by assumption))))))
local macro_rules | `(tactic| tm_at "dl st") => `(tactic| (first | ((with_reducible show tVar _ _ _ _); refine s_var (by rfl) ?_) | with_reducible refine s_seq ?_ | with_reducible refine s_asg ?_ | with_reducible refine s_op ?_ | with_reducible refine s_un ?_ | with_reducible refine s_c ?_ | with_reducible refine s_call ?_ | with_reducible refine s_cons ?_ | with_reducible refine s_nil ?_ | with_reducible refine s_CB ?_ | with_reducible refine s_test ?_ | with_reducible refine s_tB ?_ | with_reducible refine s_tq ?_ | with_reducible refine s_if ?_ | with_reducible refine s_drop ?_ | with_reducible refine s_ret ?_ | with_reducible refine s_retN ?_ | with_reducible refine s_next ?_ | with_reducible refine s_brk ?_ | with_reducible refine s_cont ?_ | with_reducible refine s_name ?_ | with_reducible refine s_I0 ?_ | with_reducible refine s_U ?_ | with_reducible refine s_eqI ?_ | with_reducible refine s_eqS ?_ | with_reducible refine s_eqB ?_ | with_reducible refine s_neI ?_ | with_reducible refine s_neS ?_ | with_reducible refine s_neB ?_ | with_reducible refine s_isN0 ?_ | with_reducible refine s_isNI ?_ | with_reducible refine s_isNS ?_ | with_reducible refine s_isNR ?_ | with_reducible refine s_isNB ?_ | with_reducible refine s_notN0 ?_ | with_reducible refine s_notNI ?_ | with_reducible refine s_notNS ?_ | with_reducible refine s_notNR ?_ | with_reducible refine iteNT ?_ | with_reducible refine iteNF ?_ | with_reducible refine s_not ?_ | with_reducible refine s_and ?_ | with_reducible refine s_or ?_ | with_reducible refine s_ifE ?_ | with_reducible refine s_andV ?_ | with_reducible refine s_orV ?_ | with_reducible refine s_notV ?_ | with_reducible refine s_tup ?_ | with_reducible refine s_lst ?_ | with_reducible refine s_sub ?_ | with_reducible refine s_gCons ?_ | with_reducible refine s_gNil ?_ | with_reducible refine s_ipI ?_ | with_reducible refine s_for ?_ | with_reducible refine s_lc ?_ | with_reducible refine s_yes ?_ | with_reducible refine s_iList ?_ | with_reducible refine s_iTup ?_ | with_reducible refine s_iRng1 ?_ | with_reducible refine s_iRng2 ?_ | with_reducible refine s_iZip ?_ | with_reducible refine s_iEnum ?_ | with_reducible refine s_iStr ?_ | with_reducible refine s_st ?_ | with_reducible refine iteT ?_ | with_reducible refine iteF ?_ | with_reducible refine s_BM ?_ | with_reducible refine s_tyS ?_ | with_reducible refine s_int ?_ | with_reducible refine s_intB ?_ | with_reducible refine s_min ?_ | with_reducible refine s_max ?_ | with_reducible refine s_sl ?_ | with_reducible refine s_noP ?_ | with_reducible refine s_meth ?_ | with_reducible refine s_fld ?_ | with_reducible refine s_sfld ?_ | with_reducible refine s_make ?_ | with_reducible refine s_part ?_ | with_reducible refine s_pt ?_ | with_reducible refine s_augS ?_ | ((with_reducible show tAug _ _ _ _ _ _); refine s_aug (by rfl) ?_) | ((with_reducible show rI _ _ _ _ _ _); refine s_I (by first | (show (0 : Int) < _; decide) | (exact ⟨by decide, by decide⟩) | (exact .inr ⟨by decide, by decide⟩) | (exact .inl ⟨by decide, by decide⟩) | (exact ⟨by decide, by decide, by decide⟩)) ?_) | ((with_reducible show rIsi _ _ _ _); first | refine m_isi (by assumption) (by assumption) (r := true) (by dsimp only [tyD]; decide +kernel) ?_ | refine m_isi (by assumption) (by assumption) (r := false) (by dsimp only [tyD]; decide +kernel) ?_) | ((with_reducible show tyV _ _ _ _ ∧ _); refine s_tyL (by (first | assumption | exact Mem.at0 (by assumption) | exact Mem.at1 (by assumption) | exact Mem.at2 (by assumption) | exact Mem.at3 (by assumption))) ?_) | ((with_reducible show rIxL _ _ _ _ _); refine s_ixL (by (first | assumption | exact Mem.at0 (by assumption) | exact Mem.at1 (by assumption) | exact Mem.at2 (by assumption) | exact Mem.at3 (by assumption))) (by rfl) ?_)))
local macro_rules | `(tactic| tm_at "dl go") => `(tactic| (repeat (first | ((with_reducible show tVar _ _ _ _); refine s_var (by rfl) ?_) | with_reducible refine s_seq ?_ | with_reducible refine s_asg ?_ | with_reducible refine s_op ?_ | with_reducible refine s_un ?_ | with_reducible refine s_c ?_ | with_reducible refine s_call ?_ | with_reducible refine s_cons ?_ | with_reducible refine s_nil ?_ | with_reducible refine s_CB ?_ | with_reducible refine s_test ?_ | with_reducible refine s_tB ?_ | with_reducible refine s_tq ?_ | with_reducible refine s_if ?_ | with_reducible refine s_drop ?_ | with_reducible refine s_ret ?_ | with_reducible refine s_retN ?_ | with_reducible refine s_next ?_ | with_reducible refine s_brk ?_ | with_reducible refine s_cont ?_ | with_reducible refine s_name ?_ | with_reducible refine s_I0 ?_ | with_reducible refine s_U ?_ | with_reducible refine s_eqI ?_ | with_reducible refine s_eqS ?_ | with_reducible refine s_eqB ?_ | with_reducible refine s_neI ?_ | with_reducible refine s_neS ?_ | with_reducible refine s_neB ?_ | with_reducible refine s_isN0 ?_ | with_reducible refine s_isNI ?_ | with_reducible refine s_isNS ?_ | with_reducible refine s_isNR ?_ | with_reducible refine s_isNB ?_ | with_reducible refine s_notN0 ?_ | with_reducible refine s_notNI ?_ | with_reducible refine s_notNS ?_ | with_reducible refine s_notNR ?_ | with_reducible refine iteNT ?_ | with_reducible refine iteNF ?_ | with_reducible refine s_not ?_ | with_reducible refine s_and ?_ | with_reducible refine s_or ?_ | with_reducible refine s_ifE ?_ | with_reducible refine s_andV ?_ | with_reducible refine s_orV ?_ | with_reducible refine s_notV ?_ | with_reducible refine s_tup ?_ | with_reducible refine s_lst ?_ | with_reducible refine s_sub ?_ | with_reducible refine s_gCons ?_ | with_reducible refine s_gNil ?_ | with_reducible refine s_ipI ?_ | with_reducible refine s_for ?_ | with_reducible refine s_lc ?_ | with_reducible refine s_yes ?_ | with_reducible refine s_iList ?_ | with_reducible refine s_iTup ?_ | with_reducible refine s_iRng1 ?_ | with_reducible refine s_iRng2 ?_ | with_reducible refine s_iZip ?_ | with_reducible refine s_iEnum ?_ | with_reducible refine s_iStr ?_ | with_reducible refine s_st ?_ | with_reducible refine iteT ?_ | with_reducible refine iteF ?_ | with_reducible refine s_BM ?_ | with_reducible refine s_tyS ?_ | with_reducible refine s_int ?_ | with_reducible refine s_intB ?_ | with_reducible refine s_min ?_ | with_reducible refine s_max ?_ | with_reducible refine s_sl ?_ | with_reducible refine s_noP ?_ | with_reducible refine s_meth ?_ | with_reducible refine s_fld ?_ | with_reducible refine s_sfld ?_ | with_reducible refine s_make ?_ | with_reducible refine s_part ?_ | with_reducible refine s_pt ?_ | with_reducible refine s_augS ?_ | ((with_reducible show tAug _ _ _ _ _ _); refine s_aug (by rfl) ?_) | ((with_reducible show rI _ _ _ _ _ _); refine s_I (by first | (show (0 : Int) < _; decide) | (exact ⟨by decide, by decide⟩) | (exact .inr ⟨by decide, by decide⟩) | (exact .inl ⟨by decide, by decide⟩) | (exact ⟨by decide, by decide, by decide⟩)) ?_) | ((with_reducible show rIsi _ _ _ _); first | refine m_isi (by assumption) (by assumption) (r := true) (by dsimp only [tyD]; decide +kernel) ?_ | refine m_isi (by assumption) (by assumption) (r := false) (by dsimp only [tyD]; decide +kernel) ?_) | ((with_reducible show tyV _ _ _ _ ∧ _); refine s_tyL (by (first | assumption | exact Mem.at0 (by assumption) | exact Mem.at1 (by assumption) | exact Mem.at2 (by assumption) | exact Mem.at3 (by assumption))) ?_) | ((with_reducible show rIxL _ _ _ _ _); refine s_ixL (by (first | assumption | exact Mem.at0 (by assumption) | exact Mem.at1 (by assumption) | exact Mem.at2 (by assumption) | exact Mem.at3 (by assumption))) (by rfl) ?_))))

section
variable {P : Program} {w : World} {K : PySem.W.Frag} {mg : Str → Option Value} {base : Heap}
section
variable {F0 H0 B F H R A C S : Hp} {own : List Hp} {a : Addr} {l : List Int} {ss : List Sx} {n : Nat} {Q : VK} {E : XK}
theorem content1 (M : Mem F0 H0 B F H (A :: R :: own)) (hf : IsF K F R a l ss) (hz : l.length + ss.length ≤ 1000000) (q : ∀ p F' H', Mem F0 H0 B F' H' (cell p (.lst ((apl l ss).map V.int)) :: A :: R :: own) → Same F F' → Q (.ref p) H') : sp_content K [.ref a] H Q E :=
  ⟨F, R, a, l, ss, rfl, M.fh, M.oh1, M.fo1, hf, hz, fun v F' H' g d => q v F' H' (M.goR1 g d) g.ff⟩
/-- o.m of a file -/
theorem f_mt {t : TA} {σ : L2.St} {m : Str} {sp : Sp} (hf : IsF K F R a l ss) (s : Same R H) (h1 : (m == ("_lasting" : Str)) = false) (h2 : (m == ("_steps" : Str)) = false) (q : t σ H fun vs H2 => sp (.ref a :: vs) H2 Q E) : mtQ (CF K) m sp E t σ Q (.ref a) H := by
  obtain ⟨dx, li, st, sv, e0, e1, ed, e2, e3, e4, e5⟩ := hf.fldR s
  exact s_mt e1 (get_no h1 h2 _ _) q
/-- the same lists -/
theorem same_ints {p q : V} {l : List Int} (M : Mem F0 H0 B F H own) (hx : Da F p (.list (l.map PyData.int))) (hy : Da F q (.list (l.map PyData.int))) (hl : l.length ≤ 1000000) (k : ∀ H', Mem F0 H0 B F H' own → Q (.bl true) H') : sp_same 10 [p, q] H Q E :=
  same_call M hx hy (fit_ints (by omega)) k
end
/-! law -/
def spLaw (K : PySem.W.Frag) : Sp := fun vs H Q _ => ∃ (a : Addr) (ns : List Int), vs = [.ref a] ∧ SqL K H a (ns.map V.int) ∧ ns.length ≤ 63 ∧ ∀ H', Q (.bl true) H'
theorem law_at {lf : Addr} {ld : FuncData} (T : Tx K mg) (F : FunD K "law" "law" (defArgs s_law) (defBody s_law) (defScope s_law) [] [] lf ld) : FnOk P w K mg base CX0 61 lf ld ["script"] (spLaw K) := by
  refine fnO F sc_law (fun vs H Q E h => ?_) (fun f cdv A outer s H vs Q E hr h => ?_)
  · obtain ⟨a, ns, rfl, _⟩ := h
    rfl
  obtain ⟨a, ns, rfl, hS, hl, k⟩ := h
  have M := Mem.start0 (emp_same (A := H))
  refine ⟨_, (pss_cons (ps_set (i := 1) sc_law.nd rfl (Or.inl rfl) (pe_lst (pa_cons (pe_fn (ok__law_draws T) (hr.mono (by first | decide | omega)) rfl pass0 (pa_cons (pv 0) pa_nil)) (pa_cons pe_int pa_nil))))
  (pss_cons (ps_set (i := 2) sc_law.nd rfl (Or.inl rfl) (pe_i0 (ok_File___init__ T) (hr.mono (by first | decide | omega)) rfl pass0))
  (pss_cons (ps_set (i := 3) sc_law.nd rfl (Or.inl rfl) (pe_lst pa_nil))
  (pss_cons (ps_set (i := 4) sc_law.nd rfl (Or.inl rfl) (pe_lst pa_nil))
  (pss_cons (ps_set (i := 5) sc_law.nd rfl (Or.inl rfl) (pe_i0 (ok_File___init__ T) (hr.mono (by first | decide | omega)) rfl pass0))
  (pss_cons (ps_set (i := 6) sc_law.nd rfl (Or.inl rfl) (pe_i0 (ok_File___init__ T) (hr.mono (by first | decide | omega)) rfl pass0))
  (pss_cons (ps_expr (pe_m (ok_File_write T) (pv 6) T.cl_File (hr.mono (by first | decide | omega)) pass0 (pa_cons (pe_lst (pa_cons pe_int (pa_cons pe_int pa_nil))) (pa_cons pe_non pa_nil))))
  (pss_cons (ps_expr (pe_m (ok_File_flush T) (pv 6) T.cl_File (hr.mono (by first | decide | omega)) pass0 (pa_cons pe_non pa_nil)))
  (pss_cons (ps_expr (pe_m (ok_File_write T) (pv 6) T.cl_File (hr.mono (by first | decide | omega)) pass0 (pa_cons (pe_lst (pa_cons pe_int pa_nil)) (pa_cons pe_non pa_nil))))
  (pss_cons (ps_for PassesOwn.never rfl (pi_range1 rfl T.b_range (pa_cons (pe_fn (ok__law_next T) (hr.mono (by first | decide | omega)) rfl pass0 (pa_cons (pv 1) (pa_cons pe_int pa_nil))) pa_nil)) (pg_name (i := 7) sc_law.nd rfl (Or.inl rfl))
  (pss_cons (ps_if (pt_cmpR op_eq (pe_fn (ok__law_next T) (hr.mono (by first | decide | omega)) rfl pass0 (pa_cons (pv 1) (pa_cons pe_int pa_nil))) pe_int (nomark _))
  (pss_cons (ps_expr (pe_m (ok_File_write T) (pv 5) T.cl_File (hr.mono (by first | decide | omega)) pass0 (pa_cons (pe_lst (pa_cons (pv 7) (pa_cons (pe_op op_add (pv 7) pe_int) (pa_cons (pe_op op_add (pv 7) pe_int) pa_nil)))) (pa_cons pe_non pa_nil))))
  (pss_cons (ps_if (PW.pt (pw_or (pt_not (pt_val (pe_fn (ok__law_same T 10) (hr.mono (by first | decide | omega)) rfl pass0 (pa_cons (pe_m0 (ok_File_content T) (pv 5) T.cl_File (hr.mono (by first | decide | omega)) pass0) (pa_cons (pe_lst (pa_cons (pv 7) (pa_cons (pe_op op_add (pv 7) pe_int) (pa_cons (pe_op op_add (pv 7) pe_int) pa_nil)))) pa_nil))))) (pw_or1 (pt_not (pt_val (pe_fn (ok__law_same T 10) (hr.mono (by first | decide | omega)) rfl pass0 (pa_cons (pe_m0 (ok_File_pending T) (pv 5) T.cl_File (hr.mono (by first | decide | omega)) pass0) (pa_cons pe_int pa_nil))))))))
  (pss_one (ps_ret pe_bl))
  pss_nil)
  (pss_cons (ps_set (i := 5) sc_law.nd rfl (Or.inl rfl) (pe_i0 (ok_File___init__ T) (hr.mono (by first | decide | omega)) rfl pass0))
  (pss_one (ps_if (PW.pt (pw_or (pt_cmpR (op_neD hr.units) (pe_m0 (ok_File_content T) (pv 5) T.cl_File (hr.mono (by first | decide | omega)) pass0) (pe_lst pa_nil) (nomark _)) (pw_or1 (pt_not (pt_val (pe_fn (ok__law_same T 10) (hr.mono (by first | decide | omega)) rfl pass0 (pa_cons (pe_m0 (ok_File_pending T) (pv 5) T.cl_File (hr.mono (by first | decide | omega)) pass0) (pa_cons pe_int pa_nil))))))))
  (pss_one (ps_ret pe_bl))
  pss_nil)))))
  pss_nil)
  (pss_cons (ps_asg (pe_fn (ok__law_deed T) (hr.mono (by first | decide | omega)) rfl pass0 (pa_cons (pv 1) (pa_cons (pv 2) (pa_cons (pv 3) (pa_cons (pv 4) pa_nil))))) (pg_lst rfl (pgs_cons (pg_name (i := 8) sc_law.nd rfl (Or.inl rfl)) (pgs_cons (pg_name (i := 3) sc_law.nd rfl (Or.inl rfl)) (pgs_cons (pg_name (i := 4) sc_law.nd rfl (Or.inl rfl)) pgs_nil)))))
  (pss_cons (ps_if (PW.pt (pw_or (pt_not (pt_val (pv 8))) (pw_or1 (pt_not (pt_val (pe_fn (ok__law_same T 10) (hr.mono (by first | decide | omega)) rfl pass0 (pa_cons (pe_m0 (ok_File_content T) (pv 2) T.cl_File (hr.mono (by first | decide | omega)) pass0) (pa_cons (pe_fn (ok__law_after T) (hr.mono (by first | decide | omega)) rfl pass0 (pa_cons (pv 3) (pa_cons (pv 4) pa_nil))) pa_nil))))))))
  (pss_one (ps_ret pe_bl))
  pss_nil)
  (pss_cons (ps_if (pt_not (pt_val (pe_fn (ok__law_same T 10) (hr.mono (by first | decide | omega)) rfl pass0 (pa_cons (pe_m0 (ok_File_pending T) (pv 2) T.cl_File (hr.mono (by first | decide | omega)) pass0) (pa_cons (pe_callB c_lenQ (by rfl) T.b_len DL.bt_len (pa_cons (pv 4) pa_nil)) pa_nil)))))
  (pss_one (ps_ret pe_bl))
  pss_nil)
  (pss_cons (ps_expr (pe_bm PySem.F.plainAttrs_list PySem.F.slot_list_append PySem.F.type_list_append c_append (pe_m0 (ok_File_content T) (pv 2) T.cl_File (hr.mono (by first | decide | omega)) pass0) (pa_cons pe_int pa_nil)))
  (pss_one (ps_if (PW.pt (pw_and (pt_cmpR op_eq (pe_fn (ok__law_next T) (hr.mono (by first | decide | omega)) rfl pass0 (pa_cons (pv 1) (pa_cons pe_int pa_nil))) pe_int (nomark _)) (pw_and1 (pt_not (pt_val (pe_fn (ok__law_same T 10) (hr.mono (by first | decide | omega)) rfl pass0 (pa_cons (pe_m0 (ok_File_content T) (pv 2) T.cl_File (hr.mono (by first | decide | omega)) pass0) (pa_cons (pe_fn (ok__law_after T) (hr.mono (by first | decide | omega)) rfl pass0 (pa_cons (pv 3) (pa_cons (pv 4) pa_nil))) pa_nil))))))))
  (pss_one (ps_ret pe_bl))
  pss_nil))))))))
  (pss_cons (ps_expr (pe_m (ok_File_lose T) (pv 2) T.cl_File (hr.mono (by first | decide | omega)) pass0 (pa_cons pe_int pa_nil)))
  (pss_cons (ps_if (PW.pt (pw_or (pt_not (pt_val (pe_fn (ok__law_same T 10) (hr.mono (by first | decide | omega)) rfl pass0 (pa_cons (pe_m0 (ok_File_content T) (pv 6) T.cl_File (hr.mono (by first | decide | omega)) pass0) (pa_cons (pe_lst (pa_cons pe_int (pa_cons pe_int (pa_cons pe_int pa_nil)))) pa_nil))))) (pw_or1 (pt_not (pt_val (pe_fn (ok__law_same T 10) (hr.mono (by first | decide | omega)) rfl pass0 (pa_cons (pe_m0 (ok_File_pending T) (pv 6) T.cl_File (hr.mono (by first | decide | omega)) pass0) (pa_cons pe_int pa_nil))))))))
  (pss_one (ps_ret pe_bl))
  pss_nil)
  (pss_one (ps_ret (pe_and (pe_fn (ok__law_same T 10) (hr.mono (by first | decide | omega)) rfl pass0 (pa_cons (pe_m0 (ok_File_content T) (pv 2) T.cl_File (hr.mono (by first | decide | omega)) pass0) (pa_cons (pv 3) pa_nil))) (pe_one (pe_fn (ok__law_same T 10) (hr.mono (by first | decide | omega)) rfl pass0 (pa_cons (pe_m0 (ok_File_pending T) (pv 2) T.cl_File (hr.mono (by first | decide | omega)) pass0) (pa_cons pe_int pa_nil))))))))))))))))))), ?_⟩
  (tm_at "dl go")
  refine ⟨a, ns, rfl, hS, hl, fun dv F1 H1 zs g1 d1 hz => ?_⟩
  have M1 := M.go0 g1
  obtain ⟨d, _, rfl, _, _⟩ := id d1.of_lst
  (tm_at "dl go")
  refine m_lz (by simp only [List.length_cons, List.length_nil]; decide) ?_
  refine m_lst M1 fun p H2 M2 => ?_
  have hs2 : IsSt F1 (cell p (.lst [.ref d, .int 20])) p := ⟨d, zs, 20, rfl, d1, hz, by decide⟩
  (tm_at "dl go")
  -- file = File()
  refine m_mk M2 fun f S0 H3 M3 hS0 => ?_
  obtain ⟨dx, i1, i2⟩ := hS0
  refine ⟨F1, S0, f, dx, rfl, M3.fh, M3.oh0, M3.fo0, i1, i2, fun F4 H4 S4 g4 hf4 => ⟨rfl, ?_⟩⟩
  have M4 := M3.go g4
  replace hs2 := hs2.mono g4.ff
  (tm_at "dl go")
  refine m_lz (Nat.zero_le _) ?_
  refine m_lstF M4 .nil fun la F5 H5 M5 s5 dl5 => ?_
  (tm_at "dl go")
  refine m_lz (Nat.zero_le _) ?_
  refine m_lstF M5 .nil fun st F6 H6 M6 s6 ds6 => ?_
  (tm_at "dl go")
  -- other = File()
  refine m_mk M6 fun o O0 H7 M7 hO0 => ?_
  obtain ⟨ox, j1, j2⟩ := hO0
  refine ⟨F6, O0, o, ox, rfl, M7.fh, M7.oh0, M7.fo0, j1, j2, fun F8 H8 O8 g8 ho8 => ⟨rfl, ?_⟩⟩
  have M8 := M7.go g8
  (tm_at "dl go")
  -- still = File()
  refine m_mk M8 fun t T0 H9 M9 hT0 => ?_
  obtain ⟨tx, k1, k2⟩ := hT0
  refine ⟨F8, T0, t, tx, rfl, M9.fh, M9.oh0, M9.fo0, k1, k2, fun F10 H10 T10 g10 ht10 => ⟨rfl, ?_⟩⟩
  have M10 := M9.go g10
  (tm_at "dl go")
  refine f_mt ht10 M10.oh0 (by decide +kernel) (by decide +kernel) ?_
  (tm_at "dl go")
  refine m_lz (by simp only [List.length_cons, List.length_nil]; decide) ?_
  refine m_lst M10 fun z H11 M11 => ?_
  (tm_at "dl go")
  refine ⟨F10, T10, t, z, [], [], [1, 2], .no, rfl, M11.fh, M11.oh1, M11.fo1, ht10, M11.at0, cell_no M11.dj01, by decide, fun F12 H12 T12 g12 ht12 => ?_⟩
  have M12 := (M11.go1 g12).drop
  (tm_at "dl go")
  refine f_mt ht12 M12.oh0 (by decide +kernel) (by decide +kernel) ?_
  (tm_at "dl go")
  refine ⟨F12, T12, t, [], _, .no, rfl, M12.fh, M12.oh0, M12.fo0, ht12, by decide, fun e => (nomatch e), fun _ F13 H13 T13 g13 ht13 => ?_⟩
  have M13 := M12.go g13
  (tm_at "dl go")
  refine f_mt ht13 M13.oh0 (by decide +kernel) (by decide +kernel) ?_
  (tm_at "dl go")
  refine m_lz (by simp only [List.length_cons, List.length_nil]; decide) ?_
  refine m_lst M13 fun z2 H14 M14 => ?_
  (tm_at "dl go")
  refine ⟨F13, T13, t, z2, _, _, [3], .no, rfl, M14.fh, M14.oh1, M14.fo1, ht13, M14.at0, cell_no M14.dj01, by decide, fun F15 H15 T15 g15 ht15 => ?_⟩
  have M15 := (M14.go1 g15).drop
  have s15 : Same F8 F15 := g10.ff.trans (g12.ff.trans (g13.ff.trans g15.ff))
  have M16 : Mem emp H emp F15 H15 [cell p (.lst [.ref d, .int 20]), S4, O8, T15] := M15.perm (List.reverse_perm [T15, O8, S4, cell p (.lst [.ref d, .int 20])]).symm
  have s815 : Same F4 F15 := s5.trans (s6.trans (g8.ff.trans s15))
  replace hs2 := hs2.mono s815
  (tm_at "dl go")
  refine next0 M16 hs2 (by decide) fun n F17 H17 R17 M17 s17 hs17 n0 n1 => ?_
  (tm_at "dl go")
  refine s_r1 (by omega) (by omega) ?_
  refine m_forR M17 (fun i σ F' own => ∃ (l : List Int) (ss : List Sx) (x y : V) (u v : Option V) (o : Addr) (R' S' O' : Hp), σ = [some (.ref a), some (.ref p), some (.ref f), some x, some y, some (.ref o), some (.ref t), u, v] ∧ own = [R', S', O', T15] ∧ IsSt F' R' p ∧ IsF K F' S' f l ss ∧ IsF K F' O' o [] [] ∧
      Da F' x (.list (l.map PyData.int)) ∧ Da F' y (.list (ss.map encL)) ∧ l.length + ss.length ≤ 60 * i)
    ⟨[], [], .ref la, .ref st, none, none, o, R17, S4, O8, rfl, rfl, hs17, hf4.mono (s815.trans s17), ho8.mono (s15.trans s17), dl5.mono (s6.trans (g8.ff.trans (s15.trans s17))), ds6.mono (g8.ff.trans (s15.trans s17)), Nat.le_refl _⟩ ?_ ?_
  · rintro i σ F18 H18 own hi s18 M18 ⟨l, ss, x, y, u, v, o, R18, S18, O18, rfl, rfl, hs18, hf18, ho18, hx18, hy18, hz⟩
    have hi' : i < 31 := by omega
    refine s_name ?_
    refine s_seq (s_join (fun σ' H' => ∃ (o : Addr) (F' R' O' : Hp), σ' = [some (.ref a), some (.ref p), some (.ref f), some x, some y, some (.ref o), some (.ref t), some (.int (0 + (i : Int))), v] ∧ Mem emp H emp F' H' [R', S18, O', T15] ∧ Same F18 F' ∧ IsSt F' R' p ∧ IsF K F' O' o [] []) (fun N hN => ?_) ?_)
    · (tm_at "dl go")
      refine next0 M18 hs18 (by decide) fun z F19 H19 R19 M19 s19 hs19 z0 z1 => ?_
      replace ho18 := ho18.mono s19
      (tm_at "dl go")
      refine ite2 (fun h => ?_) (fun h => ?_)
      · (tm_at "dl go")
        refine f_mt ho18 M19.oh2 (by decide +kernel) (by decide +kernel) ?_
        (tm_at "dl go")
        refine m_lz (by simp only [List.length_cons, List.length_nil]; decide) ?_
        refine m_lst M19 fun z H20 M20 => ?_
        (tm_at "dl go")
        refine ⟨F19, O18, o, z, [], [], [0 + (i : Int), 0 + (i : Int) + 1, 0 + (i : Int) + 2], .no, rfl, M20.fh, M20.oh3, M20.fo3, ho18, M20.at0, cell_no M20.dj03, (by simp), fun F21 H21 O21 g21 ho21 => ?_⟩
        have M21 := (M20.go3 g21).drop
        replace hs19 := hs19.mono g21.ff
        (tm_at "dl go")
        refine f_mt ho21 M21.oh2 (by decide +kernel) (by decide +kernel) ?_
        (tm_at "dl go")
        refine content2 M21 ho21 (by show 3 ≤ 1000000; decide) fun q F22 H22 M22 s22 => ?_
        obtain ⟨F23, M23, s23, d23⟩ := M22.data (DaA.ints (ns := apl [] ([] ++ ([0 + (i : Int), 0 + (i : Int) + 1, 0 + (i : Int) + 2].take (Lim.cap _ .no)).map Sx.app)))
        replace ho21 := ho21.mono (s22.trans s23)
        replace hs19 := hs19.mono (s22.trans s23)
        (tm_at "dl go")
        refine m_lz (by simp only [List.length_cons, List.length_nil]; decide) ?_
        refine m_lstF M23 (DaA.ints (ns := [0 + (i : Int), 0 + (i : Int) + 1, 0 + (i : Int) + 2])) fun r F24 H24 M24 s24 d24 => ?_
        (tm_at "dl go")
        refine same_ints M24 (l := [0 + (i : Int), 0 + (i : Int) + 1, 0 + (i : Int) + 2]) (d23.mono s24) d24 (by simp) fun H25 M25 => ?_
        replace ho21 := ho21.mono s24
        replace hs19 := hs19.mono s24
        (tm_at "dl go")
        refine f_mt ho21 M25.oh2 (by decide +kernel) (by decide +kernel) ?_
        (tm_at "dl go")
        refine pending_call M25.fh M25.oh2 M25.fo2 ho21 ?_
        (tm_at "dl go")
        refine same_call M25 (.int _) (.int _) (by trivial) fun H26 M26 => ?_
        (tm_at "dl go")
        -- other = File()
        refine m_mk M26 fun o2 OO H27 M27 hOO => ?_
        obtain ⟨ox2, j1, j2⟩ := hOO
        refine ⟨F24, OO, o2, ox2, rfl, M27.fh, M27.oh0, M27.fo0, j1, j2, fun F28 H28 O28 g28 ho28 => ⟨rfl, ?_⟩⟩
        have M28 := M27.go g28
        replace hs19 := hs19.mono g28.ff
        have M29 : Mem emp H emp F28 H28 [R19, S18, O28, T15] := M28.idx [1, 2, 0, 4] (by decide) (by simp)
        have sall : Same F18 F28 := s19.trans (g21.ff.trans (s22.trans (s23.trans (s24.trans g28.ff))))
        (tm_at "dl go")
        refine f_mt ho28 M29.oh2 (by decide +kernel) (by decide +kernel) ?_
        (tm_at "dl go")
        refine content2 M29 ho28 (by decide) fun q F30 H30 M30 s30 => ?_
        (tm_at "dl go")
        refine m_lz (Nat.zero_le _) ?_
        refine m_lstF M30 .nil fun r F31 H31 M31 s31 d31 => ?_
        refine ⟨_, _, dp_own M31.fh M31.at0 (DaA.ints (ns := apl [] [])), d31.dp M31.fh, shaped_ints, shaped_ints (ns := []), ?_⟩
        rw [show PyData.eqv (.list ((apl [] []).map PyData.int)) (.list []) = true from SeqAt.eqv_refl _ (SeqAt.canLay_of_shaped (shaped_ints (ns := [])))]
        have M32 := M31.drop
        replace ho28 := ho28.mono (s30.trans s31)
        replace hs19 := hs19.mono (s30.trans s31)
        (tm_at "dl go")
        refine f_mt ho28 M32.oh2 (by decide +kernel) (by decide +kernel) ?_
        (tm_at "dl go")
        refine pending_call M32.fh M32.oh2 M32.fo2 ho28 ?_
        (tm_at "dl go")
        refine same_call M32 (.int _) (.int _) (by trivial) fun H33 M33 => ?_
        (tm_at "dl go")
        exact hN _ _ ⟨o2, F31, R19, O28, rfl, M33, sall.trans (s30.trans s31), hs19, ho28⟩
      · (tm_at "dl go")
        exact hN _ _ ⟨o, F19, R19, O18, rfl, M19, s19, hs19, ho18⟩
    rintro σ' H' ⟨o, F19, R19, O19, rfl, M19, s19, hs19, ho19⟩
    replace hf18 := hf18.mono s19
    (tm_at "dl go")
    have M20 := M19.swap.join
    refine ⟨F19, R19, S18, p, f, x, y, l, ss, rfl, M19.fh, M19.oh0, M19.oh1, M19.fo0, M19.fo1, M19.swap.dj01, hs19, hf18, hx18.mono s19, hy18.mono s19, by omega, fun v F21 H21 R21 S21 l' ss' g21 dj21 hs21 hf21 dv hz' => ?_⟩
    have M21 := ((M20.go g21).part dj21).swap
    replace ho19 := ho19.mono g21.ff
    refine s_gLst M21 dv rfl fun xs aa => ?_
    obtain ⟨v1, r1, rfl, h1, aa⟩ := aa.cons_inv
    obtain ⟨v2, r2, rfl, h2, aa⟩ := aa.cons_inv
    obtain ⟨v3, r3, rfl, h3, aa⟩ := aa.cons_inv
    obtain rfl := aa.nil_inv
    obtain rfl := h1.of_bl
    (tm_at "dl go")
    refine f_mt hf21 M21.oh1 (by decide +kernel) (by decide +kernel) ?_
    (tm_at "dl go")
    refine content1 M21 hf21 (by omega) fun q F22 H22 M22 s22 => ?_
    obtain ⟨F23, M23, s23, d23⟩ := M22.data (DaA.ints (ns := apl l' ss'))
    have al := apl_len ss' l'
    (tm_at "dl go")
    refine after_call M23 (h2.mono (s22.trans s23)) (h3.mono (s22.trans s23)) (by omega) fun v F24 H24 M24 s24 d24 => ?_
    (tm_at "dl go")
    refine same_ints M24 (d23.mono s24) d24 (by omega) fun H25 M25 => ?_
    have s25 := s22.trans (s23.trans s24)
    replace hf21 := hf21.mono s25
    (tm_at "dl go")
    refine f_mt hf21 M25.oh1 (by decide +kernel) (by decide +kernel) ?_
    (tm_at "dl go")
    refine pending_call M25.fh M25.oh1 M25.fo1 hf21 ?_
    (tm_at "dl go")
    refine m_lenL M25 (h3.mono s25) ?_
    rw [List.length_map]
    (tm_at "dl go")
    refine same_call M25 (.int _) (.int _) (by trivial) fun H26 M26 => ?_
    (tm_at "dl go")
    refine f_mt hf21 M26.oh1 (by decide +kernel) (by decide +kernel) ?_
    (tm_at "dl go")
    refine content1 M26 hf21 (by omega) fun q F27 H27 M27 s27 => ?_
    (tm_at "dl go")
    refine m_app0 M27 (Nat.lt_of_le_of_lt (show _ ≤ 1000000 by rw [List.length_map]; omega) (by decide)) fun H28 M28 => ?_
    have M29 := M28.drop
    replace hf21 := hf21.mono s27
    have s27' := s25.trans s27
    (tm_at "dl go")
    have sT : Same F18 F27 := s19.trans (g21.ff.trans s27')
    refine next0 M29 (hs21.mono s27') (by decide) fun z F30 H30 R30 M30 s30 hs30 z0 z1 => ?_
    (tm_at "dl go")
    refine ite2 (fun h => ?_) (fun h => ?_)
    · (tm_at "dl go")
      replace hf21 := hf21.mono s30
      refine f_mt hf21 M30.oh1 (by decide +kernel) (by decide +kernel) ?_
      (tm_at "dl go")
      refine content1 M30 hf21 (by omega) fun q F31 H31 M31 s31 => ?_
      obtain ⟨F32, M32, s32, d32⟩ := M31.data (DaA.ints (ns := apl l' ss'))
      have s3 := (s27'.trans s30).trans (s31.trans s32)
      (tm_at "dl go")
      refine after_call M32 (h2.mono s3) (h3.mono s3) (by omega) fun v F33 H33 M33 s33 d33 => ?_
      (tm_at "dl go")
      refine same_ints M33 (d32.mono s33) d33 (by omega) fun H34 M34 => ?_
      (tm_at "dl go")
      refine Nx.mk (s18.trans (sT.trans (s30.trans (s31.trans (s32.trans s33))))) M34 ⟨l', ss', v2, v3, _, _, o, R30, S21, O19, rfl, rfl, hs30.mono (s31.trans (s32.trans s33)), hf21.mono (s31.trans (s32.trans s33)), ho19.mono (s3.trans s33), h2.mono (s3.trans s33), h3.mono (s3.trans s33), by omega⟩
    · (tm_at "dl go")
      refine Nx.mk (s18.trans (sT.trans s30)) M30 ⟨l', ss', v2, v3, _, _, o, R30, S21, O19, rfl, rfl, hs30, hf21.mono s30, ho19.mono (s27'.trans s30), h2.mono (s27'.trans s30), h3.mono (s27'.trans s30), by omega⟩
  · rintro σ F18 H18 own s18 M18 ⟨l, ss, x, y, u, v, o, R18, S18, O18, rfl, rfl, hs18, hf18, ho18, hx18, hy18, hz⟩
    have hz' : l.length + ss.length ≤ 10000 := by omega
    (tm_at "dl go")
    refine f_mt hf18 M18.oh1 (by decide +kernel) (by decide +kernel) ?_
    (tm_at "dl go")
    refine ⟨F18, S18, f, l, ss, 0, rfl, M18.fh, M18.oh1, M18.fo1, hf18, by omega, fun F19 H19 S19 g19 hf19 => ?_⟩
    have M19 := M18.go1 g19
    have ht19 := ht15.mono (s17.trans (s18.trans g19.ff))
    (tm_at "dl go")
    refine f_mt ht19 M19.oh3 (by decide +kernel) (by decide +kernel) ?_
    (tm_at "dl go")
    refine content3 M19 ht19 (by decide) fun q F20 H20 M20 s20 => ?_
    obtain ⟨F21, M21, s21, d21⟩ := M20.data (DaA.ints (ns := [1, 2, 3]))
    (tm_at "dl go")
    refine m_lz (by simp only [List.length_cons, List.length_nil]; decide) ?_
    refine m_lstF M21 (DaA.ints (ns := [1, 2, 3])) fun r F22 H22 M22 s22 d22 => ?_
    (tm_at "dl go")
    refine same_ints M22 (l := [1, 2, 3]) (d21.mono s22) d22 (by decide) fun H23 M23 => ?_
    have s23 := s20.trans (s21.trans s22)
    replace ht19 := ht19.mono s23
    replace hf19 := hf19.mono s23
    (tm_at "dl go")
    refine f_mt ht19 M23.oh3 (by decide +kernel) (by decide +kernel) ?_
    (tm_at "dl go")
    refine pending_call M23.fh M23.oh3 M23.fo3 ht19 ?_
    (tm_at "dl go")
    refine same_call M23 (.int _) (.int _) (by trivial) fun H24 M24 => ?_
    (tm_at "dl go")
    refine f_mt hf19 M24.oh1 (by decide +kernel) (by decide +kernel) ?_
    (tm_at "dl go")
    refine content1 M24 hf19 (by rw [List.take_zero]; show l.length + 0 ≤ 1000000; omega) fun q F25 H25 M25 s25 => ?_
    obtain ⟨F26, M26, s26, d26⟩ := M25.data (DaA.ints (ns := l))
    replace hf19 := hf19.mono (s25.trans s26)
    (tm_at "dl go")
    refine same_ints M26 d26 (hx18.mono (g19.ff.trans (s23.trans (s25.trans s26)))) (by omega) fun H27 M27 => ?_
    (tm_at "dl go")
    refine f_mt hf19 M27.oh1 (by decide +kernel) (by decide +kernel) ?_
    (tm_at "dl go")
    refine pending_call M27.fh M27.oh1 M27.fo1 hf19 ?_
    (tm_at "dl go")
    refine same_call M27 (.int _) (.int _) (by trivial) fun H28 M28 => ?_
    (tm_at "dl go")
    exact k _
end
end K10

namespace K10
open PySem PySem.Spec PyProof.Rows L2 DL
/-! the top -/
def fn : List He.DefD := [⟨("_applied", none), "_applied", "_applied", defArgs s__applied, defBody s__applied, defScope s__applied, [], []⟩, ⟨("File", some "__init__"), "__init__", "File.__init__", defArgs s_File___init__, defBody s_File___init__, defScope s_File___init__, [], []⟩, ⟨("File", some "write"), "write", "File.write", defArgs s_File_write, defBody s_File_write, defScope s_File_write, [], []⟩, ⟨("File", some "shorten"), "shorten", "File.shorten", defArgs s_File_shorten, defBody s_File_shorten, defScope s_File_shorten, [], []⟩, ⟨("File", some "flush"), "flush", "File.flush", defArgs s_File_flush, defBody s_File_flush, defScope s_File_flush, [], []⟩, ⟨("File", some "content"), "content", "File.content", defArgs s_File_content, defBody s_File_content, defScope s_File_content, [], []⟩, ⟨("File", some "pending"), "pending", "File.pending", defArgs s_File_pending, defBody s_File_pending, defScope s_File_pending, [], []⟩, ⟨("File", some "lose"), "lose", "File.lose", defArgs s_File_lose, defBody s_File_lose, defScope s_File_lose, [], []⟩, ⟨("_law_mix", none), "_law_mix", "_law_mix", defArgs s__law_mix, defBody s__law_mix, defScope s__law_mix, [], []⟩, ⟨("_law_draws", none), "_law_draws", "_law_draws", defArgs s__law_draws, defBody s__law_draws, defScope s__law_draws, [], []⟩, ⟨("_law_at", none), "_law_at", "_law_at", defArgs s__law_at, defBody s__law_at, defScope s__law_at, [], []⟩, ⟨("_law_is_integer", none), "_law_is_integer", "_law_is_integer", defArgs s__law_is_integer, defBody s__law_is_integer, defScope s__law_is_integer, [], []⟩, ⟨("_law_same", none), "_law_same", "_law_same", defArgs s__law_same, defBody s__law_same, defScope s__law_same, [], []⟩, ⟨("_law_next", none), "_law_next", "_law_next", defArgs s__law_next, defBody s__law_next, defScope s__law_next, [], []⟩, ⟨("_law_after", none), "_law_after", "_law_after", defArgs s__law_after, defBody s__law_after, defScope s__law_after, [], []⟩, ⟨("_law_deed", none), "_law_deed", "_law_deed", defArgs s__law_deed, defBody s__law_deed, defScope s__law_deed, [], []⟩, ⟨("law", none), "law", "law", defArgs s_law, defBody s_law, defScope s_law, [], []⟩]
def fa : List He.Fa := [.free "bool", .free "int", .free "isinstance", .free "len", .free "list", .free "min", .free "range", .free "str", .free "tuple", .cls "File", .noat "File" "_lasting", .noat "File" "_steps", .glo "_applied", .glo "File", .mkr "File", .meth "File" "write", .meth "File" "shorten", .meth "File" "flush", .meth "File" "content", .meth "File" "pending", .meth "File" "lose", .glo "_law_mix", .glo "_law_draws", .glo "_law_at", .glo "_law_is_integer", .glo "_law_same", .glo "_law_next", .glo "_law_after", .glo "_law_deed", .glo "law"]
abbrev RR : PySem.W.OpenRow := PySem.W.OpenLaw.row PySem.Challenge.rw_gridwhole_k10_files_keep_a_beginning
abbrev hk : PySem.W.Hook := He.hookD 5 fa fn
def ob (s : PySem.W.SharedT) : He.AlD := He.obsDG 5 fa fn (HandSHeadRun.getT s)
theorem ob_eq (s : PySem.W.SharedT) : ob s = hk.obs s.abs := He.obsDG_eq (HandSHeadRun.getT_eq s)
def nms : List Str := ["_applied", "File", "_law_mix", "_law_draws", "_law_at", "_law_is_integer", "_law_same", "_law_next", "_law_after", "_law_deed"]
theorem run (w : World) : HandSHeadRun.RunEq RR (PySem.W.view RR.prog [12]) hk ob 6000 nms w := by
  intro os
  kernel_rfl
theorem facts {K : PySem.W.Frag} {h : Heap} {mg : Str → Option Value} (X : K.In h) (G : h.Ns mainGlobals mg) (c : He.SaysD fa fn K) : Tx K mg where
  b_bool := He.free_ok X G (c.fact 0 (f := .free "bool") rfl)
  b_int := He.free_ok X G (c.fact 1 (f := .free "int") rfl)
  b_isinstance := He.free_ok X G (c.fact 2 (f := .free "isinstance") rfl)
  b_len := He.free_ok X G (c.fact 3 (f := .free "len") rfl)
  b_list := He.free_ok X G (c.fact 4 (f := .free "list") rfl)
  b_min := He.free_ok X G (c.fact 5 (f := .free "min") rfl)
  b_range := He.free_ok X G (c.fact 6 (f := .free "range") rfl)
  b_str := He.free_ok X G (c.fact 7 (f := .free "str") rfl)
  b_tuple := He.free_ok X G (c.fact 8 (f := .free "tuple") rfl)
  cl_File := He.cls_ok (c.fact 9 (f := .cls "File") rfl)
  na_File__lasting := He.noat_ok (c.fact 10 (f := .noat "File" "_lasting") rfl)
  na_File__steps := He.noat_ok (c.fact 11 (f := .noat "File" "_steps") rfl)
  d__applied := (let ⟨fd, F⟩ := c.def_ 0 (d := ⟨("_applied", none), "_applied", "_applied", defArgs s__applied, defBody s__applied, defScope s__applied, [], []⟩) rfl; ⟨_, fd, He.glo_ok X G (c.fact 12 (f := .glo "_applied") rfl), F⟩)
  i_File := (let ⟨fd, F⟩ := c.def_ 1 (d := ⟨("File", some "__init__"), "__init__", "File.__init__", defArgs s_File___init__, defBody s_File___init__, defScope s_File___init__, [], []⟩) rfl; ⟨_, fd, He.glo_ok X G (c.fact 13 (f := .glo "File") rfl), He.mkr_ok (c.fact 14 (f := .mkr "File") rfl), F⟩)
  m_File_write := (let ⟨fd, F⟩ := c.def_ 2 (d := ⟨("File", some "write"), "write", "File.write", defArgs s_File_write, defBody s_File_write, defScope s_File_write, [], []⟩) rfl; ⟨_, fd, He.meth_ok (c.fact 15 (f := .meth "File" "write") rfl), F⟩)
  m_File_shorten := (let ⟨fd, F⟩ := c.def_ 3 (d := ⟨("File", some "shorten"), "shorten", "File.shorten", defArgs s_File_shorten, defBody s_File_shorten, defScope s_File_shorten, [], []⟩) rfl; ⟨_, fd, He.meth_ok (c.fact 16 (f := .meth "File" "shorten") rfl), F⟩)
  m_File_flush := (let ⟨fd, F⟩ := c.def_ 4 (d := ⟨("File", some "flush"), "flush", "File.flush", defArgs s_File_flush, defBody s_File_flush, defScope s_File_flush, [], []⟩) rfl; ⟨_, fd, He.meth_ok (c.fact 17 (f := .meth "File" "flush") rfl), F⟩)
  m_File_content := (let ⟨fd, F⟩ := c.def_ 5 (d := ⟨("File", some "content"), "content", "File.content", defArgs s_File_content, defBody s_File_content, defScope s_File_content, [], []⟩) rfl; ⟨_, fd, He.meth_ok (c.fact 18 (f := .meth "File" "content") rfl), F⟩)
  m_File_pending := (let ⟨fd, F⟩ := c.def_ 6 (d := ⟨("File", some "pending"), "pending", "File.pending", defArgs s_File_pending, defBody s_File_pending, defScope s_File_pending, [], []⟩) rfl; ⟨_, fd, He.meth_ok (c.fact 19 (f := .meth "File" "pending") rfl), F⟩)
  m_File_lose := (let ⟨fd, F⟩ := c.def_ 7 (d := ⟨("File", some "lose"), "lose", "File.lose", defArgs s_File_lose, defBody s_File_lose, defScope s_File_lose, [], []⟩) rfl; ⟨_, fd, He.meth_ok (c.fact 20 (f := .meth "File" "lose") rfl), F⟩)
  d__law_mix := (let ⟨fd, F⟩ := c.def_ 8 (d := ⟨("_law_mix", none), "_law_mix", "_law_mix", defArgs s__law_mix, defBody s__law_mix, defScope s__law_mix, [], []⟩) rfl; ⟨_, fd, He.glo_ok X G (c.fact 21 (f := .glo "_law_mix") rfl), F⟩)
  d__law_draws := (let ⟨fd, F⟩ := c.def_ 9 (d := ⟨("_law_draws", none), "_law_draws", "_law_draws", defArgs s__law_draws, defBody s__law_draws, defScope s__law_draws, [], []⟩) rfl; ⟨_, fd, He.glo_ok X G (c.fact 22 (f := .glo "_law_draws") rfl), F⟩)
  d__law_at := (let ⟨fd, F⟩ := c.def_ 10 (d := ⟨("_law_at", none), "_law_at", "_law_at", defArgs s__law_at, defBody s__law_at, defScope s__law_at, [], []⟩) rfl; ⟨_, fd, He.glo_ok X G (c.fact 23 (f := .glo "_law_at") rfl), F⟩)
  d__law_is_integer := (let ⟨fd, F⟩ := c.def_ 11 (d := ⟨("_law_is_integer", none), "_law_is_integer", "_law_is_integer", defArgs s__law_is_integer, defBody s__law_is_integer, defScope s__law_is_integer, [], []⟩) rfl; ⟨_, fd, He.glo_ok X G (c.fact 24 (f := .glo "_law_is_integer") rfl), F⟩)
  d__law_same := (let ⟨fd, F⟩ := c.def_ 12 (d := ⟨("_law_same", none), "_law_same", "_law_same", defArgs s__law_same, defBody s__law_same, defScope s__law_same, [], []⟩) rfl; ⟨_, fd, He.glo_ok X G (c.fact 25 (f := .glo "_law_same") rfl), F⟩)
  d__law_next := (let ⟨fd, F⟩ := c.def_ 13 (d := ⟨("_law_next", none), "_law_next", "_law_next", defArgs s__law_next, defBody s__law_next, defScope s__law_next, [], []⟩) rfl; ⟨_, fd, He.glo_ok X G (c.fact 26 (f := .glo "_law_next") rfl), F⟩)
  d__law_after := (let ⟨fd, F⟩ := c.def_ 14 (d := ⟨("_law_after", none), "_law_after", "_law_after", defArgs s__law_after, defBody s__law_after, defScope s__law_after, [], []⟩) rfl; ⟨_, fd, He.glo_ok X G (c.fact 27 (f := .glo "_law_after") rfl), F⟩)
  d__law_deed := (let ⟨fd, F⟩ := c.def_ 15 (d := ⟨("_law_deed", none), "_law_deed", "_law_deed", defArgs s__law_deed, defBody s__law_deed, defScope s__law_deed, [], []⟩) rfl; ⟨_, fd, He.glo_ok X G (c.fact 28 (f := .glo "_law_deed") rfl), F⟩)
  d_law := (let ⟨fd, F⟩ := c.def_ 16 (d := ⟨("law", none), "law", "law", defArgs s_law, defBody s_law, defScope s_law, [], []⟩) rfl; ⟨_, fd, He.glo_ok X G (c.fact 29 (f := .glo "law") rfl), F⟩)
theorem lawF {P : Program} {w : World} {K : PySem.W.Frag} {h : Heap} {mg : Str → Option Value} {f : Addr} (X : K.In h) (G : h.Ns mainGlobals mg) (hfa : mg ("law" : Str) = some (.ref f)) (c : He.SaysD fa fn K) :
    ∃ fd : FuncData, (∀ (s : Shared) (v : Value), BindsTo s fd ⟨[v], []⟩ [("script", v)]) ∧ ∀ base : Heap, K.In base → base.Ns mainGlobals mg → FnOk P w K mg base CX0 61 f fd ["script"] (spLaw K) := by
  have T := facts X G c
  obtain ⟨f', fd, hm, F⟩ := T.d_law
  have e := hfa.symm.trans hm
  cases e
  have b := FunD.bindsA (ps := ["script"]) F bd_law
  exact ⟨fd, fun s v => b s [v] rfl, fun base _ _ => law_at T F⟩
end K10
open PySem PySem.W PySem.Calls PyProof.Rows
theorem PySem.Challenge.cw_gridwhole_k10_files_keep_a_beginning_holds : PySem.Challenge.rw_gridwhole_k10_files_keep_a_beginning.Holds := by
  w_on; o_law
  refine HandSHeadRun.head_any (r := OpenLaw.row PySem.Challenge.rw_gridwhole_k10_files_keep_a_beginning) (q := view (OpenLaw.row PySem.Challenge.rw_gridwhole_k10_files_keep_a_beginning).prog [12]) (H := K10.hk) (ob := K10.ob) (M := 6000) (loose := K10.nms) (d := HandSHeadRun.topDef (OpenLaw.row PySem.Challenge.rw_gridwhole_k10_files_keep_a_beginning).prog 12) (kwd := []) K10.ob_eq
    (by kernel_rfl) (fun s => by kernel_rfl) K10.run (by kernel_rfl) (by kernel_rfl) (by kernel_rfl) (by rfl) (by first | assumption | decide +kernel) (by decide +kernel) ⟨rfl, rfl, rfl, rfl, rfl, by decide +kernel⟩ ?hw ?hc
  case hw => w_witness2
  case hc =>
    refine L2.walk_ofE (l := PySem.Challenge.rw_gridwhole_k10_files_keep_a_beginning) (n := 63) (k := 61) (x := "script") (CX := L2.CX0) rfl (by decide) (by kernel_rfl) ⟨rfl, by decide, by decide⟩ ?F (fun _ _ _ _ z => z)
    intro w mg fa h Y G hmg0
    obtain ⟨K, KX, c⟩ := Y
    have hmg : mg ("law" : PySem.Str) = some (.ref fa) := by
      have e : (HandSHeadRun.topDef (OpenLaw.row PySem.Challenge.rw_gridwhole_k10_files_keep_a_beginning).prog 12).name = ("law" : PySem.Str) := by kernel_rfl
      rw [← e]
      exact hmg0
    obtain ⟨fd, hb, hF⟩ := K10.lawF (P := (PySem.Challenge.rw_gridwhole_k10_files_keep_a_beginning).prog) (w := w) KX G hmg c
    exact ⟨K, fd, K10.spLaw K, KX, hb, fun H a ns hl _ hS => ⟨a, ns, rfl, hS, hl, fun _ => rfl⟩, hF⟩
#print axioms PySem.Challenge.cw_gridwhole_k10_files_keep_a_beginning_holds
