import PyProof.Rows.All
import Wide.All
import OpenK.AllK
import Wide.FinOn
import KE.KStateDown
import HandS.ForMost
import HandS.ForExc
import HandS.Evl
import HandS.Walk
import HandS.Zip
import HandS.Head0
import HandS.Head1
import HandS.Head2
import HandS.HeadEnd
import HandS.HeadHook1
import HandS.HeadHook2
import HandS.HeadHook3
import HandS.HeadHook4
import HandS.HeadWalk
import HandS.Lambda
import HandS.IsInst
import HandS.Style
import HandS.Wide
import HandS.More
import HandS.Rev
import HandS.RevTup
import HandS.SortInts
import HandS.SortRule
import HandS.SortKw
import HandS.Deep
import HandS.CallSlots
import HandS.HotCalls
import HandS.ExcIs
import HandS.Flow
import HandS.TryOnly
import HandS.Conv
import HandS.Small
import PySem.Challenge.RW_likeshelf_k02_moved
set_option Elab.async false
set_option linter.all false
set_option maxRecDepth 100000
set_option maxHeartbeats 4000000
namespace Ls
open PySem PySem.Spec PyProof.Rows L2
/-! ### frozen parts of the heap, modes -/
structure Mo where
  M : Addr → Prop
  J : Hp → Prop
  dom : ∀ H b, J H → M b → ∃ o, H b = some o
  loc : ∀ H H', J H → (∀ b o, M b → H b = some o → H' b = some o) → J H'
/-- nothing changes -/
def m0 : Mo := ⟨fun _ => False, fun _ => True, fun _ _ _ h => h.elim, fun _ _ _ _ => trivial⟩
structure Wd (m : Mo) (F H : Hp) : Prop where
  s : Same F H
  n : ∀ b, m.M b → F b = none
  j : m.J H
structure Gr (m : Mo) (F H F' H' : Hp) : Prop where
  f : Same F F'
  s : Same F' H'
  h : ∀ b o, ¬ m.M b → H b = some o → H' b = some o
  n : ∀ b o, H b = some o → F b = none → F' b = none
  j : m.J H'
section
variable {m : Mo} {F F1 F2 H H1 H2 : Hp} {p b : Addr} {o : HO}
theorem Wd.nM (w : Wd m F H) (h : H p = none) : ¬ m.M p := fun q => by
  obtain ⟨o, e⟩ := m.dom H p w.j q
  rw [h] at e
  cases e
theorem wd0 (s : Same F H) : Wd m0 F H := ⟨s, fun _ h => h.elim, trivial⟩
theorem Gr.refl (w : Wd m F H) : Gr m F H F H := ⟨Same.refl F, w.s, fun _ _ _ h => h, fun _ _ _ h => h, w.j⟩
theorem Gr.dom (g : Gr m F H F1 H1) (w : Wd m F H) (e : H b = some o) : ∃ o', H1 b = some o' := by
  by_cases q : m.M b
  · exact m.dom H1 b g.j q
  · exact ⟨o, g.h b o q e⟩
theorem Gr.wd (g : Gr m F H F1 H1) (w : Wd m F H) : Wd m F1 H1 := ⟨g.s, fun b q => by
  obtain ⟨o, e⟩ := m.dom H b w.j q
  exact g.n b o e (w.n b q), g.j⟩
theorem Gr.trans (w : Wd m F H) (g : Gr m F H F1 H1) (g' : Gr m F1 H1 F2 H2) : Gr m F H F2 H2 :=
  ⟨g.f.trans g'.f, g'.s, fun b o q e => g'.h b o q (g.h b o q e), fun b o e z => by
    obtain ⟨o', e'⟩ := g.dom w e
    exact g'.n b o' e' (g.n b o e z), g'.j⟩
/-- with the first frozen part lessened -/
theorem Gr.same (g : Gr m F H F1 H1) (w : Wd m F H) (e : H1 p = none) : H p = none := by
  cases q : H p with
  | none => rfl
  | some o =>
    obtain ⟨o', z⟩ := g.dom w q
    rw [e] at z
    cases z
/-- a new object is laid, or one's own is written -/
theorem Gr.wr (w : Wd m F H) (g : Gr m F H F1 H1) (hp : H p = none) (fp : F1 p = none) : Gr m F H F1 (upd H1 p o) :=
  ⟨g.f, fun b u e => by rw [upd_ne (ne_of_none e fp)]; exact g.s b u e, fun b u q e => by rw [upd_ne (ne_of_none e hp)]; exact g.h b u q e, g.n,
    m.loc H1 _ g.j fun b u q e => by
      obtain ⟨o', z⟩ := m.dom H b w.j q
      rw [upd_ne (ne_of_none z hp)]
      exact e⟩
/-- one's own is frozen -/
theorem Gr.frz (w : Wd m F H) (g : Gr m F H F1 H1) (hp : H p = none) (fp : F1 p = none) (e : H1 p = some o) : Gr m F H (upd F1 p o) H1 :=
  ⟨fun b u z => by rw [upd_ne (ne_of_none (g.f b u z) fp)]; exact g.f b u z, fun b u z => by
    by_cases hb : b = p
    · subst hb
      rw [upd_same] at z
      cases z
      exact e
    · rw [upd_ne hb] at z
      exact g.s b u z, g.h, fun b u z q => by rw [upd_ne (ne_of_none z hp)]; exact g.n b u z q, g.j⟩
theorem Gr.new (w : Wd m F H) (g : Gr m F H F1 H1) (e : H1 p = none) : Gr m F H (upd F1 p o) (upd H1 p o) := by
  have hp := g.same w e
  have fp : F1 p = none := g.s.free e
  exact (g.wr w hp fp).frz w hp fp upd_same
theorem same_new {F : Hp} (e : F p = none) : Same F (upd F p o) := fun b u z => by rw [upd_ne (ne_of_none z e)]; exact z
/-- one's own object at p: new since H, not frozen -/
structure Lm (H F1 H1 : Hp) (p : Addr) (o : HO) : Prop where
  z : H p = none
  f : F1 p = none
  h : H1 p = some o
theorem Lm.gr (l : Lm H F1 H1 p o) (w : Wd m F H) (g : Gr m F1 H1 F2 H2) : Lm H F2 H2 p o := ⟨l.z, g.n p o l.h l.f, g.h p o (w.nM l.z) l.h⟩
theorem Lm.wr {q : Addr} {u : HO} (l : Lm H F1 H1 p o) (h : p ≠ q) : Lm H F1 (upd H1 q u) p o := ⟨l.z, l.f, by rw [upd_ne h]; exact l.h⟩
theorem Lm.set {u : HO} (l : Lm H F1 H1 p o) : Lm H F1 (upd H1 p u) p u := ⟨l.z, l.f, upd_same⟩
theorem Lm.new {u : HO} (w : Wd m F H) (g : Gr m F H F1 H1) (e : H1 p = none) : Lm H F1 (upd H1 p u) p u := ⟨g.same w e, g.s.free e, upd_same⟩
theorem Lm.ne {q : Addr} {u : HO} (l : Lm H F1 H1 p o) (e : F1 q = some u) : q ≠ p := ne_of_none e l.f
end
theorem Gr.pure {F H H2 : Hp} (w : Wd m0 F H) (s : Same H H2) : Gr m0 F H F H2 := ⟨Same.refl F, w.s.trans s, fun b o _ e => s b o e, fun _ _ _ h => h, trivial⟩
/-- a pure step in any mode -/
theorem Gr.up {m : Mo} {F H F1 H1 : Hp} (w : Wd m F H) (g : Gr m0 F H F1 H1) : Gr m F H F1 H1 :=
  ⟨g.f, g.s, fun b o _ e => g.h b o (fun z => z) e, g.n, m.loc H H1 w.j fun b o _ e => g.h b o (fun z => z) e⟩
/-! ### data -/
def kD : Key → PyData
  | .inl i => .int i
  | .inr x => .str x
mutual
/-- data at v, all lists and dicts tracked; tuples tracked or written -/
inductive Dt (K : PySem.W.Frag) (F : Hp) : V → PyData → Prop
  | non : Dt K F .non .none
  | bl (b : Bool) : Dt K F (.bl b) (.bool b)
  | int (i : Int) : Dt K F (.int i) (.int i)
  | str (x : Str) : Dt K F (.str x) (.str x)
  | lst {a : Addr} {xs : List V} {ds : List PyData} : F a = some (.lst xs) → DtAll K F xs ds → Dt K F (.ref a) (.list ds)
  | tup {a : Addr} {xs : List V} {ds : List PyData} : SqT K F a xs → DtAll K F xs ds → Dt K F (.ref a) (.tuple ds)
  | dic {a : Addr} {kvs : List (Key × V)} {ds : List (PyData × PyData)} : F a = some (.dK kvs) → DtK K F kvs ds → Dt K F (.ref a) (.dict ds)
inductive DtAll (K : PySem.W.Frag) (F : Hp) : List V → List PyData → Prop
  | nil : DtAll K F [] []
  | cons {v : V} {vs : List V} {d : PyData} {ds : List PyData} : Dt K F v d → DtAll K F vs ds → DtAll K F (v :: vs) (d :: ds)
inductive DtK (K : PySem.W.Frag) (F : Hp) : List (Key × V) → List (PyData × PyData) → Prop
  | nil : DtK K F [] []
  | cons {k : Key} {v : V} {kvs : List (Key × V)} {d : PyData} {ds : List (PyData × PyData)} : Dt K F v d → DtK K F kvs ds → DtK K F ((k, v) :: kvs) ((kD k, d) :: ds)
end
mutual
theorem Dt.up {K : PySem.W.Frag} {F F' : Hp} (s : Same F F') : ∀ {v : V} {d : PyData}, Dt K F v d → Dt K F' v d
  | _, _, .non => .non
  | _, _, .bl b => .bl b
  | _, _, .int i => .int i
  | _, _, .str x => .str x
  | _, _, .lst h a => .lst (s _ _ h) (DtAll.up s a)
  | _, _, .tup h a => .tup (Evl.ex_t s h) (DtAll.up s a)
  | _, _, .dic h a => .dic (s _ _ h) (DtK.up s a)
theorem DtAll.up {K : PySem.W.Frag} {F F' : Hp} (s : Same F F') : ∀ {vs : List V} {ds : List PyData}, DtAll K F vs ds → DtAll K F' vs ds
  | _, _, .nil => .nil
  | _, _, .cons h t => .cons (Dt.up s h) (DtAll.up s t)
theorem DtK.up {K : PySem.W.Frag} {F F' : Hp} (s : Same F F') : ∀ {vs : List (Key × V)} {ds : List (PyData × PyData)}, DtK K F vs ds → DtK K F' vs ds
  | _, _, .nil => .nil
  | _, _, .cons h t => .cons (Dt.up s h) (DtK.up s t)
end
/-! no dict within -/
mutual
def noDic : PyData → Bool
  | .list xs => noDics xs
  | .tuple xs => noDics xs
  | .dict _ => false
  | .none => true
  | .bool _ => true
  | .int _ => true
  | .str _ => true
def noDics : List PyData → Bool
  | [] => true
  | x :: xs => noDic x && noDics xs
end
mutual
theorem Dt.dp {K : PySem.W.Frag} {F : Hp} : ∀ {v : V} {d : PyData}, Dt K F v d → noDic d = true → Dp K F v d
  | _, _, .non, _ => .non
  | _, _, .bl b, _ => .bl b
  | _, _, .int i, _ => .int i
  | _, _, .str x, _ => .str x
  | _, _, .lst h a, q => .lst (.inl (.inl h)) (DtAll.dp a (by rw [noDic] at q; exact q))
  | _, _, .tup h a, q => .tup h (DtAll.dp a (by rw [noDic] at q; exact q))
  | _, _, .dic h a, q => by rw [noDic] at q; cases q
theorem DtAll.dp {K : PySem.W.Frag} {F : Hp} : ∀ {vs : List V} {ds : List PyData}, DtAll K F vs ds → noDics ds = true → DpAll K F vs ds
  | _, _, .nil, _ => .nil
  | _, _, .cons h t, q => by
    rw [noDics] at q
    obtain ⟨q1, q2⟩ := Bool.and_eq_true_iff.mp q
    exact .cons (Dt.dp h q1) (DtAll.dp t q2)
end
theorem dtAll_len {K : PySem.W.Frag} {F : Hp} : ∀ {vs : List V} {ds : List PyData}, DtAll K F vs ds → vs.length = ds.length
  | _, _, .nil => rfl
  | _, _, .cons _ t => congrArg (· + 1) (dtAll_len t)
theorem dtAll_get {K : PySem.W.Frag} {F : Hp} : ∀ {vs : List V} {ds : List PyData} {i : Nat} {d : PyData}, DtAll K F vs ds → ds[i]? = some d → ∃ v, vs[i]? = some v ∧ Dt K F v d
  | _, _, _, _, .nil, e => by simp at e
  | _, _, 0, _, .cons h _, e => by
    simp at e
    subst e
    exact ⟨_, rfl, h⟩
  | _, _, i + 1, _, .cons _ t, e => by
    obtain ⟨v, h1, h2⟩ := dtAll_get (i := i) t (by simpa using e)
    exact ⟨v, by simpa using h1, h2⟩
theorem dtAll_at {K : PySem.W.Frag} {F : Hp} : ∀ {vs : List V} {ds : List PyData} {i : Nat} {v : V}, DtAll K F vs ds → vs[i]? = some v → ∃ d, ds[i]? = some d ∧ Dt K F v d
  | _, _, _, _, .nil, e => by simp at e
  | _, _, 0, _, .cons h _, e => by
    simp at e
    subst e
    exact ⟨_, rfl, h⟩
  | _, _, i + 1, _, .cons _ t, e => by
    obtain ⟨v, h1, h2⟩ := dtAll_at (i := i) t (by simpa using e)
    exact ⟨v, by simpa using h1, h2⟩
theorem dtAll_app {K : PySem.W.Frag} {F : Hp} : ∀ {vs ws : List V} {ds es : List PyData}, DtAll K F vs ds → DtAll K F ws es → DtAll K F (vs ++ ws) (ds ++ es)
  | _, _, _, _, .nil, h => h
  | _, _, _, _, .cons a t, h => .cons a (dtAll_app t h)
theorem dtAll_take {K : PySem.W.Frag} {F : Hp} : ∀ (n : Nat) {vs : List V} {ds : List PyData}, DtAll K F vs ds → DtAll K F (vs.take n) (ds.take n)
  | 0, _, _, _ => .nil
  | _ + 1, _, _, .nil => .nil
  | n + 1, _, _, .cons a t => .cons a (dtAll_take n t)
theorem dtAll_drop {K : PySem.W.Frag} {F : Hp} : ∀ (n : Nat) {vs : List V} {ds : List PyData}, DtAll K F vs ds → DtAll K F (vs.drop n) (ds.drop n)
  | 0, _, _, h => h
  | _ + 1, _, _, .nil => .nil
  | n + 1, _, _, .cons _ t => dtAll_drop n t
theorem dtAll_int {K : PySem.W.Frag} {F : Hp} : ∀ ns : List Int, DtAll K F (ns.map V.int) (ns.map PyData.int)
  | [] => .nil
  | n :: r => .cons (.int n) (dtAll_int r)
theorem dt_int_inv {K : PySem.W.Frag} {F : Hp} {v : V} {i : Int} (h : Dt K F v (.int i)) : v = .int i := by cases h; rfl
theorem dt_str_inv {K : PySem.W.Frag} {F : Hp} {v : V} {i : Str} (h : Dt K F v (.str i)) : v = .str i := by cases h; rfl
theorem dtAll_int_inv {K : PySem.W.Frag} {F : Hp} : ∀ {vs : List V} {ns : List Int}, DtAll K F vs (ns.map PyData.int) → vs = ns.map V.int
  | _, [], h => by cases h; rfl
  | _, n :: r, h => by
    cases h with
    | cons a t =>
      rw [dt_int_inv a, dtAll_int_inv t]
      rfl
/-- a list of such data at v -/
theorem dt_lst_inv {K : PySem.W.Frag} {F : Hp} {v : V} {ds : List PyData} (h : Dt K F v (.list ds)) : ∃ a xs, v = .ref a ∧ F a = some (.lst xs) ∧ DtAll K F xs ds := by
  cases h with
  | lst a b => exact ⟨_, _, rfl, a, b⟩
theorem dt_tup_inv {K : PySem.W.Frag} {F : Hp} {v : V} {ds : List PyData} (h : Dt K F v (.tuple ds)) : ∃ a xs, v = .ref a ∧ SqT K F a xs ∧ DtAll K F xs ds := by
  cases h with
  | tup a b => exact ⟨_, _, rfl, a, b⟩
/-- rows of ints -/
def dRow (r : List Int) : PyData := .list (r.map PyData.int)
def dMat (m : List (List Int)) : PyData := .list (m.map dRow)
theorem dt_row {K : PySem.W.Frag} {F : Hp} {v : V} {r : List Int} (h : Dt K F v (dRow r)) : ∃ a, v = .ref a ∧ F a = some (.lst (r.map V.int)) := by
  obtain ⟨a, xs, e, h1, h2⟩ := dt_lst_inv h
  rw [dtAll_int_inv h2] at h1
  exact ⟨a, e, h1⟩
theorem dt_row_mk {K : PySem.W.Frag} {F : Hp} {a : Addr} {r : List Int} (h : F a = some (.lst (r.map V.int))) : Dt K F (.ref a) (dRow r) := .lst h (dtAll_int r)
/-- a matrix at v: its address, its rows' values -/
theorem dt_mat {K : PySem.W.Frag} {F : Hp} {v : V} {m : List (List Int)} (h : Dt K F v (dMat m)) : ∃ a xs, v = .ref a ∧ F a = some (.lst xs) ∧ xs.length = m.length ∧ ∀ (i : Nat) (r : List Int), m[i]? = some r → ∃ b, xs[i]? = some (.ref b) ∧ F b = some (.lst (r.map V.int)) := by
  obtain ⟨a, xs, e, h1, h2⟩ := dt_lst_inv h
  refine ⟨a, xs, e, h1, by rw [dtAll_len h2, List.length_map], fun i r q => ?_⟩
  obtain ⟨v, g1, g2⟩ := dtAll_get h2 (i := i) (d := dRow r) (by rw [List.getElem?_map, q]; rfl)
  obtain ⟨b, rfl, g3⟩ := dt_row g2
  exact ⟨b, g1, g3⟩
end Ls

namespace Ls
open PySem PySem.Spec PyProof.Rows L2
/-! ### what a reading gives, the frozen part told -/
/-- the value and the frozen part behind -/
def Ev (m : Mo) (te : TE) (σ : L2.St) (F : Hp) (R : V → Hp → Prop) : Prop :=
  ∀ F1 H, Same F F1 → Wd m F1 H → ∀ Q : VK, (∀ v F2 H2, Gr m F1 H F2 H2 → R v F2 → Q v H2) → te σ H Q
theorem paired_mono {A B : Type} {R S : A → B → Prop} : ∀ {xs : List A} {ys : List B}, Paired R xs ys → (∀ a b, R a b → S a b) → Paired S xs ys
  | _, _, .nil, _ => .nil
  | _, _, .cons h t, f => .cons (f _ _ h) (paired_mono t f)
theorem paired_app {A B : Type} {R : A → B → Prop} : ∀ {xs xs2 : List A} {ys ys2 : List B}, Paired R xs ys → Paired R xs2 ys2 → Paired R (xs ++ xs2) (ys ++ ys2)
  | _, _, _, _, .nil, h => h
  | _, _, _, _, .cons a t, h => .cons a (paired_app t h)
theorem paired_len {A B : Type} {R : A → B → Prop} : ∀ {xs : List A} {ys : List B}, Paired R xs ys → xs.length = ys.length
  | _, _, .nil => rfl
  | _, _, .cons _ t => congrArg (· + 1) (paired_len t)
theorem take_more {A : Type} : ∀ {l : List A} {i : Nat} {x : A}, l[i]? = some x → l.take (i + 1) = l.take i ++ [x]
  | [], i, x, h => by simp at h
  | a :: l, 0, x, h => by
    have e : a = x := Option.some.inj h
    subst e
    rfl
  | a :: l, i + 1, x, h => by
    have ih := take_more (l := l) (i := i) (x := x) h
    show a :: l.take (i + 1) = a :: l.take i ++ [x]
    rw [ih]
    rfl
theorem size_lt {n : Nat} (h : n ≤ 1000000) : n < sizeLine := Nat.lt_of_le_of_lt h (by decide)
theorem size_le {n : Nat} (h : n ≤ 1000000) : n ≤ sizeLine := Nat.le_trans h (by decide)
/-- behind what is walked: the rest of a comprehension's reading -/
def LcIn (J : It) (g : TG) (tt : TT) (te : TE) (vs : List Nat) (σ : L2.St) (H1 : Hp) (Q : VK) : Prop := ∀ D, H1 D = none → ∃ W : Nat → Nat → Hp → Prop, (∃ m, W 0 m (upd H1 D (.lst []))) ∧ ∀ i m H, W i m H →
  (J.stop i H ∧ Q (.ref D) H) ∨ (J.go i H ∧ ∃ Nx : Hp → Prop, (∀ H', Nx H' → ∃ m', m' < m ∧ W (i + 1) m' H') ∧ ∀ x H', J.yld i H x H' → g x (wipe σ vs) H' fun σ2 H2 => wipe σ2 vs = wipe σ vs ∧ tt σ2 H2 fun b H3 =>
    if b = true then te σ2 H3 fun y H4 => ∃ acc, H4 D = some (.lst acc) ∧ acc.length < sizeLine ∧ Nx (upd H4 D (.lst (acc ++ [y]))) else Nx H3)
theorem lc_of {wi : TI} {g : TG} {tt : TT} {te : TE} {vs : List Nat} {σ : L2.St} {H : Hp} {Q : VK} (h : wi σ H fun J H1 => LcIn J g tt te vs σ H1 Q) : tLc wi g tt te vs σ H Q := h
/-- .. of a for's -/
def ForIn (J : It) (g : TG) (tb : TS) (D : Ends) (σ : L2.St) (H1 : Hp) : Prop := ∃ W : Nat → Nat → L2.St → Hp → Prop, (∃ m, W 0 m σ H1) ∧ ∀ i m σ H, W i m σ H →
  (J.stop i H ∧ D.nx σ H) ∨ (J.go i H ∧ ∃ N : L2.St → Hp → Prop, (∀ σ' H', N σ' H' → ∃ m', m' < m ∧ W (i + 1) m' σ' H') ∧ ∀ x H', J.yld i H x H' → g x σ H' fun σ2 H2 => tb { D with nx := N, ct := N, bk := D.nx } σ2 H2)
theorem for_of {wi : TI} {g : TG} {tb : TS} {D : Ends} {σ : L2.St} {H : Hp} (h : wi σ H fun J H1 => ForIn J g tb D σ H1) : tFor wi g tb D σ H := h
theorem forin_list {K : PySem.W.Frag} {a : Addr} {xs : List V} {g : TG} {tb : TS} {D : Ends} {σ : L2.St} {H : Hp} (Pv : Nat → L2.St → Hp → Prop) (h0 : Pv 0 σ H) (hl : ∀ i σ H, i ≤ xs.length → Pv i σ H → SqL K H a xs)
    (hs : ∀ i x σ H, xs[i]? = some x → Pv i σ H → g x σ H fun σ2 H2 => tb { D with nx := Pv (i + 1), ct := Pv (i + 1), bk := D.nx } σ2 H2) (hd : ∀ σ H, Pv xs.length σ H → D.nx σ H) : ForIn (Itl K a) g tb D σ H := for_list Pv h0 hl hs hd
theorem forin_tup {K : PySem.W.Frag} {a : Addr} {xs : List V} {g : TG} {tb : TS} {D : Ends} {σ : L2.St} {H : Hp} (Pv : Nat → L2.St → Hp → Prop) (h0 : Pv 0 σ H) (hl : ∀ i σ H, i ≤ xs.length → Pv i σ H → SqT K H a xs)
    (hs : ∀ i x σ H, xs[i]? = some x → Pv i σ H → g x σ H fun σ2 H2 => tb { D with nx := Pv (i + 1), ct := Pv (i + 1), bk := D.nx } σ2 H2) (hd : ∀ σ H, Pv xs.length σ H → D.nx σ H) : ForIn (Itt K a) g tb D σ H := for_tup Pv h0 hl hs hd
theorem forin_range {lo : Int} {n : Nat} {g : TG} {tb : TS} {D : Ends} {σ : L2.St} {H : Hp} (Pv : Nat → L2.St → Hp → Prop) (h0 : Pv 0 σ H)
    (hs : ∀ i σ H, i < n → Pv i σ H → g (.int (lo + i)) σ H fun σ2 H2 => tb { D with nx := Pv (i + 1), ct := Pv (i + 1), bk := D.nx } σ2 H2) (hd : ∀ σ H, Pv n σ H → D.nx σ H) : ForIn (Itr lo n) g tb D σ H := for_range Pv h0 hs hd
/-- a comprehension, whatever is walked -/
theorem comp_core {A : Type} {m : Mo} {J : It} {G : Hp → Prop} {Y : Nat → Hp → V → Hp → Prop} {g : TG} {tt : TT} {te : TE} {vs : List Nat} {σ : L2.St} {F H : Hp} {Q : VK}
    (wd : Wd m F H) (its : List A) (w : Walk J its.length G Y) (hG : ∀ F' H', Gr m F H F' H' → G H') (p : A → Bool) (R : A → V → Hp → Prop)
    (mono : ∀ a v F1 F2, Same F1 F2 → R a v F1 → R a v F2) (hz : its.length ≤ 1000000)
    (turn : ∀ i a x F1 H1 H2, its[i]? = some a → Gr m F H F1 H1 → Y i H1 x H2 → ∀ (Q1 : VK) (Qn : Hp → Prop), (p a = true → ∀ v F2 H2, Gr m F1 H1 F2 H2 → R a v F2 → Q1 v H2) → (p a = false → ∀ F2 H2, Gr m F1 H1 F2 H2 → Qn H2) →
      g x (wipe σ vs) H2 fun σ2 H3 => wipe σ2 vs = wipe σ vs ∧ tt σ2 H3 fun b H4 => if b = true then te σ2 H4 Q1 else Qn H4)
    (fin : ∀ D ys F2 H2, H D = none → Gr m F H F2 H2 → F2 D = some (.lst ys) → Paired (fun a y => R a y F2) (its.filter p) ys → Q (.ref D) H2) :
    LcIn J g tt te vs σ H Q := by
  intro D hD
  refine lc_it w (Qd := fun H' => Q (.ref D) H') (fun i H' => ∃ F' ys, Gr m F H F' H' ∧ Lm H F' H' D (.lst ys) ∧ Paired (fun a y => R a y F') ((its.take i).filter p) ys) ?_ ?_ ?_ ?_
  · exact ⟨F, [], (Gr.refl wd).wr wd hD (wd.s.free hD), Lm.new wd (Gr.refl wd) hD, .nil⟩
  · rintro i H' _ ⟨F', ys, gr, _, _⟩
    exact hG F' H' gr
  · rintro i x H1 H2 hi ⟨F1, ys, gr, lm, pr⟩ hy
    have hit : its[i]? = some its[i] := List.getElem?_eq_getElem hi
    have hlen : ys.length ≤ i := by
      rw [← paired_len pr]
      exact Nat.le_trans (List.length_filter_le _ _) (by rw [List.length_take]; exact Nat.min_le_left _ _)
    refine turn i its[i] x F1 H1 H2 hit gr hy _ _ (fun hp v F2 H2 g2 r2 => ?_) (fun hp F2 H2 g2 => ?_)
    · have lm2 := lm.gr wd g2
      refine ⟨ys, lm2.h, size_lt (by omega), F2, ys ++ [v], (gr.trans wd g2).wr wd lm2.z lm2.f, lm2.set, ?_⟩
      rw [take_more hit, List.filter_append]
      refine paired_app (paired_mono pr fun a b h => mono a b _ _ g2.f h) ?_
      have e : [its[i]].filter p = [its[i]] := by simp [hp]
      rw [e]
      exact .cons r2 .nil
    · refine ⟨F2, ys, gr.trans wd g2, lm.gr wd g2, ?_⟩
      rw [take_more hit, List.filter_append]
      have e : [its[i]].filter p = [] := by simp [hp]
      rw [e, List.append_nil]
      exact paired_mono pr fun a b h => mono a b _ _ g2.f h
  · rintro H' ⟨F', ys, gr, lm, pr⟩
    rw [List.take_length] at pr
    refine fin D ys (upd F' D (.lst ys)) H' hD (gr.frz wd lm.z lm.f lm.h) upd_same ?_
    exact paired_mono pr fun a b h => mono a b _ _ (same_new lm.f) h
theorem filter_true {A : Type} (l : List A) : l.filter (fun _ => true) = l := by
  induction l with
  | nil => rfl
  | cons a r ih => simp [List.filter]
/-- [.. for x in range(..)], no test, one name -/
theorem comp_range {m : Mo} {te : TE} {k : Nat} {vs : List Nat} {σ : L2.St} {F H : Hp} {Q : VK} {lo : Int} {n : Nat} (wd : Wd m F H) (hn : n ≤ 1000000) (R : Nat → V → Hp → Prop)
    (mono : ∀ a v F1 F2, Same F1 F2 → R a v F1 → R a v F2) (hw : ∀ x, wipe ((wipe σ vs).set k (some x)) vs = wipe σ vs)
    (el : ∀ i F1 H1, i < n → Gr m F H F1 H1 → ∀ Q1 : VK, (∀ v F2 H2, Gr m F1 H1 F2 H2 → R i v F2 → Q1 v H2) → te ((wipe σ vs).set k (some (.int (lo + i)))) H1 Q1)
    (fin : ∀ D ys F2 H2, H D = none → Gr m F H F2 H2 → F2 D = some (.lst ys) → Paired (fun a y => R a y F2) (List.range n) ys → Q (.ref D) H2) :
    LcIn (Itr lo n) (gName k) tYes te vs σ H Q := by
  refine comp_core (A := Nat) (G := fun _ => True) (Y := YFn fun i => .int (lo + i)) wd (List.range n) (by rw [List.length_range]; exact walk_range) (fun _ _ _ => trivial) (fun _ => true) R mono (by rw [List.length_range]; exact hn) ?_ ?_
  · rintro i a x F1 H1 H2 hi gr ⟨rfl, rfl⟩ Q1 Qn k1 _
    have hl : i < n := by
      have := (List.getElem?_eq_some_iff.mp hi).1
      rwa [List.length_range] at this
    have ea : a = i := by
      rw [List.getElem?_range hl] at hi
      exact (Option.some.inj hi).symm
    subst ea
    exact ⟨hw _, iteT (B := Qn H2) (el a F1 _ hl gr Q1 (k1 rfl))⟩
  · intro D ys F2 H2 hD g e pr
    rw [filter_true] at pr
    exact fin D ys F2 H2 hD g e pr
/-- [.. for x in a list], no test, one name; the items told by data of their own -/
theorem comp_list {A : Type} {m : Mo} {K : PySem.W.Frag} {te : TE} {k : Nat} {vs : List Nat} {σ : L2.St} {F H : Hp} {Q : VK} {a : Addr} {xs : List V} (wd : Wd m F H) (its : List A) (hl : its.length = xs.length) (hS : SqL K F a xs) (hn : xs.length ≤ 1000000) (R : A → V → Hp → Prop)
    (mono : ∀ a v F1 F2, Same F1 F2 → R a v F1 → R a v F2) (hw : ∀ x, wipe ((wipe σ vs).set k (some x)) vs = wipe σ vs)
    (el : ∀ (i : Nat) (b : A) (x : V) (F1 H1 : Hp), its[i]? = some b → xs[i]? = some x → Gr m F H F1 H1 → ∀ Q1 : VK, (∀ v F2 H2, Gr m F1 H1 F2 H2 → R b v F2 → Q1 v H2) → te ((wipe σ vs).set k (some x)) H1 Q1)
    (fin : ∀ D ys F2 H2, H D = none → Gr m F H F2 H2 → F2 D = some (.lst ys) → Paired (fun a y => R a y F2) its ys → Q (.ref D) H2) :
    LcIn (Itl K a) (gName k) tYes te vs σ H Q := by
  refine comp_core (A := A) (G := fun H => SqL K H a xs) (Y := YAt xs) wd its (by rw [hl]; exact walk_list) (fun F' H' g => g.s.seq (g.f.seq hS)) (fun _ => true) R mono (by rw [hl]; exact hn) ?_ ?_
  · rintro i b x F1 H1 H2 hi gr ⟨rfl, hx⟩ Q1 Qn k1 _
    exact ⟨hw _, iteT (B := Qn H2) (el i b x F1 _ hi hx gr Q1 (k1 rfl))⟩
  · intro D ys F2 H2 hD g e pr
    rw [filter_true] at pr
    exact fin D ys F2 H2 hD g e pr
/-- pairs to data -/
theorem paired_dt {K : PySem.W.Frag} {F : Hp} {A : Type} {f : A → PyData} : ∀ {its : List A} {ys : List V}, Paired (fun a y => Dt K F y (f a)) its ys → DtAll K F ys (its.map f)
  | _, _, .nil => .nil
  | _, _, .cons h t => .cons h (paired_dt t)
theorem paired_eq {A B : Type} {f : A → B} : ∀ {its : List A} {ys : List B}, Paired (fun a y => y = f a) its ys → ys = its.map f
  | _, _, .nil => rfl
  | _, _, .cons h t => by rw [h, paired_eq t]; rfl
/-- some data of a kind -/
theorem paired_ex {K : PySem.W.Frag} {F : Hp} {A D : Type} {f : D → PyData} {P : A → D → Prop} : ∀ {its : List A} {ys : List V}, Paired (fun a y => ∃ d, P a d ∧ Dt K F y (f d)) its ys → ∃ ds, Paired P its ds ∧ DtAll K F ys (ds.map f)
  | _, _, .nil => ⟨[], .nil, .nil⟩
  | _, _, .cons ⟨d, h1, h2⟩ t => by
    obtain ⟨ds, g1, g2⟩ := paired_ex t
    exact ⟨d :: ds, .cons h1 g1, .cons h2 g2⟩
end Ls
namespace Ls
open PySem PySem.Spec PyProof.Rows L2
/-- [.. for x in a list if ..], one name -/
theorem comp_listF {A : Type} {m : Mo} {K : PySem.W.Frag} {tt : TT} {te : TE} {k : Nat} {vs : List Nat} {σ : L2.St} {F H : Hp} {Q : VK} {a : Addr} {xs : List V} (wd : Wd m F H) (its : List A) (hl : its.length = xs.length) (hS : SqL K F a xs) (hn : xs.length ≤ 1000000) (p : A → Bool) (R : A → V → Hp → Prop)
    (mono : ∀ a v F1 F2, Same F1 F2 → R a v F1 → R a v F2) (hw : ∀ x, wipe ((wipe σ vs).set k (some x)) vs = wipe σ vs)
    (el : ∀ (i : Nat) (b : A) (x : V) (F1 H1 : Hp), its[i]? = some b → xs[i]? = some x → Gr m F H F1 H1 → ∀ (Q1 : VK) (Qn : Hp → Prop), (p b = true → ∀ v F2 H2, Gr m F1 H1 F2 H2 → R b v F2 → Q1 v H2) → (p b = false → ∀ F2 H2, Gr m F1 H1 F2 H2 → Qn H2) →
      tt ((wipe σ vs).set k (some x)) H1 fun b H4 => if b = true then te ((wipe σ vs).set k (some x)) H4 Q1 else Qn H4)
    (fin : ∀ D ys F2 H2, H D = none → Gr m F H F2 H2 → F2 D = some (.lst ys) → Paired (fun a y => R a y F2) (its.filter p) ys → Q (.ref D) H2) :
    LcIn (Itl K a) (gName k) tt te vs σ H Q := by
  refine comp_core (A := A) (G := fun H => SqL K H a xs) (Y := YAt xs) wd its (by rw [hl]; exact walk_list) (fun F' H' g => g.s.seq (g.f.seq hS)) p R mono (by rw [hl]; exact hn) ?_ fin
  rintro i b x F1 H1 H2 hi gr ⟨rfl, hx⟩ Q1 Qn k1 k2
  exact ⟨hw _, el i b x F1 _ hi hx gr Q1 Qn k1 k2⟩
end Ls
namespace Ls
open PySem PySem.Spec PyProof.Rows L2
theorem paired_all {A B : Type} {P : B → Prop} : ∀ {its : List A} {ys : List B}, Paired (fun _ y => P y) its ys → ∀ y ∈ ys, P y
  | _, _, .nil, _, h => by cases h
  | _, _, .cons a t, y, h => by
    rcases List.mem_cons.mp h with rfl | h
    · exact a
    · exact paired_all t y h
theorem paired_vals {A : Type} {P : Int → Prop} : ∀ {its : List A} {ys : List V}, Paired (fun _ y => ∃ c : Int, y = .int c ∧ P c) its ys → ∃ r : List Int, ys = r.map V.int ∧ r.length = its.length ∧ ∀ c ∈ r, P c
  | _, _, .nil => ⟨[], rfl, rfl, fun _ h => by cases h⟩
  | _, _, .cons ⟨c, e, h⟩ t => by
    obtain ⟨r, e1, e2, e3⟩ := paired_vals t
    exact ⟨c :: r, by rw [e, e1]; rfl, congrArg (· + 1) e2, fun x hx => by
      rcases List.mem_cons.mp hx with rfl | hx
      · exact h
      · exact e3 x hx⟩
end Ls

namespace Ls
open PySem PySem.Spec PyProof.Rows L2
/-! ### a def by its name -/
def Has (P : Program) (w : World) (K : PySem.W.Frag) (mg : Str → Option Value) (base : Heap) (k : Nat) (x : Str) (ps : List Str) (sp : Sp) : Prop :=
  ∃ f fd, FnOk P w K mg base (L2.CX P w) k f fd ps sp ∧ mg x = some (.ref f) ∧ PySem.W.keepIn K (.ref f) = true ∧ Binds K fd ps []
/-- a method of the class at C -/
def HasM (P : Program) (w : World) (K : PySem.W.Frag) (mg : Str → Option Value) (base : Heap) (k : Nat) (C : Addr) (x : Str) (ps : List Str) (sp : Sp) : Prop :=
  ∃ f fd, FnOk P w K mg base (L2.CX P w) k f fd ps sp ∧ Meth K C x f ∧ Binds K fd ps []
/-- a class's maker -/
def HasI (P : Program) (w : World) (K : PySem.W.Frag) (mg : Str → Option Value) (base : Heap) (k : Nat) (C : Addr) (x : Str) (ps : List Str) (sp : Sp) : Prop :=
  ∃ f fd, FnOk P w K mg base (L2.CX P w) k f fd ps sp ∧ mg x = some (.ref C) ∧ Mk K C f ∧ Binds K fd ps []
section
variable {P : Program} {w : World} {K : PySem.W.Frag} {mg : Str → Option Value} {base : Heap} {k j : Nat} {C : Addr} {x : Str} {ps : List Str} {sp : Sp}
theorem Has.mono (h : Has P w K mg base k x ps sp) (q : k ≤ j) : Has P w K mg base j x ps sp := by
  obtain ⟨f, fd, a, b⟩ := h
  exact ⟨f, fd, a.mono q, b⟩
theorem HasM.mono (h : HasM P w K mg base k C x ps sp) (q : k ≤ j) : HasM P w K mg base j C x ps sp := by
  obtain ⟨f, fd, a, b⟩ := h
  exact ⟨f, fd, a.mono q, b⟩
theorem HasI.mono (h : HasI P w K mg base k C x ps sp) (q : k ≤ j) : HasI P w K mg base j C x ps sp := by
  obtain ⟨f, fd, a, b⟩ := h
  exact ⟨f, fd, a.mono q, b⟩
end
section
variable {X : Cx} {k : Nat} {C : Addr} {ps : List Str} {sp : Sp} {x m : Str} {p pos apos : Pos} {e o : Expr} {es : List Expr} {ta : TE} {t : TA} {W : WX}
theorem pe_fn (G : Has X.prog X.w X.K X.mg X.base k x ps sp) (hr : Room k X.A) (hg : Gl X x) (ha : PA X (e :: es) t) (hdb : (x == ("__debug__" : Str)) = false := by decide)
    (he : starEach (e :: es) X.env = (false, eval e X.env) :: starEach es X.env := by rfl) (hpl : (backTo pos (starEach es X.env)).any (·.1) = false := by rfl) : PE X (.Call (.Name x p) (e :: es) [] pos) (tCall sp [] E0 t) := by
  obtain ⟨f, fd, F, hm, hk, hb⟩ := G
  exact pe_call F hr hg hm hk hb .nil passL ha hdb he hpl
theorem pe_fnX (G : Has X.prog X.w X.K X.mg X.base k x ps sp) (hr : Room k X.A) (hg : Gl X x) (tk : Takes X W) (ha : PA X (e :: es) t) (hdb : (x == ("__debug__" : Str)) = false := by decide)
    (he : starEach (e :: es) X.env = (false, eval e X.env) :: starEach es X.env := by rfl) (hpl : (backTo pos (starEach es X.env)).any (·.1) = false := by rfl) : PE X (.Call (.Name x p) (e :: es) [] pos) (tCallS sp (WE W) t) := by
  obtain ⟨f, fd, F, hm, hk, hb⟩ := G
  exact pe_callS F hr hg hm hk hb (fun σ => passAt tk σ) ha hdb he hpl
theorem pe_me {pl : Sem Bool} (he : PE X o ta) (c : Cls X.K C) (G : HasM X.prog X.w X.K X.mg X.base k C m ps sp) (hr : Room k X.A) (ha : PA X (e :: es) t)
    (hst : starEach (e :: es) X.env = (false, eval e X.env) :: starEach es X.env := by rfl) (hpl : (backTo pos (starEach es X.env)).any (·.1) = false := by rfl)
    (ht : eval (.Call (.Attribute o m apos) (e :: es) [] pos) X.env = (do
      let ov ← eval o X.env
      standAt apos.atName
      let (f, first) ← holding [ov] (getMethod ov m pl)
      callWith pos f first (backTo pos (starEach (e :: es) X.env)) (backToKw pos (keywordEach [] X.env))) := by rfl) :
    PE X (.Call (.Attribute o m apos) (e :: es) [] pos) (tMeth C m sp [] E0 ta t) := by
  obtain ⟨f, fd, F, hm, hb⟩ := G
  exact pe_meth he c hm F hr hb .nil passL ha hst hpl ht
theorem pe_me0 {pl : Sem Bool} (he : PE X o ta) (c : Cls X.K C) (G : HasM X.prog X.w X.K X.mg X.base k C m ps sp) (hr : Room k X.A)
    (ht : eval (.Call (.Attribute o m apos) [] [] pos) X.env = (do
      let ov ← eval o X.env
      standAt apos.atName
      let (f, first) ← holding [ov] (getMethod ov m pl)
      callWith pos f first (backTo pos (starEach [] X.env)) (backToKw pos (keywordEach [] X.env))) := by rfl) :
    PE X (.Call (.Attribute o m apos) [] [] pos) (tMeth C m sp [] E0 ta tNil) := by
  obtain ⟨f, fd, F, hm, hb⟩ := G
  exact pe_meth0 he c hm F hr hb .nil passL ht
theorem pe_mkI (G : HasI X.prog X.w X.K X.mg X.base k C x ps sp) (hr : Room (k + 1) X.A) (hg : Gl X x) (ha : PA X (e :: es) t) (hdb : (x == ("__debug__" : Str)) = false := by decide)
    (he : starEach (e :: es) X.env = (false, eval e X.env) :: starEach es X.env := by rfl) (hpl : (backTo pos (starEach es X.env)).any (·.1) = false := by rfl) : PE X (.Call (.Name x p) (e :: es) [] pos) (tMake C sp [] E0 t) := by
  obtain ⟨f, fd, F, hm, M, hb⟩ := G
  exact pe_make M F hr hg hm hb .nil passL ha hdb he hpl
theorem hu_room {A : Around} {k : Nat} (hr : Room k A) : A.units + 1 < cLine := Nat.lt_of_le_of_lt (Nat.add_le_add_left (by decide : 1 ≤ 64) _) hr.units
end
end Ls
namespace Ls
open PySem PySem.Spec PyProof.Rows L2
theorem FnOk.cx {P : Program} {w : World} {K : PySem.W.Frag} {mg : Str → Option Value} {base : Heap} {CX CX' : CXT} {k : Nat} {f : Addr} {fd : FuncData} {ps : List Str} {sp : Sp} (F : FnOk P w K mg base CX k f fd ps sp)
    (h : ∀ a b c d e g, CX a b c d e g → CX' a b c d e g) : L2.FnOk P w K mg base CX' k f fd ps sp :=
  ⟨F.len, fun A outer s H args us vs Q E hr he hb hv hs => codeAny_mono (F.run A outer s H args us vs Q E hr he hb hv hs) fun r s' hq => by
    cases r with
    | ok fl => cases fl <;> exact hq
    | error e => exact h _ _ _ _ _ _ hq⟩
end Ls

namespace Ls
open PySem PySem.Spec PyProof.Rows L2
/-! ### small heaps' facts -/
theorem sql_of {K : PySem.W.Frag} {H : Hp} {a : Addr} {xs : List V} (h : H a = some (.lst xs)) : SqL K H a xs := .inl (.inl h)
theorem sqt_of {K : PySem.W.Frag} {H : Hp} {a : Addr} {xs : List V} (h : H a = some (.tup xs)) : SqT K H a xs := .inl (.inl h)
theorem atI_of {A : Type} {xs : List A} {i : Nat} {x : A} (h : xs[i]? = some x) : atI xs ((i : Nat) : Int) = some x := atI_nat h
theorem atI_ofI {A : Type} {xs : List A} {i : Int} {x : A} (h0 : 0 ≤ i) (h : xs[i.toNat]? = some x) : atI xs i = some x := by
  have e : i = ((i.toNat : Nat) : Int) := by omega
  rw [e]
  exact atI_nat h
theorem map_get {A B : Type} {f : A → B} {xs : List A} {i : Nat} {x : A} (h : xs[i]? = some x) : (xs.map f)[i]? = some (f x) := by
  rw [List.getElem?_map, h]
  rfl
theorem map_get_inv {A B : Type} {f : A → B} {xs : List A} {i : Nat} {y : B} (h : (xs.map f)[i]? = some y) : ∃ x, xs[i]? = some x ∧ y = f x := by
  rw [List.getElem?_map] at h
  cases e : xs[i]? with
  | none =>
    rw [e] at h
    cases h
  | some x =>
    rw [e] at h
    exact ⟨x, rfl, (Option.some.inj h).symm⟩
/-! ### the dice: a list of ints that are not below 0, two at least -/
def DiceL (ns : List Int) : Prop := 2 ≤ ns.length ∧ ns.length ≤ 100 ∧ ∀ x ∈ ns, 0 ≤ x
def Dice (H : Hp) (d : Addr) : Prop := ∃ ns : List Int, H d = some (.lst (ns.map V.int)) ∧ DiceL ns
def mD (d : Addr) : Mo := ⟨fun b => b = d, fun H => Dice H d, fun _ _ h e => by
  obtain ⟨ns, h1, _⟩ := h
  subst e
  exact ⟨_, h1⟩, fun _ _ h k => by
  obtain ⟨ns, h1, h2⟩ := h
  exact ⟨ns, k d _ rfl h1, h2⟩⟩
theorem gr_dice {F H : Hp} {d : Addr} {ns : List Int} (w : Wd (mD d) F H) (h : DiceL ns) : Gr (mD d) F H F (upd H d (.lst (ns.map V.int))) := by
  have fd : F d = none := w.n d rfl
  refine ⟨Same.refl F, fun b o e => ?_, fun b o q e => ?_, fun _ _ _ e => e, ⟨ns, upd_same, h⟩⟩
  · rw [upd_ne (ne_of_none e fd)]
    exact w.s b o e
  · rw [upd_ne (show b ≠ d from q)]
    exact e
/-! ### pictures -/
def IsPic (m : List (List Int)) : Prop := 1 ≤ m.length ∧ m.length ≤ 16 ∧ ∀ r ∈ m, (1 ≤ r.length ∧ r.length ≤ 16) ∧ r.length = (m.headD []).length ∧ ∀ c ∈ r, 0 ≤ c ∧ c ≤ 255
/-- h rows of w cells, each a cell -/
structure PicHW (h w : Nat) (m : List (List Int)) : Prop where
  hi : m.length = h
  wi : ∀ r ∈ m, r.length = w
  ce : ∀ r ∈ m, ∀ c ∈ r, 0 ≤ c ∧ c ≤ 255
theorem PicHW.pic {h w : Nat} {m : List (List Int)} (p : PicHW h w m) (h1 : 1 ≤ h) (h2 : h ≤ 16) (w1 : 1 ≤ w) (w2 : w ≤ 16) : IsPic m := by
  refine ⟨by rw [p.hi]; exact h1, by rw [p.hi]; exact h2, fun r hr => ⟨⟨by rw [p.wi r hr]; exact w1, by rw [p.wi r hr]; exact w2⟩, ?_, p.ce r hr⟩⟩
  cases m with
  | nil => cases hr
  | cons a t =>
    show r.length = a.length
    rw [p.wi r hr, p.wi a List.mem_cons_self]
theorem IsPic.hw {m : List (List Int)} (p : IsPic m) : PicHW m.length (m.headD []).length m := ⟨rfl, fun r hr => (p.2.2 r hr).2.1, fun r hr => (p.2.2 r hr).2.2⟩
theorem IsPic.w1 {m : List (List Int)} (p : IsPic m) : 1 ≤ (m.headD []).length ∧ (m.headD []).length ≤ 16 := by
  cases m with
  | nil => exact absurd p.1 (by decide)
  | cons a t => exact (p.2.2 a List.mem_cons_self).1
/-! ### a matrix that is new since H, all its rows apart -/
structure MatF (H H' : Hp) (p : Addr) (rs : List Addr) (m : List (List Int)) : Prop where
  top : H' p = some (.lst (rs.map V.ref))
  len : rs.length = m.length
  row : ∀ (i : Nat) (r : List Int) (a : Addr), m[i]? = some r → rs[i]? = some a → H' a = some (.lst (r.map V.int))
  nd : (p :: rs).Nodup
  new : ∀ a ∈ p :: rs, H a = none
theorem MatF.same {H H' H'' : Hp} {p : Addr} {rs : List Addr} {m : List (List Int)} (f : MatF H H' p rs m) (s : Same H' H'') : MatF H H'' p rs m :=
  ⟨s _ _ f.top, f.len, fun i r a h1 h2 => s _ _ (f.row i r a h1 h2), f.nd, f.new⟩
theorem dtAll_rows {K : PySem.W.Frag} {H : Hp} : ∀ (rs : List Addr) (m : List (List Int)), rs.length = m.length → (∀ (i : Nat) (r : List Int) (a : Addr), m[i]? = some r → rs[i]? = some a → H a = some (.lst (r.map V.int))) → DtAll K H (rs.map V.ref) (m.map dRow)
  | [], [], _, _ => .nil
  | [], _ :: _, h, _ => by cases h
  | _ :: _, [], h, _ => by cases h
  | a :: rs, r :: m, h, f => .cons (dt_row_mk (f 0 r a rfl rfl)) (dtAll_rows rs m (Nat.succ.inj h) fun i r' a' h1 h2 => f (i + 1) r' a' h1 h2)
theorem MatF.dp {K : PySem.W.Frag} {H H' : Hp} {p : Addr} {rs : List Addr} {m : List (List Int)} (f : MatF H H' p rs m) : Dt K H' (.ref p) (dMat m) :=
  .lst f.top (dtAll_rows rs m f.len f.row)
/-- frozen: all that is new -/
def frzAll (F H' : Hp) (as : List Addr) : Hp := fun b => if b ∈ as then H' b else F b
theorem frz_in {F H' : Hp} {as : List Addr} {b : Addr} (h : b ∈ as) : frzAll F H' as b = H' b := if_pos h
theorem frz_out {F H' : Hp} {as : List Addr} {b : Addr} (h : b ∉ as) : frzAll F H' as b = F b := if_neg h
theorem gr_all {m : Mo} {F H F' H' : Hp} {as : List Addr} (w : Wd m F H) (g : Gr m F H F' H') (new : ∀ a ∈ as, H a = none) (fr : ∀ a ∈ as, F' a = none) : Gr m F H (frzAll F' H' as) H' := by
  refine ⟨fun b o e => ?_, fun b o e => ?_, g.h, fun b o e z => ?_, g.j⟩
  · have hb : b ∉ as := fun q => by
      have := new b q
      rw [w.s b o e] at this
      cases this
    rw [frz_out hb]
    exact g.f b o e
  · by_cases hb : b ∈ as
    · rw [frz_in hb] at e
      exact e
    · rw [frz_out hb] at e
      exact g.s b o e
  · have hb : b ∉ as := fun q => by
      have := new b q
      rw [e] at this
      cases this
    rw [frz_out hb]
    exact g.n b o e z
theorem MatF.frz {K : PySem.W.Frag} {F H' : Hp} {H : Hp} {p : Addr} {rs : List Addr} {m : List (List Int)} (f : MatF H H' p rs m) : Dt K (frzAll F H' (p :: rs)) (.ref p) (dMat m) := by
  refine .lst ?_ (dtAll_rows rs m f.len fun i r a h1 h2 => ?_)
  · rw [frz_in List.mem_cons_self]
    exact f.top
  · rw [frz_in (List.mem_cons_of_mem _ (List.mem_of_getElem? h2))]
    exact f.row i r a h1 h2
end Ls
namespace Ls
open PySem PySem.Spec PyProof.Rows L2
theorem ixN_of {n j : Nat} (h : j < n) : ixN n ((j : Nat) : Int) = some j := by
  unfold ixN
  rw [if_pos (by omega), if_pos (by omega)]
  simp
theorem seqIx_of {n j : Nat} (h : j < n) : PySem.seqIndex? ((j : Nat) : Int) n = some j := (ixN_seq (ixN_of h)).1
end Ls
namespace Ls
open PySem PySem.Spec PyProof.Rows L2
/-- a <= b <= c, written c -/
theorem le_le {a b c : Int} {σ : L2.St} {H : Hp} {Q : VK} (q : Q (.bl (decide (a ≤ b ∧ b ≤ c))) H) :
    rI0 (fun i j => V.bl (decide (i ≤ j))) (.int a) (.int b) H fun z H3 => ∃ k, z = .bl k ∧ (if k = true then tC (.int c) σ H3 fun w' H4 => rI0 (fun i j => V.bl (decide (i ≤ j))) (.int b) w' H4 Q else Q (.bl false) H3) := by
  refine ⟨a, b, rfl, rfl, _, rfl, ?_⟩
  by_cases h : a ≤ b
  · rw [if_pos (decide_eq_true h)]
    refine ⟨b, c, rfl, rfl, ?_⟩
    show Q (.bl (decide (b ≤ c))) H
    rw [show decide (b ≤ c) = decide (a ≤ b ∧ b ≤ c) by simp [h]]
    exact q
  · rw [if_neg (by simp [h])]
    rw [show decide (a ≤ b ∧ b ≤ c) = false by simp [h]] at q
    exact q
/-- a row as need_picture wants it -/
def RowOk (n : Nat) (r : List Int) : Prop := (1 ≤ r.length ∧ r.length ≤ 16) ∧ r.length = n ∧ ∀ c ∈ r, 0 ≤ c ∧ c ≤ 255
theorem isPic_iff {m : List (List Int)} : IsPic m ↔ (1 ≤ m.length ∧ m.length ≤ 16) ∧ ∀ r ∈ m, RowOk (m.headD []).length r :=
  ⟨fun h => ⟨⟨h.1, h.2.1⟩, h.2.2⟩, fun h => ⟨h.1.1, h.1.2, h.2⟩⟩
end Ls
namespace Ls
open PySem PySem.Spec PyProof.Rows L2
theorem isum_app : ∀ (xs ys : List Int), (xs ++ ys).sum = xs.sum + ys.sum
  | [], ys => by simp
  | x :: xs, ys => by
    rw [List.cons_append, List.sum_cons, List.sum_cons, isum_app xs ys]
    omega
theorem isum_more {l : List Int} {i : Nat} {x : Int} (h : l[i]? = some x) : (l.take (i + 1)).sum = (l.take i).sum + x := by
  rw [take_more h, isum_app]
  simp
theorem range_map_succ {A : Type} (f : Nat → A) (n : Nat) : (List.range (n + 1)).map f = (List.range n).map f ++ [f n] := by
  rw [List.range_succ, List.map_append]
  rfl
theorem range_map_get {A : Type} (f : Nat → A) {n i : Nat} (h : i < n) : ((List.range n).map f)[i]? = some (f i) := by
  rw [List.getElem?_map, List.getElem?_range h]
  rfl
theorem MatF.more {H H' : Hp} {p q : Addr} {rs : List Addr} {m : List (List Int)} {row : List Int} (f : MatF H H' p rs m) (hq : H' q = some (.lst (row.map V.int))) (nq : q ∉ p :: rs) (zq : H q = none) :
    MatF H (upd H' p (.lst ((rs ++ [q]).map V.ref))) p (rs ++ [q]) (m ++ [row]) := by
  have np : ∀ a ∈ rs, a ≠ p := fun a ha e => by
    have := (List.nodup_cons.mp f.nd).1
    rw [e] at ha
    exact this ha
  have nqp : q ≠ p := fun e => nq (by rw [e]; exact List.mem_cons_self)
  refine ⟨upd_same, by rw [List.length_append, List.length_append, f.len]; rfl, fun i r a h1 h2 => ?_, ?_, fun a ha => ?_⟩
  · by_cases hi : i < m.length
    · rw [List.getElem?_append_left hi] at h1
      rw [List.getElem?_append_left (by rw [f.len]; exact hi)] at h2
      rw [upd_ne (np a (List.mem_of_getElem? h2))]
      exact f.row i r a h1 h2
    · have e : i = m.length := by
        have := (List.getElem?_eq_some_iff.mp h1).1
        rw [List.length_append] at this
        simp at this
        omega
      subst e
      rw [List.getElem?_append_right (Nat.le_refl _), Nat.sub_self] at h1
      rw [← f.len, List.getElem?_append_right (Nat.le_refl _), Nat.sub_self] at h2
      have e1 : row = r := Option.some.inj h1
      have e2 : q = a := Option.some.inj h2
      subst e1 e2
      rw [upd_ne nqp]
      exact hq
  · have h := f.nd
    rw [show p :: (rs ++ [q]) = (p :: rs) ++ [q] from rfl, List.nodup_append]
    refine ⟨h, by simp, fun a ha b hb => ?_⟩
    rw [List.mem_singleton] at hb
    subst hb
    exact fun e => nq (e ▸ ha)
  · rw [show p :: (rs ++ [q]) = (p :: rs) ++ [q] from rfl] at ha
    rcases List.mem_append.mp ha with ha | ha
    · exact f.new a ha
    · rw [List.mem_singleton] at ha
      rw [ha]
      exact zq
end Ls
namespace Ls
open PySem PySem.Spec PyProof.Rows L2
theorem MatF.gr {m : Mo} {F F' H H1 H3 : Hp} {p : Addr} {rs : List Addr} {M : List (List Int)} (f : MatF H H1 p rs M) (nM : ∀ b, H b = none → ¬ m.M b) (g : Gr m F H1 F' H3) : MatF H H3 p rs M :=
  ⟨g.h _ _ (nM _ (f.new p List.mem_cons_self)) f.top, f.len, fun i r a h1 h2 => g.h _ _ (nM _ (f.new a (List.mem_cons_of_mem _ (List.mem_of_getElem? h2)))) (f.row i r a h1 h2), f.nd, f.new⟩
theorem MatF.there {H H' : Hp} {p : Addr} {rs : List Addr} {m : List (List Int)} (f : MatF H H' p rs m) {a : Addr} (h : a ∈ p :: rs) : ∃ o, H' a = some o := by
  rcases List.mem_cons.mp h with rfl | h
  · exact ⟨_, f.top⟩
  · obtain ⟨i, hi⟩ := List.getElem?_of_mem h
    have hl : i < m.length := by
      rw [← f.len]
      exact (List.getElem?_eq_some_iff.mp hi).1
    exact ⟨_, f.row i _ a (List.getElem?_eq_getElem hl) hi⟩
/-- a comprehension whose items are new rows of ints -/
theorem comp_mat {A : Type} {m : Mo} {J : It} {G : Hp → Prop} {Y : Nat → Hp → V → Hp → Prop} {g : TG} {te : TE} {vs : List Nat} {σ : L2.St} {F H : Hp} {Q : VK}
    (wd : Wd m F H) (its : List A) (w : Walk J its.length G Y) (hG : ∀ H', Gr m F H F H' → G H') (f : A → List Int) (hz : its.length ≤ 1000000)
    (turn : ∀ i a x H1 H2, its[i]? = some a → Gr m F H F H1 → Y i H1 x H2 → ∀ Q1 : VK, (∀ b H3, H1 b = none → Gr m F H1 F H3 → H3 b = some (.lst ((f a).map V.int)) → Q1 (.ref b) H3) →
      g x (wipe σ vs) H2 fun σ2 H3 => wipe σ2 vs = wipe σ vs ∧ te σ2 H3 Q1)
    (fin : ∀ D rs H2, Gr m F H F H2 → MatF H H2 D rs (its.map f) → Q (.ref D) H2)
    (gm : ∀ x σ H Q Q', (∀ σ H, Q σ H → Q' σ H) → g x σ H Q → g x σ H Q') : LcIn J g tYes te vs σ H Q := by
  intro D hD
  have nM : ∀ b, H b = none → ¬ m.M b := fun b h => wd.nM h
  refine lc_it w (Qd := fun H' => Q (.ref D) H') (fun i H' => ∃ rs, Gr m F H F H' ∧ MatF H H' D rs ((its.take i).map f)) ?_ ?_ ?_ ?_
  · refine ⟨[], (Gr.refl wd).wr wd hD (wd.s.free hD), upd_same, rfl, fun i r a h1 _ => by simp at h1, by simp, fun a ha => ?_⟩
    rcases List.mem_cons.mp ha with rfl | ha
    · exact hD
    · cases ha
  · rintro i H' _ ⟨rs, gr, _⟩
    exact hG H' gr
  · rintro i x H1 H2 hi ⟨rs, gr, M⟩ hy
    have hit : its[i]? = some its[i] := List.getElem?_eq_getElem hi
    have T := turn i its[i] x H1 H2 hit gr hy (fun y H4 => ∃ acc, H4 D = some (.lst acc) ∧ acc.length < sizeLine ∧ (∃ rs, Gr m F H F (upd H4 D (.lst (acc ++ [y]))) ∧ MatF H (upd H4 D (.lst (acc ++ [y]))) D rs ((its.take (i + 1)).map f))) (fun b H3 zb g3 e3 => by
      have M3 := M.gr nM g3
      have hlen : rs.length ≤ i := by
        rw [M.len, List.length_map, List.length_take]
        exact Nat.min_le_left _ _
      refine ⟨rs.map V.ref, M3.top, by rw [List.length_map]; exact size_lt (by omega), rs ++ [b], (gr.trans wd g3).wr wd hD (wd.s.free hD), ?_⟩
      have nb : b ∉ D :: rs := fun hm => by
        obtain ⟨o, e⟩ := M.there hm
        rw [zb] at e
        cases e
      have M4 := M3.more e3 nb (gr.same wd zb)
      rw [take_more hit, List.map_append]
      have e5 : List.map V.ref rs ++ [V.ref b] = (rs ++ [b]).map V.ref := by simp
      rw [e5]
      exact M4)
    exact gm x _ H2 _ _ (fun σ2 H3 q => ⟨q.1, q.2⟩) T
  · rintro H' ⟨rs, gr, M⟩
    rw [List.take_length] at M
    exact fin D rs H' gr M
theorem gName_mono {k : Nat} : ∀ x σ H Q Q', (∀ σ H, Q σ H → Q' σ H) → gName k x σ H Q → gName k x σ H Q' := fun _ σ H _ _ h q => h _ _ q
/-- .. over a list, one name -/
theorem comp_matL {A : Type} {m : Mo} {K : PySem.W.Frag} {te : TE} {k : Nat} {vs : List Nat} {σ : L2.St} {F H : Hp} {Q : VK} {a : Addr} {xs : List V} (wd : Wd m F H) (its : List A) (hl : its.length = xs.length) (hS : SqL K F a xs) (hn : xs.length ≤ 1000000) (f : A → List Int)
    (hw : ∀ x, wipe ((wipe σ vs).set k (some x)) vs = wipe σ vs)
    (el : ∀ (i : Nat) (b : A) (x : V) (H1 : Hp), its[i]? = some b → xs[i]? = some x → Gr m F H F H1 → ∀ Q1 : VK, (∀ c H3, H1 c = none → Gr m F H1 F H3 → H3 c = some (.lst ((f b).map V.int)) → Q1 (.ref c) H3) → te ((wipe σ vs).set k (some x)) H1 Q1)
    (fin : ∀ D rs H2, Gr m F H F H2 → MatF H H2 D rs (its.map f) → Q (.ref D) H2) : LcIn (Itl K a) (gName k) tYes te vs σ H Q := by
  refine comp_mat (A := A) (G := fun H => SqL K H a xs) (Y := YAt xs) wd its (by rw [hl]; exact walk_list) (fun H' g => g.s.seq hS) f (by rw [hl]; exact hn) ?_ fin gName_mono
  rintro i b x H1 H2 hi gr ⟨rfl, hx⟩ Q1 k1
  exact ⟨hw _, el i b x _ hi hx gr Q1 k1⟩
/-- .. over a range -/
theorem comp_matR {m : Mo} {te : TE} {k : Nat} {vs : List Nat} {σ : L2.St} {F H : Hp} {Q : VK} {lo : Int} {n : Nat} (wd : Wd m F H) (hn : n ≤ 1000000) (f : Nat → List Int)
    (hw : ∀ x, wipe ((wipe σ vs).set k (some x)) vs = wipe σ vs)
    (el : ∀ (i : Nat) (H1 : Hp), i < n → Gr m F H F H1 → ∀ Q1 : VK, (∀ c H3, H1 c = none → Gr m F H1 F H3 → H3 c = some (.lst ((f i).map V.int)) → Q1 (.ref c) H3) → te ((wipe σ vs).set k (some (.int (lo + i)))) H1 Q1)
    (fin : ∀ D rs H2, Gr m F H F H2 → MatF H H2 D rs ((List.range n).map f) → Q (.ref D) H2) : LcIn (Itr lo n) (gName k) tYes te vs σ H Q := by
  refine comp_mat (A := Nat) (G := fun _ => True) (Y := YFn fun i => .int (lo + i)) wd (List.range n) (by rw [List.length_range]; exact walk_range) (fun _ _ => trivial) f (by rw [List.length_range]; exact hn) ?_ fin gName_mono
  rintro i b x H1 H2 hi gr ⟨rfl, rfl⟩ Q1 k1
  have hl : i < n := by
    have := (List.getElem?_eq_some_iff.mp hi).1
    rwa [List.length_range] at this
  have ea : b = i := by
    rw [List.getElem?_range hl] at hi
    exact (Option.some.inj hi).symm
  subst ea
  exact ⟨hw _, el b _ hl gr Q1 k1⟩
end Ls

namespace Ls
open PySem PySem.Spec PyProof.Rows L2
/-! ### isinstance of data -/
def tyN : PyData → String
  | .none => "NoneType"
  | .bool _ => "bool"
  | .int _ => "int"
  | .str _ => "str"
  | .list _ => "list"
  | .tuple _ => "tuple"
  | .dict _ => "dict"
theorem tyx_of {K : PySem.W.Frag} {H : Hp} {v : V} {d : PyData} (h : Dt K H v d) : TyX K H v (.type (tyN d)) := by
  cases h with
  | non => exact .base .non
  | bl b => exact .base (.bl b)
  | int i => exact .base (.int i)
  | str x => exact .base (.str x)
  | lst h _ => exact .base (.lst h)
  | tup h _ =>
    rcases h with (h | ⟨o, h⟩) | ⟨o, its, n, h1, h2, _⟩
    · exact .base (.tup h)
    · exact .fTuple h
    · exact .kTuple h1 h2
  | dic h _ => exact .base (.dK h)
mutual
/-- no dict within, no list longer than 1000 -/
def fine : PyData → Bool
  | .list xs => decide (xs.length ≤ 1000) && fines xs
  | .tuple xs => decide (xs.length ≤ 1000) && fines xs
  | .dict _ => false
  | .none => true
  | .bool _ => true
  | .int _ => true
  | .str x => PyData.strOk x
def fines : List PyData → Bool
  | [] => true
  | x :: xs => fine x && fines xs
end
theorem fines_get : ∀ {ds : List PyData} {i : Nat} {d : PyData}, fines ds = true → ds[i]? = some d → fine d = true
  | [], _, _, _, h => by simp at h
  | a :: r, 0, d, q, h => by
    have e : a = d := Option.some.inj h
    subst e
    rw [fines] at q
    exact (Bool.and_eq_true_iff.mp q).1
  | a :: r, i + 1, d, q, h => by
    rw [fines] at q
    exact fines_get (Bool.and_eq_true_iff.mp q).2 (i := i) (by simpa using h)
theorem fines_of : ∀ {ds : List PyData}, (∀ d ∈ ds, fine d = true) → fines ds = true
  | [], _ => by rw [fines]
  | a :: r, h => by
    rw [fines, h a List.mem_cons_self, fines_of fun d hd => h d (List.mem_cons_of_mem _ hd)]
    rfl
theorem depthAll_of {n : Nat} : ∀ {ds : List PyData}, (∀ d ∈ ds, d.depth ≤ n) → PyData.depthAll ds ≤ n
  | [], _ => by rw [PyData.depthAll]; exact Nat.zero_le _
  | a :: r, h => by
    rw [PyData.depthAll]
    exact Nat.max_le.mpr ⟨h a List.mem_cons_self, depthAll_of fun d hd => h d (List.mem_cons_of_mem _ hd)⟩
theorem fine_row {r : List Int} (h : r.length ≤ 1000) : fine (dRow r) = true := by
  unfold dRow
  rw [fine, List.length_map, decide_eq_true h, fines_of fun d hd => ?_]
  · rfl
  · obtain ⟨x, _, rfl⟩ := List.mem_map.mp hd
    rw [fine]
theorem depth_row (r : List Int) : (dRow r).depth ≤ 1 := by
  unfold dRow
  rw [PyData.depth]
  have : PyData.depthAll (r.map PyData.int) ≤ 0 := depthAll_of fun d hd => by
    obtain ⟨x, _, rfl⟩ := List.mem_map.mp hd
    rw [PyData.depth]
    exact Nat.le_refl 0
  omega
theorem fine_mat {m : List (List Int)} (h : m.length ≤ 1000) (hr : ∀ r ∈ m, r.length ≤ 1000) : fine (dMat m) = true := by
  unfold dMat
  rw [fine, List.length_map, decide_eq_true h, fines_of fun d hd => ?_]
  · rfl
  · obtain ⟨x, hx, rfl⟩ := List.mem_map.mp hd
    exact fine_row (hr x hx)
theorem depth_mat (m : List (List Int)) : (dMat m).depth ≤ 2 := by
  unfold dMat
  rw [PyData.depth]
  have : PyData.depthAll (m.map dRow) ≤ 1 := depthAll_of fun d hd => by
    obtain ⟨x, _, rfl⟩ := List.mem_map.mp hd
    exact depth_row x
  omega
theorem FnOk.vac {P : Program} {w : World} {K : PySem.W.Frag} {mg : Str → Option Value} {base : Heap} {CX : CXT} {k : Nat} {f : Addr} {fd : FuncData} {ps : List Str} {sp : Sp} (h : ∀ vs H Q E, ¬ sp vs H Q E) : L2.FnOk P w K mg base CX k f fd ps sp :=
  ⟨fun vs H Q E z => absurd z (h vs H Q E), fun _ _ _ _ _ _ _ _ _ _ _ _ _ z => absurd z (h _ _ _ _)⟩
theorem depthAll_get : ∀ {ds : List PyData} {i : Nat} {d : PyData}, ds[i]? = some d → d.depth ≤ PyData.depthAll ds
  | [], _, _, h => by simp at h
  | a :: r, 0, d, h => by
    have e : a = d := Option.some.inj h
    subst e
    rw [PyData.depthAll]
    exact Nat.le_max_left _ _
  | a :: r, i + 1, d, h => by
    have ih := depthAll_get (ds := r) (i := i) (d := d) (by simpa using h)
    rw [PyData.depthAll]
    exact Nat.le_trans ih (Nat.le_max_right _ _)
theorem paired_trues {A : Type} : ∀ {its : List A} {ys : List V}, Paired (fun _ y => y = V.bl true) its ys → ys = (its.map fun _ => true).map V.bl
  | _, _, .nil => rfl
  | _, _, .cons h t => by rw [h, paired_trues t]; rfl
theorem all_trues {A : Type} (its : List A) : (its.map fun _ => true).all id = true := by simp
end Ls
namespace Ls
open PySem PySem.Spec PyProof.Rows L2
mutual
theorem canLay_of_fine : ∀ {d : PyData}, fine d = true → d.canLay0 = true
  | .none, _ => rfl
  | .bool _, _ => rfl
  | .int _, _ => rfl
  | .str x, h => by
    rw [fine] at h
    exact h
  | .list xs, h => by
    rw [fine] at h
    exact canLayAll_of_fines (Bool.and_eq_true_iff.mp h).2
  | .tuple xs, h => by
    rw [fine] at h
    exact canLayAll_of_fines (Bool.and_eq_true_iff.mp h).2
  | .dict _, h => by
    rw [fine] at h
    cases h
theorem canLayAll_of_fines : ∀ {ds : List PyData}, fines ds = true → PyData.canLayAll0 ds = true
  | [], _ => rfl
  | x :: xs, h => by
    rw [fines] at h
    obtain ⟨h1, h2⟩ := Bool.and_eq_true_iff.mp h
    rw [PyData.canLayAll0, canLay_of_fine h1, canLayAll_of_fines h2]
    rfl
end
/-- what == and != ask -/
theorem shaped_of {d : PyData} (h : fine d = true) (hd : d.depth ≤ 64) : SeqAt.shaped d = true := by
  unfold SeqAt.shaped
  rw [canLay_of_fine h, decide_eq_true hd]
  rfl
mutual
theorem fine_noDic : ∀ {d : PyData}, fine d = true → noDic d = true
  | .none, _ => by rw [noDic]
  | .bool _, _ => by rw [noDic]
  | .int _, _ => by rw [noDic]
  | .str _, _ => by rw [noDic]
  | .list xs, h => by
    rw [fine] at h
    rw [noDic]
    exact fines_noDics (Bool.and_eq_true_iff.mp h).2
  | .tuple xs, h => by
    rw [fine] at h
    rw [noDic]
    exact fines_noDics (Bool.and_eq_true_iff.mp h).2
  | .dict _, h => by
    rw [fine] at h
    cases h
theorem fines_noDics : ∀ {ds : List PyData}, fines ds = true → noDics ds = true
  | [], _ => by rw [noDics]
  | x :: xs, h => by
    rw [fines] at h
    obtain ⟨h1, h2⟩ := Bool.and_eq_true_iff.mp h
    rw [noDics, fine_noDic h1, fines_noDics h2]
    rfl
end
/-- == of the same data -/
theorem eqD_same {K : PySem.W.Frag} {H : Hp} {x y : V} {d : PyData} {Q : VK} (hx : Dt K H x d) (hy : Dt K H y d) (hf : fine d = true) (hd : d.depth ≤ 64) (q : Q (.bl true) H) : rEqD K x y H Q := by
  refine ⟨d, d, hx.dp (fine_noDic hf), hy.dp (fine_noDic hf), shaped_of hf hd, shaped_of hf hd, ?_⟩
  rw [PySem.SeqAt.eqv_refl d (canLay_of_fine hf)]
  exact q
theorem neD_same {K : PySem.W.Frag} {H : Hp} {x y : V} {d : PyData} {Q : VK} (hx : Dt K H x d) (hy : Dt K H y d) (hf : fine d = true) (hd : d.depth ≤ 64) (q : Q (.bl false) H) : rNeD K x y H Q := by
  refine ⟨d, d, hx.dp (fine_noDic hf), hy.dp (fine_noDic hf), shaped_of hf hd, shaped_of hf hd, ?_⟩
  rw [PySem.SeqAt.eqv_refl d (canLay_of_fine hf)]
  exact q
/-- slices by natural ends -/
theorem cutV_to (xs : List V) (k : Nat) : cutV xs none (some ((k : Nat) : Int)) = xs.take k := by
  unfold cutV
  rw [HT.sIx_none, HT.sIx_nat, List.drop_zero, Nat.sub_zero]
  by_cases h : k ≤ xs.length
  · rw [Nat.min_eq_left h]
  · rw [Nat.min_eq_right (by omega), List.take_length, List.take_of_length_le (by omega)]
theorem cutV_from (xs : List V) (k : Nat) : cutV xs (some ((k : Nat) : Int)) none = xs.drop k := by
  unfold cutV
  rw [HT.sIx_none, HT.sIx_nat]
  by_cases h : k ≤ xs.length
  · rw [Nat.min_eq_left h, List.take_of_length_le (by rw [List.length_drop]; exact Nat.le_refl _)]
  · rw [Nat.min_eq_right (by omega), List.drop_length, List.drop_eq_nil_of_le (by omega)]
    simp
theorem cutV_fromto (xs : List V) (k j : Nat) (h : k ≤ j) : cutV xs (some ((k : Nat) : Int)) (some ((j : Nat) : Int)) = (xs.drop k).take (j - k) := by
  unfold cutV
  rw [HT.sIx_nat, HT.sIx_nat]
  by_cases h1 : k ≤ xs.length
  · rw [Nat.min_eq_left h1]
    by_cases h2 : j ≤ xs.length
    · rw [Nat.min_eq_left h2]
    · rw [Nat.min_eq_right (by omega), List.take_of_length_le (by rw [List.length_drop]; exact Nat.le_refl _), List.take_of_length_le (by rw [List.length_drop]; omega)]
  · rw [Nat.min_eq_right (by omega : xs.length ≤ k), List.drop_length, List.drop_eq_nil_of_le (by omega : xs.length ≤ k)]
    simp
end Ls

namespace Ls
open PySem PySem.Spec PyProof.Rows L2
/-! ### the layer's rules with the written part told (for use within comprehensions) -/
section
variable {X : Cx} {K : PySem.W.Frag}
theorem ixL (h : X.K = K) : IxR X (rIxL K) := by subst h; exact ix_list
theorem ixT (h : X.K = K) : IxR X (rIxT K) := by subst h; exact ix_tup
def rLenQ (K : PySem.W.Frag) : List V → Hp → VK → Prop := fun xs H Q => ∃ p ys, xs = [.ref p] ∧ (SqL K H p ys ∨ SqT K H p ys) ∧ Q (.int ys.length) H
theorem lenQ (h : X.K = K) : CallR X (.builtin "len") (rLenQ K) := by subst h; exact call_len_seq
def rLstQ (K : PySem.W.Frag) : List V → Hp → VK → Prop := fun xs H Q => ∃ p ys, xs = [.ref p] ∧ (SqL K H p ys ∨ SqT K H p ys) ∧ ∀ l, H l = none → Q (.ref l) (upd H l (.lst ys))
theorem lstQ (h : X.K = K) : CallR X (.type "list") (rLstQ K) := by subst h; exact call_list_of
theorem sumQ (h : X.K = K) (hc : X.calm = true) : CallR X (.builtin "sum") (rSum K) := by subst h; exact cr_sum hc
theorem minQ (h : X.K = K) (hc : X.calm = true) : CallR X (.builtin "min") (rMin K) := by subst h; exact cr_min hc
theorem allQ (h : X.K = K) (hc : X.calm = true) : CallR X (.builtin "all") (rAll K) := by subst h; exact cr_all hc
theorem isiQ (h : X.K = K) : CallR X (.builtin "isinstance") (rIsi K) := by subst h; exact call_isi
theorem sorQ (h : X.K = K) : CallR X (.builtin "sorted") (rSortedI K) := by subst h; exact cr_sortedI
theorem sorSQ (h : X.K = K) : CallR X (.builtin "sorted") (rSortedS K) := by subst h; exact cr_sortedS
theorem slL (h : X.K = K) : SlR X (rSlL K) := by subst h; exact sl_list
theorem inQ (h : X.K = K) : OpR X (compareOp .In) (rIn K false) := by subst h; exact op_in_seq
theorem ninQ (h : X.K = K) : OpR X (compareOp .NotIn) (rIn K true) := by subst h; exact op_notIn_seq
theorem eqQ (h : X.K = K) (hu : X.A.units + 64 < cLine) : OpR X (compareOp .Eq) (rEqD K) := by subst h; exact op_eqD hu
theorem neQ (h : X.K = K) (hu : X.A.units + 64 < cLine) : OpR X (compareOp .NotEq) (rNeD K) := by subst h; exact op_neD hu
theorem idxQ (h : X.K = K) : MtR X "list.index" (rIndex K) := by subst h; exact mt_index
end
section
variable {X : Cx} {K : PySem.W.Frag} {o e value : Expr} {f : Str} {pos pos' tpos p cpos apos : Pos} {ta tv tl to te : TE} {t : TA}
theorem pe_fldQ (h : X.K = K) (he : PE X e ta) (hb : attributeBase e f X.env (eval e X.env) = eval e X.env) : PE X (.Attribute e f pos) (tFld K ta f) := by subst h; exact pe_fld he hb
theorem ps_fldQ (h : X.K = K) (ha : PE X o ta) (hv : PE X value tv) (hs : swapsWith value (some (.Attribute o f pos')) pos.line X.env = pure false) : PS X (.Assign [.Attribute o f pos'] value pos) (sFld K ta tv f) := by subst h; exact ps_fld ha hv hs
theorem pi_listQ {tg l : Expr} (h : X.K = K) (hl : PE X l tl) : PI X tg l (iList K tl) := by subst h; exact pi_list hl
theorem pi_tupQ {tg l : Expr} (h : X.K = K) (hl : PE X l tl) : PI X tg l (iTup K tl) := by subst h; exact pi_tup hl
theorem pi_zipQ {e2 : Expr} {elts : List Expr} {kk : Nat} (h : X.K = K) (hg : Gl X "zip") (hm : X.mg "zip" = none) (ha : PA X [e, e2] t)
    (hs : starEach [e, e2] X.env = (false, eval e X.env) :: starEach [e2] X.env := by rfl) (hpl : (backTo pos (starEach [e2] X.env)).any (·.1) = false := by rfl) :
    PI X (.Tuple elts kk tpos) (.Call (.Name "zip" p) [e, e2] [] pos) (iZip K t) := by subst h; exact pi_zip hg hm ha hs hpl
theorem pg_tupQ {es : List Expr} {k n : Nat} {t : TGs} (h : X.K = K) (hc : X.calm = true) (ht : PGs X es t)
    (hn : (assignEach es X.env).length = n := by rfl) (hst : (assignEach es X.env).findIdx? (·.1) = none := by rfl) : PG X (.Tuple es k pos) (gTup K n t) := by subst h; exact pg_tup hc ht hn hst
theorem pe_revLQ {k : Nat} {p1 p2 p3 : Pos} (h : X.K = K) (he : PE X e te) : PE X (.Subscript e (.Slice none none (some (.UnaryOp .USub (.Constant (.int 1) k p1) p2)) p3) pos) (tRevL K te) := by subst h; exact pe_revL he
variable {es : List Expr} {name : Str} {T id : String} {r : V → List V → Hp → VK → Prop}
theorem pe_bm0Q (h : X.K = K) (pa : PlainAttrs T) (slot : Slot T name id) (hty : typeOf (.builtin id) = pure (.type "method_descriptor")) (hm : MtR X id r) (ho : PE X o to)
    (hbase : attributeBase o name X.env (eval o X.env) = eval o X.env := by rfl) (hline : (apos.endLine == cpos.line) = true := by rfl) : PE X (.Call (.Attribute o name apos) [] [] cpos) (tBM0 K T r to) := by
  subst h
  exact pe_bm0 pa slot hty hm ho hbase hline
theorem pe_bmQ (h : X.K = K) (pa : PlainAttrs T) (slot : Slot T name id) (hty : typeOf (.builtin id) = pure (.type "method_descriptor")) (hm : MtR X id r) (ho : PE X o to) (ha : PA X (e :: es) t)
    (hbase : attributeBase o name X.env (eval o X.env) = eval o X.env := by rfl)
    (hfew : ((backTo cpos (starEach (e :: es) X.env)).all (fun x => !x.1) && (backToKw cpos (keywordEach [] X.env)).all (fun x => x.1.isSome)
      && decide ((e :: es).length + ([] : List Keyword).length + (if ([] : List Keyword).isEmpty then 0 else 1) < 30)) = true := by rfl)
    (hline : (apos.endLine == cpos.line) = true := by rfl) (hs : starEach (e :: es) X.env = (false, eval e X.env) :: starEach es X.env := by rfl) (hplain : (backTo cpos (starEach es X.env)).any (·.1) = false := by rfl) :
    PE X (.Call (.Attribute o name apos) (e :: es) [] cpos) (tBM K T r to t) := by
  subst h
  exact pe_bm pa slot hty hm ho ha hbase hfew hline hs hplain
end
end Ls

namespace Ls
open PySem PySem.Spec PyProof.Rows L2 RT
/-! ### list(reversed(a list)) -/
section
variable {prog : Program} {w : World} {A : Around} {E : Value → Shared → Prop} {s : Shared}
theorem extend_revit {it l S : Addr} {items : Array Value} {c0 : Nat} {res : Value} {R : Result → Shared → Prop} (hh : A.handled = none) (hit : s.heap.IsRevIter it l ((items.size : Int) - 1)) (hl : s.heap.IsList l items) (hne : l ≠ it) (hn : items.size ≤ sizeLine)
    (hSi : S ≠ it) (hSl : S ≠ l) (hS : s.heap.get? S = some { cls := .type "list", data := .seq #[] c0 })
    (hR : ∀ h' tk acc' c', (∀ b o, b ≠ S → b ≠ it → s.heap.get? b = some o → h'.get? b = some o) → h'.get? S = some { cls := .type "list", dict := none, data := .seq acc' c', slots := #[] } → ItemsOf (fun i v => items[items.size - 1 - i]? = some v) acc' items.size → R (.ok (.ret res)) { s with heap := h', toks := tk }) :
    wpAny (model prog w) A.in1 (Builtin.List.listExtendWith (.ref S) (.ref it) res)
      (fun fin s' => match fin with | .done f => R (.ok f) s' | .again c' => c'.quiet = true ∧ codeAny (model prog w) A c' R s') (fun e s' => R (.error e) s') s := by
  have W := (Walks.listRev (prog := prog) (w := w) (A := A.in1) hh it l hne items).toS
  have hSf : S ∉ [it, l] := by simp only [List.mem_cons, List.not_mem_nil, or_false, not_or]; exact ⟨hSi, hSl⟩
  have hT : s.TypeIs (.ref it) "list_reverseiterator" := hit.typeIs
  have h1 : Builtin.List.listSameRef (.ref S) (.ref it) = false := by simp [Builtin.List.listSameRef, hSi]
  unfold Builtin.List.listExtendWith
  refine wpAny_bind (wpAny_typeOf hT ?_)
  rw [if_neg (by rw [h1]; decide)]
  refine wpAny_bind (wpAny_pyIter_revIter hit ?_)
  refine wpAny_bind (wpAny_holding ?_)
  unfold Builtin.List.listLengthHint
  refine wpAny_bind (wpAny_specialOf hT nolen_lri ?_)
  show wpAny _ A.in1 (specialOf (Value.ref it) (Str.ofString "__length_hint__") >>= _) _ _ _
  refine wpAny_bind (wpAny_specialOf hT hint_lri ?_)
  generalize hid : ("list_reverseiterator.__length_hint__" : String) = id0
  wp_delta
  rw [show splitId id0 = some ("list_reverseiterator", "__length_hint__") from by subst hid; decide +kernel]
  subst hid
  refine wpAny_bind (wpAny_isInstance (b := true) hT (by rw [isSubtype_type]; kernel_rfl) ?_)
  refine wpAny_pure ?_
  rw [if_neg (by decide)]
  have e0 : ((items.size : Nat) : Int) - 1 - ((0 : Nat) : Int) = (items.size : Int) - 1 := by omega
  refine wpAny_pure ⟨plainId_quiet PySem.F.plain_extend_loop _, codeAny_extend_loopS W hn S hSf res items.size 0 _ _ _ rfl (Nat.zero_le _) ⟨Nat.zero_le _, by rw [e0]; exact hit, hl⟩ hS (ItemsOf.nil _) fun s' acc' c' hm hS' hacc => ?_⟩
  rw [Moved.eq_with hm]
  refine hR s'.heap s'.toks acc' c' (fun b o hb hb2 e => hm.heap b o (fun hmem => ?_) e) hS' hacc
  rcases List.mem_cons.mp hmem with e' | hmem
  · exact hb e'
  · exact hb2 (List.mem_singleton.mp hmem)
theorem init_revit {it l S : Addr} {items : Array Value} {R : Result → Shared → Prop} (hh : A.handled = none) (hit : s.heap.IsRevIter it l ((items.size : Int) - 1)) (hl : s.heap.IsList l items) (hne : l ≠ it) (hn : items.size ≤ sizeLine)
    (hSi : S ≠ it) (hSl : S ≠ l) (hS : s.heap.get? S = some { cls := .type "list", data := .seq #[] })
    (hR : ∀ h' tk acc' c', (∀ b o, b ≠ S → b ≠ it → s.heap.get? b = some o → h'.get? b = some o) → h'.get? S = some { cls := .type "list", dict := none, data := .seq acc' c', slots := #[] } → ItemsOf (fun i v => items[items.size - 1 - i]? = some v) acc' items.size → R (.ok (.ret .none)) { s with heap := h', toks := tk }) :
    wpAny (model prog w) A.in1 (Builtin.«list.__init__» ⟨[.ref S, .ref it], []⟩)
      (fun fin s' => match fin with | .done f => R (.ok f) s' | .again c' => c'.quiet = true ∧ codeAny (model prog w) A c' R s') (fun e s' => R (.error e) s') s := by
  show wpAny _ _ (do let old ← Builtin.List.listItems (.ref S); Builtin.List.listUpdate (.ref S) (fun _ => #[]); letGo old.toList.reverse; Builtin.List.listExtendWith (.ref S) (.ref it) .none) _ _ s
  refine wpAny_bind ?_
  unfold Builtin.List.listItems
  refine wpAny_bind (wpAny_seqItems hS rfl (wpAny_pure ?_))
  show wpAny _ _ (updateSeq S (fun _ => #[]) >>= fun _ => letGo (#[] : Array Value).toList.reverse >>= fun _ => Builtin.List.listExtendWith (.ref S) (.ref it) .none) _ _ s
  refine wpAny_bind (wpAny_updateSeq hS rfl ?_)
  have hS₂ := Heap.get?_update_self (Obj.mapSeq (fun _ => (#[] : Array Value))) hS rfl
  have oth : ∀ b o, b ≠ S → s.heap.get? b = some o → (s.heap.update S (Obj.mapSeq (fun _ => (#[] : Array Value)))).get? b = some o :=
    fun b o hb e => (Heap.get?_update_other _ _ (Ne.symm hb)).trans e
  refine wpAny_bind (wpAny_letGo ?_)
  refine extend_revit (c0 := _) hh (hit.at fun o e => oth it o (Ne.symm hSi) e) ?_ hne hn hSi hSl hS₂ (fun h' tk acc' c' hk hS' hacc => ?_)
  · obtain ⟨o, ho, x⟩ := hl
    exact ⟨o, oth l o (Ne.symm hSl) ho, x⟩
  · exact hR h' tk acc' c' (fun b o hb hb2 e => hk b o hb hb2 (oth b o hb e)) hS' hacc
theorem call_list_revit {it l : Addr} {items : Array Value} {Q : Value → Shared → Prop} (hh : A.handled = none) (hit : s.heap.IsRevIter it l ((items.size : Int) - 1)) (hl : s.heap.IsList l items) (hne : l ≠ it) (hn : items.size ≤ sizeLine)
    (hQ : ∀ h' tk acc' c', (∀ b o, b ≠ it → s.heap.get? b = some o → h'.get? b = some o) → h'.get? s.heap.objs.size = some { cls := .type "list", dict := none, data := .seq acc' c', slots := #[] } → ItemsOf (fun i v => items[items.size - 1 - i]? = some v) acc' items.size →
      Q (.ref s.heap.objs.size) { s with heap := h', toks := tk }) :
    wpAny (model prog w) A (call (.type "list") [.ref it]) Q E s := by
  refine callType_codes (Q₁ := fun obj s₁ => obj = .ref s.heap.objs.size ∧ s₁ = { s with heap := s.heap.push { cls := .type "list", data := .seq #[] } }) PySem.F.called_list (PySem.F.typeCall_list_1 _) PySem.F.entry_list_init
    (code_list_new _ ⟨rfl, rfl⟩) fun obj s₁ h₁ => ?_
  obtain ⟨rfl, rfl⟩ := h₁
  have hS : (s.heap.push { cls := .type "list", data := .seq #[] }).get? s.heap.objs.size = some { cls := .type "list", data := .seq #[] } := Heap.get?_push_size _ rfl
  obtain ⟨oi, hoi, _⟩ := id hit
  obtain ⟨ol, hol, _⟩ := id hl
  refine ⟨⟨_, hS, rfl⟩, PySem.F.args_list_init_2 _ _, init_revit (A := A.in1) hh (hit.at fun o e => Heap.get?_push_of_some _ e) (hl.push _) hne hn (Nat.ne_of_gt (Heap.lt_size hoi)) (Nat.ne_of_gt (Heap.lt_size hol)) hS (fun h' tk acc' c' hk hS' hacc => ?_)⟩
  exact ⟨rfl, hQ h' tk acc' c' (fun b o hb e => hk b o (Nat.ne_of_lt (Heap.lt_size e)) hb (Heap.get?_push_of_some _ e)) hS' hacc⟩
end
def tLstRev (K : PySem.W.Frag) (te : TE) : TE := fun σ H Q => te σ H fun v H1 => ∃ (a : Addr) (xs : List V), v = .ref a ∧ SqL K H1 a xs ∧ ∀ q, H1 q = none → Q (.ref q) (upd H1 q (.lst xs.reverse))
theorem pe_lstRev {X : Cx} {K : PySem.W.Frag} {e : Expr} {te : TE} {p p2 pos pos2 : Pos} (hK : X.K = K) (hc : X.calm = true) (hg : Gl X "list") (hm : X.mg "list" = none) (hg2 : Gl X "reversed") (hm2 : X.mg "reversed" = none) (he : PE X e te)
    (hs : starEach [e] X.env = (false, eval e X.env) :: starEach [] X.env := by rfl)
    (hs2 : starEach [.Call (.Name "reversed" p2) [e] [] pos2] X.env = (false, eval (.Call (.Name "reversed" p2) [e] [] pos2) X.env) :: starEach [] X.env := by rfl) :
    PE X (.Call (.Name "list" p) [.Call (.Name "reversed" p2) [e] [] pos2] [] pos) (tLstRev K te) := by
  subst hK
  refine ⟨fun pins s σ H Q I h => ?_⟩
  refine Call_ (ld_blt I hg hm boot_list (PyProof.Rows.callWith_type1 (args_cons (Call_ (ld_blt I hg2 hm2 PyProof.Rows.boot_reversed (PyProof.Rows.callWith_type1 (args_cons (thn (he.run pins s σ H _ I h) fun u s1 ⟨v, H1, I1, r1, q1⟩ => args_nil ?_) hs) hs rfl))) hs2) hs2 rfl))
  obtain ⟨a, xs, ev, hq, q⟩ := q1
  subst ev
  obtain rfl : u = Value.ref a := r1
  obtain ⟨its, rv, p', hz⟩ := I1.list hq
  refine call_reversed_list p'.isList (args_nil ?_)
  have k0 : ∀ b o, s1.heap.get? b = some o → (s1.heap.push (revObj a ((its.toArray.size : Int) - 1))).get? b = some o := fun b o e => Heap.get?_push_of_some _ e
  have I2 : Inv X pins σ H1 { s1 with heap := s1.heap.push (revObj a ((its.toArray.size : Int) - 1)) } := I1.kept (t' := s1.toks) k0
  obtain ⟨f0, f1, f2, f3, f4, f5⟩ := I1.fpOk (H' := H1) (b := s1.heap.objs.size) (Nat.le_refl _) (I1.hok.fresh (Nat.le_refl _))
  have hl := p'.isList
  obtain ⟨ol, hol, _⟩ := id hl
  have hne : a ≠ s1.heap.objs.size := Nat.ne_of_lt (Heap.lt_size hol)
  have hn : its.toArray.size ≤ sizeLine := by rw [List.size_toArray, ← rv.length]; exact hz
  refine call_list_revit (s := { s1 with heap := s1.heap.push (revObj a ((its.toArray.size : Int) - 1)) }) (I1.ok.hd hc) ⟨_, Heap.get?_push_size _ rfl, rfl, rfl⟩ (hl.push _) hne hn fun h' tk acc c' hk hS hi => ?_
  have hS2 : h'.get? (s1.heap.push (revObj a ((its.toArray.size : Int) - 1))).objs.size = some { cls := .type "list", dict := none, data := .seq acc c', slots := #[] } := hS
  generalize hD : (s1.heap.push (revObj a ((its.toArray.size : Int) - 1))).objs.size = D at hS2
  have hle : s1.heap.objs.size ≤ D := by
    rw [← hD, Heap.size_push]
    exact Nat.le_succ _
  have hDn : H1 D = none := I1.hok.fresh hle
  have J : Inv X pins σ (upd H1 D (.lst xs.reverse)) { s1 with heap := h', toks := tk } := by
    refine I1.laid (t' := tk) (fun b o e => hk b o (Nat.ne_of_lt (Heap.lt_size e)) (k0 b o e)) hle ⟨by rw [List.length_reverse]; exact hz, acc.toList, c', vals_rev rv hi, ?_⟩
    rw [Array.toArray_toList]
    exact hS2
  exact ⟨.ref D, _, J, by rw [← hD]; rfl, q D hDn⟩
end Ls

namespace Ls
open PySem PySem.Spec PyProof.Rows L2
/-! ### pictures moved: the plain law -/
def mirT (m : List (List Int)) : List (List Int) := m.map List.reverse
def turnT (m : List (List Int)) : List (List Int) := (List.range (m.headD []).length).map fun k => m.map fun r => r.getD ((m.headD []).length - 1 - k) 0
def turnsT : Nat → List (List Int) → List (List Int)
  | 0, m => m
  | n + 1, m => turnT (turnsT n m)
def moveT (m : List (List Int)) (t s : Nat) : List (List Int) := turnsT t (if s = 1 then mirT m else m)
def cellAt (m : List (List Int)) (i j : Nat) : Int := (m.getD i []).getD j 0
theorem PicHW.head {h w : Nat} {m : List (List Int)} (p : PicHW h w m) (h1 : 1 ≤ h) : (m.headD []).length = w := by
  cases m with
  | nil =>
    have := p.hi
    simp at this
    omega
  | cons a t => exact p.wi a List.mem_cons_self
theorem getD_get {A : Type} {l : List A} {i : Nat} {d x : A} (h : l[i]? = some x) : l.getD i d = x := by
  rw [List.getD_eq_getElem?_getD, h]
  rfl
theorem PicHW.row {h w : Nat} {m : List (List Int)} (p : PicHW h w m) {i : Nat} (hi : i < h) : ∃ r, m[i]? = some r ∧ r.length = w ∧ m.getD i [] = r := by
  have h1 : i < m.length := by rw [p.hi]; exact hi
  exact ⟨m[i], List.getElem?_eq_getElem h1, p.wi _ (List.getElem_mem h1), getD_get (List.getElem?_eq_getElem h1)⟩
theorem PicHW.cell {h w : Nat} {m : List (List Int)} (p : PicHW h w m) {i j : Nat} (hi : i < h) (hj : j < w) : 0 ≤ cellAt m i j ∧ cellAt m i j ≤ 255 := by
  obtain ⟨r, e1, e2, e3⟩ := p.row hi
  have hj2 : j < r.length := by omega
  have e4 : r.getD j 0 = r[j] := getD_get (List.getElem?_eq_getElem hj2)
  unfold cellAt
  rw [e3, e4]
  exact p.ce r (List.mem_of_getElem? e1) _ (List.getElem_mem hj2)
theorem PicHW.ext {h w : Nat} {m m' : List (List Int)} (p : PicHW h w m) (p' : PicHW h w m') (e : ∀ i j, i < h → j < w → cellAt m i j = cellAt m' i j) : m = m' := by
  apply List.ext_getElem?
  intro i
  by_cases hi : i < h
  · obtain ⟨r, e1, e2, e3⟩ := p.row hi
    obtain ⟨r', g1, g2, g3⟩ := p'.row hi
    rw [e1, g1]
    congr 1
    apply List.ext_getElem?
    intro j
    by_cases hj : j < w
    · have z := e i j hi hj
      unfold cellAt at z
      rw [e3, g3] at z
      have a1 : r[j]? = some r[j] := List.getElem?_eq_getElem (by omega)
      have a2 : r'[j]? = some r'[j] := List.getElem?_eq_getElem (by omega)
      rw [getD_get a1, getD_get a2] at z
      rw [a1, a2, z]
    · rw [List.getElem?_eq_none (by omega), List.getElem?_eq_none (by omega)]
  · rw [List.getElem?_eq_none (by rw [p.hi]; omega), List.getElem?_eq_none (by rw [p'.hi]; omega)]
theorem mir_hw {h w : Nat} {m : List (List Int)} (p : PicHW h w m) : PicHW h w (mirT m) := by
  refine ⟨by unfold mirT; rw [List.length_map, p.hi], fun r hr => ?_, fun r hr c hc => ?_⟩
  · unfold mirT at hr
    obtain ⟨z, hz, rfl⟩ := List.mem_map.mp hr
    rw [List.length_reverse, p.wi z hz]
  · unfold mirT at hr
    obtain ⟨z, hz, rfl⟩ := List.mem_map.mp hr
    exact p.ce z hz c (List.mem_reverse.mp hc)
theorem mir_at {h w : Nat} {m : List (List Int)} (p : PicHW h w m) {i j : Nat} (hi : i < h) (hj : j < w) : cellAt (mirT m) i j = cellAt m i (w - 1 - j) := by
  obtain ⟨r, e1, e2, e3⟩ := p.row hi
  have e4 : (mirT m)[i]? = some r.reverse := by
    unfold mirT
    rw [List.getElem?_map, e1]
    rfl
  unfold cellAt
  rw [getD_get e4, e3, List.getD_eq_getElem?_getD, List.getD_eq_getElem?_getD, List.getElem?_reverse (by omega), e2]
theorem turn_hw {h w : Nat} {m : List (List Int)} (p : PicHW h w m) (h1 : 1 ≤ h) : PicHW w h (turnT m) := by
  have hh := p.head h1
  refine ⟨by unfold turnT; rw [List.length_map, List.length_range, hh], fun r hr => ?_, fun r hr c hc => ?_⟩
  · unfold turnT at hr
    obtain ⟨k, hk, rfl⟩ := List.mem_map.mp hr
    rw [List.length_map, p.hi]
  · unfold turnT at hr
    obtain ⟨k, hk, rfl⟩ := List.mem_map.mp hr
    obtain ⟨z, hz, rfl⟩ := List.mem_map.mp hc
    rw [List.mem_range, hh] at hk
    rw [hh]
    have hl : w - 1 - k < z.length := by
      rw [p.wi z hz]
      omega
    rw [getD_get (List.getElem?_eq_getElem hl)]
    exact p.ce z hz _ (List.getElem_mem hl)
theorem turn_at {h w : Nat} {m : List (List Int)} (p : PicHW h w m) {k a : Nat} (hk : k < w) (ha : a < h) : cellAt (turnT m) k a = cellAt m a (w - 1 - k) := by
  have hh := p.head (by omega)
  obtain ⟨r, e1, e2, e3⟩ := p.row ha
  have e4 : (turnT m)[k]? = some (m.map fun r => r.getD (w - 1 - k) 0) := by
    unfold turnT
    rw [hh]
    exact range_map_get _ hk
  unfold cellAt
  rw [getD_get e4, e3, List.getD_eq_getElem?_getD, List.getElem?_map, e1]
  rfl
theorem turns_hw {h w : Nat} {m : List (List Int)} (p : PicHW h w m) (h1 : 1 ≤ h) (w1 : 1 ≤ w) : ∀ n, (n % 2 = 0 → PicHW h w (turnsT n m)) ∧ (n % 2 = 1 → PicHW w h (turnsT n m))
  | 0 => ⟨fun _ => p, fun z => by simp at z⟩
  | n + 1 => ⟨fun z => turn_hw ((turns_hw p h1 w1 n).2 (by omega)) w1, fun z => turn_hw ((turns_hw p h1 w1 n).1 (by omega)) h1⟩
theorem move_hw {h w : Nat} {m : List (List Int)} (p : PicHW h w m) (h1 : 1 ≤ h) (w1 : 1 ≤ w) (t s : Nat) : (t % 2 = 0 → PicHW h w (moveT m t s)) ∧ (t % 2 = 1 → PicHW w h (moveT m t s)) := by
  unfold moveT
  refine turns_hw ?_ h1 w1 t
  by_cases e : s = 1
  · rw [if_pos e]
    exact mir_hw p
  · rw [if_neg e]
    exact p
theorem turn4 {h w : Nat} {m : List (List Int)} (p : PicHW h w m) (h1 : 1 ≤ h) (w1 : 1 ≤ w) : turnT (turnT (turnT (turnT m))) = m := by
  have p1 := turn_hw p h1
  have p2 := turn_hw p1 w1
  have p3 := turn_hw p2 h1
  have p4 := turn_hw p3 w1
  refine p4.ext p fun i j hi hj => ?_
  rw [turn_at p3 hi hj, turn_at p2 hj (by omega), turn_at p1 (by omega) (by omega), turn_at p (by omega) (by omega)]
  rw [show h - 1 - (h - 1 - i) = i by omega, show w - 1 - (w - 1 - j) = j by omega]
end Ls
namespace Ls
open PySem PySem.Spec PyProof.Rows L2
theorem MatF.back {H H1 H2 : Hp} {p : Addr} {rs : List Addr} {m : List (List Int)} (s : Same H H1) (f : MatF H1 H2 p rs m) : MatF H H2 p rs m := ⟨f.top, f.len, f.row, f.nd, fun a ha => s.free (f.new a ha)⟩
theorem range_getD {A B : Type} (f : A → B) (d : A) (m : List A) : (List.range m.length).map (fun i => f (m.getD i d)) = m.map f := by
  apply List.ext_getElem?
  intro i
  by_cases hi : i < m.length
  · rw [range_map_get _ hi, List.getElem?_map, List.getElem?_eq_getElem hi, getD_get (List.getElem?_eq_getElem hi)]
    rfl
  · rw [List.getElem?_eq_none (by simp; omega), List.getElem?_eq_none (by simp; omega)]
end Ls
namespace Ls
open PySem PySem.Spec PyProof.Rows L2
theorem fine_pic {h w : Nat} {m : List (List Int)} (p : PicHW h w m) (h1 : h ≤ 1000) (w1 : w ≤ 1000) : fine (dMat m) = true := fine_mat (by rw [p.hi]; exact h1) fun r hr => by rw [p.wi r hr]; exact w1
theorem fine_move {h w : Nat} {m : List (List Int)} (p : PicHW h w m) (h0 : 1 ≤ h) (w0 : 1 ≤ w) (h1 : h ≤ 1000) (w1 : w ≤ 1000) (t s : Nat) : fine (dMat (moveT m t s)) = true := by
  by_cases e : t % 2 = 0
  · exact fine_pic ((move_hw p h0 w0 t s).1 e) h1 w1
  · exact fine_pic ((move_hw p h0 w0 t s).2 (by omega)) w1 h1
theorem len_move {h w : Nat} {m : List (List Int)} (p : PicHW h w m) (h0 : 1 ≤ h) (w0 : 1 ≤ w) (h1 : h ≤ 1000) (w1 : w ≤ 1000) (t s : Nat) : 1 ≤ (moveT m t s).length ∧ (moveT m t s).length ≤ 1000 ∧ ∀ r ∈ moveT m t s, 1 ≤ r.length ∧ r.length ≤ 1000 := by
  by_cases e : t % 2 = 0
  · have q := (move_hw p h0 w0 t s).1 e
    exact ⟨by rw [q.hi]; exact h0, by rw [q.hi]; exact h1, fun r hr => by rw [q.wi r hr]; exact ⟨w0, w1⟩⟩
  · have q := (move_hw p h0 w0 t s).2 (by omega)
    exact ⟨by rw [q.hi]; exact w0, by rw [q.hi]; exact w1, fun r hr => by rw [q.wi r hr]; exact ⟨h0, h1⟩⟩
end Ls
namespace Ls
open PySem PySem.Spec PyProof.Rows L2
def top (i : Nat) : Stmt := PySem.Challenge.pw_likeshelf_k02_moved.main.body.getD i (.Pass ⟨0, 0, 0, 0⟩)
abbrev s_copied : Stmt := top 1
abbrev s_mirrored : Stmt := top 2
abbrev s_turned : Stmt := top 3
abbrev s_moved : Stmt := top 4
abbrev s__law_cell : Stmt := top 6
abbrev s__law_dice : Stmt := top 7
abbrev s__law_off : Stmt := top 8
abbrev s__law_cells : Stmt := top 9
abbrev s__law_moved : Stmt := top 10
abbrev s__law_alike : Stmt := top 11
abbrev s_law : Stmt := top 12
structure Tx (K : PySem.W.Frag) (mg : Str → Option Value) : Prop where
  g_copied : mg "copied" = some (.ref (He.ga K "copied"))
  g_mirrored : mg "mirrored" = some (.ref (He.ga K "mirrored"))
  g_turned : mg "turned" = some (.ref (He.ga K "turned"))
  g_moved : mg "moved" = some (.ref (He.ga K "moved"))
  g__law_cell : mg "_law_cell" = some (.ref (He.ga K "_law_cell"))
  g__law_dice : mg "_law_dice" = some (.ref (He.ga K "_law_dice"))
  g__law_off : mg "_law_off" = some (.ref (He.ga K "_law_off"))
  g__law_cells : mg "_law_cells" = some (.ref (He.ga K "_law_cells"))
  g__law_moved : mg "_law_moved" = some (.ref (He.ga K "_law_moved"))
  g__law_alike : mg "_law_alike" = some (.ref (He.ga K "_law_alike"))
  g_law : mg "law" = some (.ref (He.ga K "law"))
  z_len : mg "len" = none
  z_range : mg "range" = none
  z_list : mg "list" = none
  z_abs : mg "abs" = none
  z_isinstance : mg "isinstance" = none
  z_all : mg "all" = none
  z_reversed : mg "reversed" = none
  z_int : mg "int" = none
  z_str : mg "str" = none
  z_bool : mg "bool" = none
  z_tuple : mg "tuple" = none
  z_dict : mg "dict" = none
  d_copied : ∃ fd, FunD K "copied" "copied" (defArgs s_copied) (defBody s_copied) (defScope s_copied) [] [] (He.fAd K ("copied", none)) fd
  d_mirrored : ∃ fd, FunD K "mirrored" "mirrored" (defArgs s_mirrored) (defBody s_mirrored) (defScope s_mirrored) [] [] (He.fAd K ("mirrored", none)) fd
  d_turned : ∃ fd, FunD K "turned" "turned" (defArgs s_turned) (defBody s_turned) (defScope s_turned) [] [] (He.fAd K ("turned", none)) fd
  d_moved : ∃ fd, FunD K "moved" "moved" (defArgs s_moved) (defBody s_moved) (defScope s_moved) [] [] (He.fAd K ("moved", none)) fd
  d__law_cell : ∃ fd, FunD K "_law_cell" "_law_cell" (defArgs s__law_cell) (defBody s__law_cell) (defScope s__law_cell) [] [] (He.fAd K ("_law_cell", none)) fd
  d__law_dice : ∃ fd, FunD K "_law_dice" "_law_dice" (defArgs s__law_dice) (defBody s__law_dice) (defScope s__law_dice) [] [] (He.fAd K ("_law_dice", none)) fd
  d__law_off : ∃ fd, FunD K "_law_off" "_law_off" (defArgs s__law_off) (defBody s__law_off) (defScope s__law_off) [] [] (He.fAd K ("_law_off", none)) fd
  d__law_cells : ∃ fd, FunD K "_law_cells" "_law_cells" (defArgs s__law_cells) (defBody s__law_cells) (defScope s__law_cells) [] [] (He.fAd K ("_law_cells", none)) fd
  d__law_moved : ∃ fd, FunD K "_law_moved" "_law_moved" (defArgs s__law_moved) (defBody s__law_moved) (defScope s__law_moved) [] [] (He.fAd K ("_law_moved", none)) fd
  d__law_alike : ∃ fd, FunD K "_law_alike" "_law_alike" (defArgs s__law_alike) (defBody s__law_alike) (defScope s__law_alike) [] [] (He.fAd K ("_law_alike", none)) fd
  d_law : ∃ fd, FunD K "law" "law" (defArgs s_law) (defBody s_law) (defScope s_law) [] [] (He.fAd K ("law", none)) fd
/-! ### copied -/
def sp_copied (K : PySem.W.Frag) : Sp := fun vs H Q _ => ∃ (v : V) (m : List (List Int)), vs = [v] ∧ Dt K H v (dMat m) ∧ m.length ≤ 1000 ∧ ∀ p rs H', Same H H' → MatF H H' p rs m → Q (.ref p) H'
/-! ### mirrored -/
def sp_mirrored (K : PySem.W.Frag) : Sp := fun vs H Q _ => ∃ (v : V) (m : List (List Int)), vs = [v] ∧ Dt K H v (dMat m) ∧ m.length ≤ 1000 ∧ ∀ p rs H', Same H H' → MatF H H' p rs (mirT m) → Q (.ref p) H'
/-! ### turned -/
def sp_turned (K : PySem.W.Frag) : Sp := fun vs H Q _ => ∃ (v : V) (m : List (List Int)) (h w : Nat), vs = [v] ∧ Dt K H v (dMat m) ∧ PicHW h w m ∧ 1 ≤ h ∧ 1 ≤ w ∧ h ≤ 1000 ∧ w ≤ 1000 ∧ ∀ p rs H', Same H H' → MatF H H' p rs (turnT m) → Q (.ref p) H'
/-! ### moved -/
def sp_moved (K : PySem.W.Frag) : Sp := fun vs H Q _ => ∃ (v : V) (m : List (List Int)) (h w : Nat) (t s : Nat) (wy : Addr), vs = [v, .ref wy] ∧ SqT K H wy [.int t, .int s] ∧ Dt K H v (dMat m) ∧ PicHW h w m ∧ 1 ≤ h ∧ 1 ≤ w ∧ h ≤ 1000 ∧ w ≤ 1000 ∧ t ≤ 100 ∧
  ∀ p rs H', Same H H' → MatF H H' p rs (moveT m t s) → Q (.ref p) H'
/-! ### _law_cell -/
def sp__law_cell (K : PySem.W.Frag) : Sp := fun vs H Q _ => ∃ (a : Addr) (ns : List Int) (k : Nat), vs = [.ref a, .int k] ∧ SqL K H a (ns.map V.int) ∧ ∀ i : Int, Q (.int i) H
/-! ### _law_dice -/
def sp__law_dice (K : PySem.W.Frag) : Sp := fun vs H Q _ => ∃ (a : Addr) (ns : List Int), vs = [.ref a, .int 0] ∧ SqL K H a (ns.map V.int) ∧ ns.length ≤ 63 ∧ ∀ p ms H', Same H H' → H p = none → H' p = some (.lst (ms.map V.int)) → DiceL ms → Q (.ref p) H'
/-! ### _law_off -/
def sp__law_off (K : PySem.W.Frag) : Sp := fun vs H Q _ => ∃ (d : Addr) (n : Int), vs = [.ref d, .int n] ∧ Dice H d ∧ 1 ≤ n ∧ n ≤ 1000000 ∧ ∀ (i : Int) (ms : List Int), 0 ≤ i → i < n → DiceL ms → Q (.int i) (upd H d (.lst (ms.map V.int)))
/-- the draw behind the first step -/
theorem dice_set {ms : List Int} {i : Nat} {x : Int} (h : DiceL ms) (hx : 0 ≤ x) : DiceL (ms.set i x) := by
  refine ⟨by rw [List.length_set]; exact h.1, by rw [List.length_set]; exact h.2.1, fun y hy => ?_⟩
  rcases List.mem_or_eq_of_mem_set hy with hy | rfl
  · exact h.2.2 y hy
  · exact hx
theorem dice_pop {a b c : Int} {r : List Int} (h : DiceL (a :: b :: c :: r)) : DiceL (a :: c :: r) := by
  refine ⟨?_, ?_, fun y hy => h.2.2 y ?_⟩
  · show 2 ≤ (a :: c :: r).length
    rw [List.length_cons, List.length_cons]
    omega
  · have := h.2.1
    simp only [List.length_cons] at *
    omega
  · rcases List.mem_cons.mp hy with rfl | hy
    · exact List.mem_cons_self
    · exact List.mem_cons_of_mem _ (List.mem_cons_of_mem _ hy)
/-- the rest of a draw -/
theorem off_two {x0 x1 : Int} {r : List Int} (h : DiceL (x0 :: x1 :: r)) : 0 ≤ x0 ∧ 0 ≤ x1 := ⟨h.2.2 _ List.mem_cons_self, h.2.2 _ (List.mem_cons_of_mem _ List.mem_cons_self)⟩
theorem dice_cases {ms : List Int} (h : DiceL ms) : ∃ x0 x1 r, ms = x0 :: x1 :: r := by
  match ms, h with
  | x0 :: x1 :: r, _ => exact ⟨x0, x1, r, rfl⟩
  | [_], h => exact absurd h.1 (by simp)
  | [], h => exact absurd h.1 (by simp)
/-! ### _law_cells -/
def sp__law_cells (K : PySem.W.Frag) : Sp := fun vs H Q _ => ∃ (F : Hp) (d : Addr) (h w : Nat), vs = [.ref d, .int h, .int w] ∧ Wd (mD d) F H ∧ h ≤ 100 ∧ w ≤ 100 ∧ ∀ v m F' H', Gr (mD d) F H F' H' → PicHW h w m → Dt K F' v (dMat m) → Q v H'
/-! ### _law_moved -/
def sp__law_moved (K : PySem.W.Frag) : Sp := fun vs H Q _ => ∃ (v : V) (m : List (List Int)) (h w : Nat) (t s : Nat) (wy : Addr), vs = [v, .ref wy] ∧ SqT K H wy [.int t, .int s] ∧ Dt K H v (dMat m) ∧ PicHW h w m ∧ 1 ≤ h ∧ 1 ≤ w ∧ h ≤ 1000 ∧ w ≤ 1000 ∧ t ≤ 100 ∧
  ∀ p rs H', Same H H' → MatF H H' p rs (moveT m t s) → Q (.ref p) H'
/-! ### _law_alike -/
def sp_alikeN (K : PySem.W.Frag) (n : Nat) : Sp := fun vs H Q _ => ∃ (v u : V) (d : PyData), vs = [v, u] ∧ Dt K H v d ∧ Dt K H u d ∧ fine d = true ∧ d.depth < n ∧ ∀ H', Same H H' → Q (.bl true) H'
abbrev sp__law_alike (K : PySem.W.Frag) : Sp := sp_alikeN K 200
/-- the last two statements -/
theorem alike_seq {K : PySem.W.Frag} {n : Nat} {H : Hp} {Q : VK} {a b : Addr} {xs ys : List V} {ds : List PyData} (hx : SqL K H a xs ∨ SqT K H a xs) (hy : SqL K H b ys ∨ SqT K H b ys) (dx : DtAll K H xs ds) (dy : DtAll K H ys ds) (nd : (decide (ds.length ≤ 1000) && fines ds) = true) (hd : PyData.depthAll ds < n)
    (q : ∀ H', Same H H' → Q (.bl true) H') :
    tSeq (tIfS (tTest (tOp rNe (tCB (rLenQ K) (tCons (tVar 0) tNil)) (tCB (rLenQ K) (tCons (tVar 1) tNil)))) (tRet (tC (V.bl false))) tNext)
      (tRet (tCB (rAll K) (tCons (tLc (iRng1 (tCons (tCB (rLenQ K) (tCons (tVar 1) tNil)) tNil)) (gName 3) tYes
        (tCall (sp_alikeN K n) [] E0 (tCons (tOp (fun x y H Q => rIxL K x y H Q ∨ rIxT K x y H Q) (tVar 0) (tVar 3)) (tCons (tOp (fun x y H Q => rIxL K x y H Q ∨ rIxT K x y H Q) (tVar 1) (tVar 3)) tNil))) [3]) tNil)))
      { nx := fun x H' => Q V.non H', rt := Q } [some (.ref a), some (.ref b), none, none] H := by
  obtain ⟨nl, nd⟩ := Bool.and_eq_true_iff.mp nd
  have hz := of_decide_eq_true nl
  have lx := dtAll_len dx
  have ly := dtAll_len dy
  refine ⟨.ref a, rfl, a, xs, rfl, hx, .ref b, rfl, b, ys, rfl, hy, rfl, _, rfl, ?_⟩
  rw [show decide (V.int (xs.length : Int) = V.int (ys.length : Int)) = true by rw [lx, ly]; exact decide_eq_true rfl]
  refine iteF ?_
  dsimp only [tRet, tCB, tCons, tNext]
  refine lc_of ?_
  refine ⟨.ref b, rfl, b, ys, rfl, hy, _, rfl, by omega, by omega, ?_⟩
  have e1 : ((ys.length : Nat) : Int).toNat = ys.length := by omega
  rw [e1]
  refine comp_range (m := m0) (F := H) (wd0 (Same.refl H)) (by omega) (fun _ y _ => y = .bl true) (fun _ _ _ _ _ h => h) (by exact fun _ => rfl) ?_ ?_
  · intro i F1 H1 hi g Q1 k1
    have ei : (0 : Int) + (i : Int) = ((i : Nat) : Int) := by omega
    rw [ei]
    have s : Same H H1 := fun b o z => g.h b o (fun y => y) z
    have gd : ds[i]? = some (ds[i]'(by omega)) := List.getElem?_eq_getElem (by omega)
    generalize ds[i]'(by omega) = d at gd
    obtain ⟨x, x1, x2⟩ := dtAll_get dx gd
    obtain ⟨y, y1, y2⟩ := dtAll_get dy gd
    have ix : ∀ (zs : List V) (c : Addr) (z : V) (Qz : VK), (SqL K H c zs ∨ SqT K H c zs) → zs[i]? = some z → Qz z H1 → rIxL K (.ref c) (.int i) H1 Qz ∨ rIxT K (.ref c) (.int i) H1 Qz := by
      intro zs c z Qz h1 h2 h3
      rcases h1 with h1 | h1
      · exact .inl ⟨c, zs, i, z, rfl, rfl, s.seq h1, atI_of h2, h3⟩
      · exact .inr ⟨c, zs, i, z, rfl, rfl, Evl.ex_t s h1, atI_of h2, h3⟩
    refine ⟨.ref a, rfl, _, rfl, ix xs a x _ hx x1 ⟨.ref b, rfl, _, rfl, ix ys b y _ hy y1 ⟨x, y, d, rfl, x2.up s, y2.up s, fines_get nd gd, Nat.lt_of_le_of_lt (depthAll_get gd) hd, fun H2 s2 => ?_⟩⟩⟩
    exact k1 _ F1 H2 (Gr.pure (g.wd (wd0 (Same.refl H))) s2) rfl
  · intro D zs F2 H2 hD g e pr
    have ez := paired_trues pr
    have e2 := g.s D _ e
    rw [ez] at e2
    refine ⟨D, _, rfl, sql_of e2, ?_⟩
    rw [all_trues]
    exact q H2 fun b o z => g.h b o (fun y => y) z
/-! ### law -/
def sp_law (K : PySem.W.Frag) : Sp := fun vs H Q _ => ∃ (a : Addr) (ns : List Int), vs = [.ref a] ∧ SqL K H a (ns.map V.int) ∧ ns.length ≤ 63 ∧ ∀ H', Q (.bl true) H'
theorem sc_copied : FnScope ["rows", "row"] ["rows"] (defScope s_copied) := ⟨rfl, rfl, rfl, by decide +kernel, rfl, by decide +kernel, by decide +kernel⟩
theorem has_copied {P : Program} {w : World} {K : PySem.W.Frag} {mg : Str → Option Value} {base : Heap} {k : Nat} (T : Tx K mg)  : Has P w K mg base (k + 1) "copied" ["rows"] (sp_copied K) := by
  obtain ⟨fd, F⟩ := T.d_copied
  refine ⟨_, fd, ?_, T.g_copied, F.kp, F.bindsN fun _ _ _ _ _ _ us hl => match us, hl with | [_], _ => rfl⟩
  refine F.ok sc_copied (fun vs H Q E h => ?_) (fun cdv A outer s H vs Q E hr h => ?_)
  ·
    repeat first | (obtain ⟨rfl, _⟩ := h; rfl) | (obtain ⟨_, h⟩ := h)
  · have hu := hu_room hr
    refine ⟨_, PSs.nox ((pss_one (ps_ret (pe_lc (own := [("row", 1)]) (by rfl) sc_copied.nd (pi_listQ (K := K) rfl (pv 0)) (blkOk_by (N := ["rows", "row"]) (sc := defScope s_copied) (by decide +kernel)) (fun _ _ _ _ _ => (pg_name (i := 1) sc_copied.nd rfl (by first | exact Or.inl rfl | exact Or.inr rfl))) (fun _ _ _ _ _ => pts_nil) (fun _ _ _ _ _ => (pe_callTy (lstQ (K := K) rfl) (by rfl) T.z_list (by decide +kernel) (pa_cons (pv 1) pa_nil))))))), ?_⟩
    obtain ⟨v, m, rfl, hd, hm, q⟩ := h
    obtain ⟨a, xs, rfl, hS, hl, hrow⟩ := dt_mat hd
    dsimp only [tRet]
    refine lc_of ?_
    refine ⟨.ref a, rfl, a, rfl, ⟨_, sql_of hS⟩, comp_matL (m := m0) (F := H) (wd0 (Same.refl H)) m hl.symm (sql_of hS) (by omega) (fun r => r) (by exact fun _ => rfl) ?_ ?_⟩
    · intro i r x H1 hi hx g Q1 k1
      obtain ⟨b, hb1, hb2⟩ := hrow i r hi
      rw [hx] at hb1
      cases hb1
      have w1 := g.wd (wd0 (Same.refl H))
      exact ⟨.ref b, rfl, b, _, rfl, .inl (sql_of (g.s _ _ hb2)), fun l hl => k1 l _ hl (Gr.pure w1 (same_new hl)) upd_same⟩
    · intro D rs H2 g M
      rw [List.map_id'] at M
      exact q D rs H2 g.s M
theorem sc_mirrored : FnScope ["rows", "row"] ["rows"] (defScope s_mirrored) := ⟨rfl, rfl, rfl, by decide +kernel, rfl, by decide +kernel, by decide +kernel⟩
theorem has_mirrored {P : Program} {w : World} {K : PySem.W.Frag} {mg : Str → Option Value} {base : Heap} {k : Nat} (T : Tx K mg)  : Has P w K mg base (k + 1) "mirrored" ["rows"] (sp_mirrored K) := by
  obtain ⟨fd, F⟩ := T.d_mirrored
  refine ⟨_, fd, ?_, T.g_mirrored, F.kp, F.bindsN fun _ _ _ _ _ _ us hl => match us, hl with | [_], _ => rfl⟩
  refine F.ok sc_mirrored (fun vs H Q E h => ?_) (fun cdv A outer s H vs Q E hr h => ?_)
  ·
    repeat first | (obtain ⟨rfl, _⟩ := h; rfl) | (obtain ⟨_, h⟩ := h)
  · have hu := hu_room hr
    refine ⟨_, PSs.nox ((pss_one (ps_ret (pe_lc (own := [("row", 1)]) (by rfl) sc_mirrored.nd (pi_listQ (K := K) rfl (pv 0)) (blkOk_by (N := ["rows", "row"]) (sc := defScope s_mirrored) (by decide +kernel)) (fun _ _ _ _ _ => (pg_name (i := 1) sc_mirrored.nd rfl (by first | exact Or.inl rfl | exact Or.inr rfl))) (fun _ _ _ _ _ => pts_nil) (fun _ _ _ _ _ => (pe_lstRev (K := K) rfl rfl (by rfl) T.z_list (by rfl) T.z_reversed (pv 1))))))), ?_⟩
    obtain ⟨v, m, rfl, hd, hm, q⟩ := h
    obtain ⟨a, xs, rfl, hS, hl, hrow⟩ := dt_mat hd
    dsimp only [tRet]
    refine lc_of ?_
    refine ⟨.ref a, rfl, a, rfl, ⟨_, sql_of hS⟩, comp_matL (m := m0) (F := H) (wd0 (Same.refl H)) m hl.symm (sql_of hS) (by omega) List.reverse (by exact fun _ => rfl) ?_ ?_⟩
    · intro i r x H1 hi hx g Q1 k1
      obtain ⟨b, hb1, hb2⟩ := hrow i r hi
      rw [hx] at hb1
      cases hb1
      have w1 := g.wd (wd0 (Same.refl H))
      exact ⟨.ref b, rfl, b, _, rfl, sql_of (g.s _ _ hb2), fun l hl => k1 l _ hl (Gr.pure w1 (same_new hl)) (by rw [upd_same, List.map_reverse])⟩
    · intro D rs H2 g M
      exact q D rs H2 g.s M
theorem sc_turned : FnScope ["rows", "wide", "row", "k"] ["rows"] (defScope s_turned) := ⟨rfl, rfl, rfl, by decide +kernel, rfl, by decide +kernel, by decide +kernel⟩
theorem has_turned {P : Program} {w : World} {K : PySem.W.Frag} {mg : Str → Option Value} {base : Heap} {k : Nat} (T : Tx K mg)  : Has P w K mg base (k + 1) "turned" ["rows"] (sp_turned K) := by
  obtain ⟨fd, F⟩ := T.d_turned
  refine ⟨_, fd, ?_, T.g_turned, F.kp, F.bindsN fun _ _ _ _ _ _ us hl => match us, hl with | [_], _ => rfl⟩
  refine F.ok sc_turned (fun vs H Q E h => ?_) (fun cdv A outer s H vs Q E hr h => ?_)
  ·
    repeat first | (obtain ⟨rfl, _⟩ := h; rfl) | (obtain ⟨_, h⟩ := h)
  · have hu := hu_room hr
    refine ⟨_, PSs.nox ((pss_cons (ps_set (i := 1) sc_turned.nd rfl (by first | exact Or.inl rfl | exact Or.inr rfl) (pe_callB (lenQ (K := K) rfl) (by rfl) T.z_len (by decide +kernel) (pa_cons (pe_ix (ixL (K := K) rfl) (pv 0) pe_int (fun _ _ => rfl)) pa_nil)))
    (pss_one (ps_ret (pe_lc (own := [("k", 3)]) (by rfl) sc_turned.nd (pi_range1 (by rfl) T.z_range (pa_cons (pv 1) pa_nil)) (blkOk_by (N := ["rows", "wide", "row", "k"]) (sc := defScope s_turned) (by decide +kernel)) (fun _ _ _ _ _ => (pg_name (i := 3) sc_turned.nd rfl (by first | exact Or.inl rfl | exact Or.inr rfl))) (fun _ _ _ _ _ => pts_nil) (fun _ _ _ _ _ => (pe_lc (own := [("row", 2)]) (by rfl) sc_turned.nd (pi_listQ (K := K) rfl (pv 0)) (blkOk_by (by kernel_rfl)) (fun _ _ _ _ _ => (pg_name (i := 2) sc_turned.nd rfl (by first | exact Or.inl rfl | exact Or.inr rfl))) (fun _ _ _ _ _ => pts_nil) (fun _ _ _ _ _ => (pe_ix (ixL (K := K) rfl) (pv 2) (pe_op op_sub (pe_op op_sub (pv 1) pe_int) (pv 3)) (fun _ _ => rfl)))))))))), ?_⟩
    obtain ⟨v, m, hh, ww, rfl, hd, hp, h1, w1, h2, w2, q⟩ := h
    obtain ⟨a, xs, rfl, hS, hl, hrow⟩ := dt_mat hd
    have hml := hp.hi
    have hhead := hp.head h1
    have hm0 : m[0]? = some (m[0]'(by omega)) := List.getElem?_eq_getElem (by omega)
    obtain ⟨b0, hc1, hc2⟩ := hrow 0 _ hm0
    have hw0 : (m[0]'(by omega)).length = ww := hp.wi _ (List.getElem_mem _)
    refine ⟨.ref a, rfl, a, _, 0, _, rfl, rfl, sql_of hS, atI_nat (j := 0) hc1, b0, _, rfl, .inl (sql_of hc2), ?_⟩
    rw [List.length_map, hw0]
    dsimp only [gName, tRet]
    refine lc_of ?_
    refine ⟨_, rfl, ww, rfl, by omega, by omega, comp_matR (m := m0) (F := H) (n := ww) (wd0 (Same.refl H)) (by omega) (fun k => m.map fun r => r.getD (ww - 1 - k) 0) (by exact fun _ => rfl) ?_ ?_⟩
    · intro k H1 hk g Q1 k1
      have ek : (0 : Int) + (k : Int) = ((k : Nat) : Int) := by omega
      rw [ek]
      have wd1 := g.wd (wd0 (Same.refl H))
      refine lc_of ?_
      refine ⟨.ref a, rfl, a, rfl, ⟨_, sql_of (g.s _ _ hS)⟩, comp_list (m := m0) (F := H) wd1 m hl.symm (sql_of hS) (by omega) (fun r y _ => y = .int (r.getD (ww - 1 - k) 0)) (fun _ _ _ _ _ h => h) (by exact fun _ => rfl) ?_ ?_⟩
      · intro i r x F2 H2 hi hx g2 Q2 k2
        obtain ⟨b, hb1, hb2⟩ := hrow i r hi
        rw [hx] at hb1
        cases hb1
        have hrl := hp.wi r (List.mem_of_getElem? hi)
        have hk2 : ww - 1 - k < r.length := by omega
        refine ⟨.ref b, rfl, .int ww, rfl, ww, 1, rfl, rfl, .int k, rfl, _, k, rfl, rfl, b, _, ((ww - 1 - k : Nat) : Int), _, rfl, ?_, sql_of (g2.s _ _ (g2.f _ _ hb2)), atI_of (map_get (List.getElem?_eq_getElem hk2)), ?_⟩
        · show V.int ((ww : Int) - 1 - (k : Int)) = V.int ((ww - 1 - k : Nat) : Int)
          congr 1
          omega
        · refine k2 _ F2 H2 (Gr.refl (g2.wd wd1)) ?_
          rw [getD_get (List.getElem?_eq_getElem hk2)]
      · intro D ys F2 H2 hD g2 e pr
        have ey := paired_eq (f := fun r : List Int => V.int (r.getD (ww - 1 - k) 0)) pr
        refine k1 D H2 hD (Gr.pure wd1 fun b o z => g2.h b o (fun y => y) z) ?_
        rw [g2.s _ _ e, ey, List.map_map]
        rfl
    · intro D rs H2 g M
      refine q D rs H2 g.s ?_
      unfold turnT
      rw [hhead]
      exact M
theorem sc_moved : FnScope ["rows", "way", "turns", "is_mirrored", "found", "turn"] ["rows", "way"] (defScope s_moved) := ⟨rfl, rfl, rfl, by decide +kernel, rfl, by decide +kernel, by decide +kernel⟩
theorem has_moved {P : Program} {w : World} {K : PySem.W.Frag} {mg : Str → Option Value} {base : Heap} {k : Nat} (T : Tx K mg) (G_turned : Has P w K mg base (k) "turned" ["rows"] (sp_turned K)) (G_mirrored : Has P w K mg base (k) "mirrored" ["rows"] (sp_mirrored K)) (G_copied : Has P w K mg base (k) "copied" ["rows"] (sp_copied K)) : Has P w K mg base (k + 1) "moved" ["rows", "way"] (sp_moved K) := by
  obtain ⟨fd, F⟩ := T.d_moved
  refine ⟨_, fd, ?_, T.g_moved, F.kp, F.bindsN fun _ _ _ _ _ _ us hl => match us, hl with | [_, _], _ => rfl⟩
  refine F.ok sc_moved (fun vs H Q E h => ?_) (fun cdv A outer s H vs Q E hr h => ?_)
  ·
    repeat first | (obtain ⟨rfl, _⟩ := h; rfl) | (obtain ⟨_, h⟩ := h)
  · have hu := hu_room hr
    refine ⟨_, PSs.nox ((pss_cons (ps_asg (pv 1) (pg_tupQ (K := K) rfl rfl (pgs_cons (pg_name (i := 2) sc_moved.nd rfl (by first | exact Or.inl rfl | exact Or.inr rfl)) (pgs_cons (pg_name (i := 3) sc_moved.nd rfl (by first | exact Or.inl rfl | exact Or.inr rfl)) pgs_nil))))
    (pss_cons (ps_set (i := 4) sc_moved.nd rfl (by first | exact Or.inl rfl | exact Or.inr rfl) (pe_ifExp (pt_cmpR op_eq (pv 3) pe_int (nomark _)) (pe_fn G_mirrored hr (by rfl) (pa_cons (pv 0) pa_nil)) (pe_fn G_copied hr (by rfl) (pa_cons (pv 0) pa_nil))))
    (pss_cons (ps_for PassesOwn.never rfl (pi_range1 (by rfl) T.z_range (pa_cons (pv 2) pa_nil)) (pg_name (i := 5) sc_moved.nd rfl (by first | exact Or.inl rfl | exact Or.inr rfl)) (pss_one (ps_set (i := 4) sc_moved.nd rfl (by first | exact Or.inl rfl | exact Or.inr rfl) (pe_fn G_turned hr (by rfl) (pa_cons (pv 4) pa_nil)))))
    (pss_one (ps_ret (pv 4))))))), ?_⟩
    obtain ⟨v, m, hh, ww, t, s, wy, rfl, hT, hd, hp, h1, w1, h2, w2, t2, q⟩ := h
    refine ⟨.ref wy, rfl, wy, _, rfl, hT, rfl, _, _, rfl, _, _, rfl, rfl, ?_⟩
    have hml := hp.hi
    -- behind the first copy
    have rest : ∀ (p : Addr) (rs : List Addr) (H1 : Hp) (b : List (List Int)), Same H H1 → MatF H H1 p rs b → (∀ n, (n % 2 = 0 → PicHW hh ww (turnsT n b)) ∧ (n % 2 = 1 → PicHW ww hh (turnsT n b))) → turnsT t b = moveT m t s →
        tSeq (tFor (iRng1 (tCons (tVar 2) tNil)) (gName 5) (tAsg (tCall (sp_turned K) [] E0 (tCons (tVar 4) tNil)) (gName 4))) (tRet (tVar 4)) { nx := fun x H' => Q V.non H', rt := Q } [some v, some (.ref wy), some (.int t), some (.int s), some (.ref p), none] H1 := by
      intro p rs H1 b s1 M hb et
      try dsimp only [tSeq]
      refine for_of ?_
      refine ⟨_, rfl, t, rfl, by omega, by omega, ?_⟩
      have e1 : ((t : Nat) : Int).toNat = t := by omega
      rw [e1]
      refine forin_range (fun i σ H' => ∃ y p rs, σ = [some v, some (.ref wy), some (.int t), some (.int s), some (.ref p), y] ∧ Same H H' ∧ MatF H H' p rs (turnsT i b)) ⟨_, p, rs, rfl, s1, M⟩ ?_ ?_
      · rintro i σ H' hi ⟨y, p, rs, rfl, s2, M2⟩
        have hcase : ∃ h w, PicHW h w (turnsT i b) ∧ 1 ≤ h ∧ 1 ≤ w ∧ h ≤ 1000 ∧ w ≤ 1000 := by
          by_cases e : i % 2 = 0
          · exact ⟨hh, ww, (hb i).1 e, h1, w1, h2, w2⟩
          · exact ⟨ww, hh, (hb i).2 (by omega), w1, h1, w2, h2⟩
        obtain ⟨h', w', hp', a1, a2, a3, a4⟩ := hcase
        exact ⟨_, rfl, _, _, h', w', rfl, M2.dp, hp', a1, a2, a3, a4, fun p2 rs2 H2 s3 M3 => ⟨_, p2, rs2, rfl, s2.trans s3, M3.back s2⟩⟩
      · rintro σ H' ⟨y, p, rs, rfl, s2, M2⟩
        refine ⟨_, rfl, q p rs H' s2 ?_⟩
        rw [← et]
        exact M2
    refine ⟨.int s, rfl, rfl, _, rfl, ite2 (fun e => ?_) (fun e => ?_)⟩
    · have e1 : s = 1 := by
        have := V.int.inj (of_decide_eq_true e)
        omega
      refine ⟨v, rfl, v, m, rfl, hd, by omega, fun p rs H1 s1 M => ?_⟩
      refine rest p rs H1 (mirT m) s1 M (turns_hw (mir_hw hp) h1 w1) ?_
      unfold moveT
      rw [if_pos e1]
    · have e1 : ¬ s = 1 := fun z => e (decide_eq_true (by rw [z]; rfl))
      refine ⟨v, rfl, v, m, rfl, hd, by omega, fun p rs H1 s1 M => ?_⟩
      refine rest p rs H1 m s1 M (turns_hw hp h1 w1) ?_
      unfold moveT
      rw [if_neg e1]
theorem sc__law_cell : FnScope ["_law_script", "_law_k"] ["_law_script", "_law_k"] (defScope s__law_cell) := ⟨rfl, rfl, rfl, by decide +kernel, rfl, by decide +kernel, by decide +kernel⟩
theorem has__law_cell {P : Program} {w : World} {K : PySem.W.Frag} {mg : Str → Option Value} {base : Heap} {k : Nat} (T : Tx K mg)  : Has P w K mg base (k + 1) "_law_cell" ["_law_script", "_law_k"] (sp__law_cell K) := by
  obtain ⟨fd, F⟩ := T.d__law_cell
  refine ⟨_, fd, ?_, T.g__law_cell, F.kp, F.bindsN fun _ _ _ _ _ _ us hl => match us, hl with | [_, _], _ => rfl⟩
  refine F.ok sc__law_cell (fun vs H Q E h => ?_) (fun cdv A outer s H vs Q E hr h => ?_)
  ·
    repeat first | (obtain ⟨rfl, _⟩ := h; rfl) | (obtain ⟨_, h⟩ := h)
  · have hu := hu_room hr
    refine ⟨_, PSs.nox ((pss_cons (ps_if (pt_cmpR op_lt (pv 1) (pe_callB (lenQ (K := K) rfl) (by rfl) T.z_len (by decide +kernel) (pa_cons (pv 0) pa_nil)) (nomark _)) (pss_one (ps_ret (pe_ix (ixL (K := K) rfl) (pv 0) (pv 1) (fun _ _ => rfl)))) pss_nil)
    (pss_one (ps_ret pe_int)))), ?_⟩
    obtain ⟨a, ns, k, rfl, hS, q⟩ := h
    refine ⟨_, rfl, .ref a, rfl, a, ns.map V.int, rfl, .inl hS, k, _, rfl, rfl, _, rfl, ite2 (fun e => ?_) (fun e => ?_)⟩
    · have e1 : k < ns.length := by
        have := of_decide_eq_true e
        rw [List.length_map] at this
        omega
      exact ⟨_, rfl, _, rfl, a, _, k, _, rfl, rfl, hS, atI_of (map_get (List.getElem?_eq_getElem e1)), q _⟩
    · exact q 0
theorem sc__law_dice : FnScope ["_law_script", "_law_k", "_law_cell_here"] ["_law_script", "_law_k"] (defScope s__law_dice) := ⟨rfl, rfl, rfl, by decide +kernel, rfl, by decide +kernel, by decide +kernel⟩
theorem has__law_dice {P : Program} {w : World} {K : PySem.W.Frag} {mg : Str → Option Value} {base : Heap} {k : Nat} (T : Tx K mg) (G__law_cell : Has P w K mg base (k) "_law_cell" ["_law_script", "_law_k"] (sp__law_cell K)) : Has P w K mg base (k + 1) "_law_dice" ["_law_script", "_law_k"] (sp__law_dice K) := by
  obtain ⟨fd, F⟩ := T.d__law_dice
  refine ⟨_, fd, ?_, T.g__law_dice, F.kp, F.bindsN fun _ _ _ _ _ _ us hl => match us, hl with | [_, _], _ => rfl⟩
  refine F.ok sc__law_dice (fun vs H Q E h => ?_) (fun cdv A outer s H vs Q E hr h => ?_)
  ·
    repeat first | (obtain ⟨rfl, _⟩ := h; rfl) | (obtain ⟨_, h⟩ := h)
  · have hu := hu_room hr
    refine ⟨_, PSs.nox ((pss_one (ps_ret (pe_op op_cat (pe_lst (pa_cons (pe_op op_mod (pe_callB call_abs (by rfl) T.z_abs (by decide +kernel) (pa_cons (pe_fn G__law_cell hr (by rfl) (pa_cons (pv 0) (pa_cons (pv 1) pa_nil))) pa_nil)) pe_int) (pa_cons pe_int pa_nil))) (pe_lc (own := [("_law_cell_here", 2)]) (by rfl) sc__law_dice.nd (pi_listQ (K := K) rfl (pv 0)) (blkOk_by (N := ["_law_script", "_law_k", "_law_cell_here"]) (sc := defScope s__law_dice) (by decide +kernel)) (fun _ _ _ _ _ => (pg_name (i := 2) sc__law_dice.nd rfl (by first | exact Or.inl rfl | exact Or.inr rfl))) (fun _ _ _ _ _ => (pts_one (pt_cmpR op_ge (pv 2) (pe_op op_pow pe_int pe_int) (nomark _)))) (fun _ _ _ _ _ => (pv 2))))))), ?_⟩
    obtain ⟨a, ns, rfl, hS, hlen, q⟩ := h
    refine ⟨.ref a, rfl, .int 0, rfl, a, ns, 0, rfl, hS, fun i => ⟨i, rfl, _, _, rfl, rfl, (by show (0 : Int) < 2147483647; decide), by show 2 ≤ sizeLine; decide, fun l hl => ?_⟩⟩
    dsimp only
    generalize hx : (if i < 0 then -i else i) % 2147483647 = x0
    have hx0 : 0 ≤ x0 := by omega
    have s1 : Same H (upd H l (.lst [.int x0, .int 0])) := same_new hl
    have hS1 := s1.seq hS
    refine lc_of ⟨.ref a, rfl, a, rfl, ⟨_, hS1⟩, comp_listF (m := m0) (F := upd H l (.lst [.int x0, .int 0])) (wd0 (Same.refl _)) ns (by rw [List.length_map]) hS1 (by rw [List.length_map]; omega) (fun c => decide ((10 : Int) ^ (18 : Nat) ≤ c)) (fun c v _ => v = .int c) (fun _ _ _ _ _ h => h) (by exact fun _ => rfl) ?_ ?_⟩
    · intro i b x F1 H1 hi hx gr Q1 Qn k1 k2
      have ex : x = .int b := by
        rw [map_get hi] at hx
        exact (Option.some.inj hx).symm
      subst ex
      refine ⟨.int b, rfl, 10, 18, rfl, rfl, ⟨by decide, by decide, by decide⟩, b, _, rfl, rfl, _, rfl, ?_⟩
      refine ite2 (fun e => ?_) (fun e => ?_)
      · exact ⟨.int b, rfl, k1 e _ F1 H1 (Gr.refl (gr.wd (wd0 (Same.refl _)))) rfl⟩
      · exact k2 (eq_false_of_ne_true e) F1 H1 (Gr.refl (gr.wd (wd0 (Same.refl _))))
    · intro D ys F2 H2 hD g e pr
      have ey := paired_eq pr
      have e1 : H2 l = some (.lst [.int x0, .int 0]) := g.h l _ (fun z => z) upd_same
      refine ⟨l, D, _, _, rfl, rfl, e1, g.s D _ e, ?_, fun p hp => ?_⟩
      · rw [ey, List.length_map]
        have := List.length_filter_le (fun c => decide ((10 : Int) ^ (18 : Nat) ≤ c)) ns
        show 2 + _ ≤ sizeLine
        exact size_le (by omega)
      · refine q p ([x0, 0] ++ ns.filter fun c => decide ((10 : Int) ^ (18 : Nat) ≤ c)) _ (fun b o z => ?_) ?_ ?_ ?_
        · have z2 : H2 b = some o := g.h b o (fun z => z) (s1 b o z)
          rw [upd_ne (ne_of_none z2 hp)]
          exact z2
        · cases z : H p with
          | none => rfl
          | some o =>
            have z2 : H2 p = some o := g.h p o (fun z => z) (s1 p o z)
            rw [hp] at z2
            cases z2
        · rw [upd_same, ey, List.map_append]
          rfl
        · refine ⟨?_, ?_, fun x hx => ?_⟩
          · rw [List.length_append]
            show 2 ≤ 2 + _
            omega
          · have := List.length_filter_le (fun c => decide ((10 : Int) ^ (18 : Nat) ≤ c)) ns
            rw [List.length_append]
            show 2 + _ ≤ 100
            omega
          · rcases List.mem_cons.mp hx with rfl | hx
            · exact hx0
            · rcases List.mem_cons.mp hx with rfl | hx
              · exact Int.le_refl _
              · have := of_decide_eq_true (List.mem_filter.mp hx).2
                have h10 : (0 : Int) ≤ 10 ^ (18 : Nat) := by decide
                omega
theorem sc__law_off : FnScope ["_law_d", "_law_most", "_law_found"] ["_law_d", "_law_most"] (defScope s__law_off) := ⟨rfl, rfl, rfl, by decide +kernel, rfl, by decide +kernel, by decide +kernel⟩
theorem has__law_off {P : Program} {w : World} {K : PySem.W.Frag} {mg : Str → Option Value} {base : Heap} {k : Nat} (T : Tx K mg)  : Has P w K mg base (k + 1) "_law_off" ["_law_d", "_law_most"] (sp__law_off K) := by
  obtain ⟨fd, F⟩ := T.d__law_off
  refine ⟨_, fd, ?_, T.g__law_off, F.kp, F.bindsN fun _ _ _ _ _ _ us hl => match us, hl with | [_, _], _ => rfl⟩
  refine F.ok sc__law_off (fun vs H Q E h => ?_) (fun cdv A outer s H vs Q E hr h => ?_)
  ·
    repeat first | (obtain ⟨rfl, _⟩ := h; rfl) | (obtain ⟨_, h⟩ := h)
  · have hu := hu_room hr
    refine ⟨_, PSs.nox ((pss_cons (ps_if (PW.pt (pw_and (pt_cmpR op_eq (pe_ix (ixL (K := K) rfl) (pv 0) pe_int (fun _ _ => rfl)) pe_int (nomark _)) (pw_and1 (pt_cmpR op_gt (pe_callB (lenQ (K := K) rfl) (by rfl) T.z_len (by decide +kernel) (pa_cons (pv 0) pa_nil)) pe_int (nomark _))))) (pss_one (ps_asg (pe_bmQ (K := K) rfl PySem.F.plainAttrs_list PySem.F.slot_list_pop PySem.F.type_list_pop mt_popAt (pv 0) (pa_cons pe_int pa_nil)) (pg_sub (pv 0) pe_int set_list))) pss_nil)
    (pss_cons (ps_if (pt_cmpR op_gt (pe_ix (ixL (K := K) rfl) (pv 0) pe_int (fun _ _ => rfl)) pe_int (nomark _)) (pss_cons (ps_set (i := 2) sc__law_off.nd rfl (by first | exact Or.inl rfl | exact Or.inr rfl) (pe_op op_mod (pe_ix (ixL (K := K) rfl) (pv 0) pe_int (fun _ _ => rfl)) (pv 1)))
    (pss_cons (ps_asg (pe_op op_fdiv (pe_ix (ixL (K := K) rfl) (pv 0) pe_int (fun _ _ => rfl)) (pv 1)) (pg_sub (pv 0) pe_int set_list))
    (pss_one (ps_ret (pv 2))))) pss_nil)
    (pss_cons (ps_asg (pe_op op_mod (pe_op op_add (pe_op op_mul (pe_ix (ixL (K := K) rfl) (pv 0) pe_int (fun _ _ => rfl)) pe_int) pe_int) pe_int) (pg_sub (pv 0) pe_int set_list))
    (pss_one (ps_ret (pe_op op_mod (pe_op op_fdiv (pe_ix (ixL (K := K) rfl) (pv 0) pe_int (fun _ _ => rfl)) pe_int) (pv 1)))))))), ?_⟩
    obtain ⟨d, n, rfl, ⟨ns, hD, hL⟩, n1, n2, q⟩ := h
    obtain ⟨x0, x1, r, rfl⟩ := dice_cases hL
    -- the second half, from any such state
    have tail : ∀ (H1 : Hp) (y0 y1 : Int) (s : List Int), H1 d = some (.lst ((y0 :: y1 :: s).map V.int)) → DiceL (y0 :: y1 :: s) → (∀ ms : List Int, upd H1 d (.lst (ms.map V.int)) = upd H d (.lst (ms.map V.int))) →
        (tSeq (tIfS (tTest (tOp (rI0 fun i j => V.bl (decide (j < i))) (tOp (rIxL K) (tVar 0) (tC (V.int 1))) (tC (V.int 0)))) (tSeq (tAsg (tOp (rI (fun x j => 0 < j) fun i j => V.int (i % j)) (tOp (rIxL K) (tVar 0) (tC (V.int 1))) (tVar 1)) (gName 2))
          (tSeq (tAsg (tOp (rI CDiv fun i j => V.int (i / j)) (tOp (rIxL K) (tVar 0) (tC (V.int 1))) (tVar 1)) (gSub (tVar 0) (tC (V.int 1)) rSetL)) (tRet (tVar 2)))) tNext)
          (tSeq (tAsg (tOp (rI (fun x j => 0 < j) fun i j => V.int (i % j)) (tOp (rI0 fun i j => V.int (i + j)) (tOp (rI CMul fun i j => V.int (i * j)) (tOp (rIxL K) (tVar 0) (tC (V.int 0))) (tC (V.int 48271))) (tC (V.int 11))) (tC (V.int 2147483647))) (gSub (tVar 0) (tC (V.int 0)) rSetL))
          (tRet (tOp (rI (fun x j => 0 < j) fun i j => V.int (i % j)) (tOp (rI CDiv fun i j => V.int (i / j)) (tOp (rIxL K) (tVar 0) (tC (V.int 0))) (tC (V.int 64))) (tVar 1))))) { nx := fun _ H' => Q .non H', rt := Q } [some (.ref d), some (.int n), none] H1 := by
      intro H1 y0 y1 s h1 hl eq
      obtain ⟨g0, g1⟩ := off_two hl
      refine ⟨.ref d, rfl, d, _, 1, .int y1, rfl, rfl, sql_of h1, atI_nat (j := 1) rfl, y1, 0, rfl, rfl, _, rfl, ite2 (fun e => ?_) (fun e => ?_)⟩
      · have hy : 0 < y1 := of_decide_eq_true e
        have m1 : 0 ≤ y1 % n := Int.emod_nonneg _ (by omega)
        have m2 : y1 % n < n := Int.emod_lt_of_pos _ (by omega)
        refine ⟨.ref d, rfl, d, _, 1, .int y1, rfl, rfl, sql_of h1, atI_nat (j := 1) rfl, .int n, rfl, y1, n, rfl, rfl, by omega, ?_⟩
        refine ⟨.ref d, rfl, d, _, 1, .int y1, rfl, rfl, sql_of h1, atI_nat (j := 1) rfl, .int n, rfl, y1, n, rfl, rfl, ⟨by omega, by omega⟩, ?_⟩
        refine ⟨.ref d, rfl, d, _, 1, 1, rfl, rfl, h1, ixN_of (j := 1) (by simp), ?_⟩
        refine ⟨.int (y1 % n), rfl, ?_⟩
        have hl2 := dice_set (i := 1) hl (x := y1 / n) (Int.ediv_nonneg (by omega) (by omega))
        have z := q (y1 % n) (y0 :: y1 / n :: s) m1 m2 hl2
        rw [← eq] at z
        exact z
      · refine ⟨.ref d, rfl, d, _, 0, .int y0, rfl, rfl, sql_of h1, atI_nat (j := 0) rfl, y0, 48271, rfl, rfl, .inr ⟨by decide, by decide⟩, _, 11, rfl, rfl, _, 2147483647, rfl, rfl, (by show (0 : Int) < 2147483647; decide), ?_⟩
        refine ⟨.ref d, rfl, d, _, 0, 0, rfl, rfl, h1, ixN_of (j := 0) (by simp), ?_⟩
        dsimp only
        generalize hz : (y0 * 48271 + 11) % 2147483647 = z0
        have hz0 : 0 ≤ z0 := by omega
        have h2 : upd H1 d (.lst (((y0 :: y1 :: s).map V.int).set 0 (.int z0))) d = some (.lst ((z0 :: y1 :: s).map V.int)) := upd_same
        refine ⟨.ref d, rfl, d, _, 0, .int z0, rfl, rfl, sql_of h2, atI_nat (j := 0) rfl, z0, 64, rfl, rfl, ⟨by decide, by decide⟩, .int n, rfl, _, n, rfl, rfl, by omega, ?_⟩
        have hl2 := dice_set (i := 0) hl (x := z0) hz0
        have z := q (z0 / 64 % n) (z0 :: y1 :: s) (Int.emod_nonneg _ (by omega)) (Int.emod_lt_of_pos _ (by omega)) hl2
        rw [← eq] at z
        exact z
    refine ⟨.ref d, rfl, d, _, 1, .int x1, rfl, rfl, sql_of hD, atI_nat (j := 1) rfl, rfl, _, rfl, ?_⟩
    
    refine ite2 (fun e => ?_) (fun e => ?_)
    · refine ⟨.ref d, rfl, d, _, rfl, .inl (sql_of hD), _, 2, rfl, rfl, _, rfl, ite2 (fun e2 => ?_) (fun e2 => ?_)⟩
      · match r, hL, hD, e2 with
        | c :: s, hL, hD, _ =>
          refine ⟨.ref d, rfl, .inl ⟨rfl, _, sql_of hD⟩, d, _, 2, 2, .int c, rfl, rfl, hD, by decide, by decide, seqIx_of (j := 2) (by simp), rfl, ?_⟩
          have h1 : upd H d (.lst (((x0 :: x1 :: c :: s).map V.int).eraseIdx 2)) d = some (.lst ((x0 :: x1 :: s).map V.int)) := upd_same
          refine ⟨.ref d, rfl, d, _, 1, 1, rfl, rfl, h1, ixN_of (j := 1) (by simp), ?_⟩
          exact tail _ x0 c s upd_same (dice_pop hL) (fun ms => by rw [upd_upd, upd_upd])
        | [], hL, hD, e2 => exact absurd (of_decide_eq_true e2) (by simp)
      · exact tail H x0 x1 r hD hL (fun _ => rfl)
    · refine iteF ?_
      exact tail H x0 x1 r hD hL (fun _ => rfl)
theorem sc__law_cells : FnScope ["_law_d", "_law_high", "_law_wide", "_law_most", "_law_k", "_law_at"] ["_law_d", "_law_high", "_law_wide"] (defScope s__law_cells) := ⟨rfl, rfl, rfl, by decide +kernel, rfl, by decide +kernel, by decide +kernel⟩
theorem has__law_cells {P : Program} {w : World} {K : PySem.W.Frag} {mg : Str → Option Value} {base : Heap} {k : Nat} (T : Tx K mg) (G__law_off : Has P w K mg base (k) "_law_off" ["_law_d", "_law_most"] (sp__law_off K)) : Has P w K mg base (k + 1) "_law_cells" ["_law_d", "_law_high", "_law_wide"] (sp__law_cells K) := by
  obtain ⟨fd, F⟩ := T.d__law_cells
  refine ⟨_, fd, ?_, T.g__law_cells, F.kp, F.bindsN fun _ _ _ _ _ _ us hl => match us, hl with | [_, _, _], _ => rfl⟩
  refine F.ok sc__law_cells (fun vs H Q E h => ?_) (fun cdv A outer s H vs Q E hr h => ?_)
  ·
    repeat first | (obtain ⟨rfl, _⟩ := h; rfl) | (obtain ⟨_, h⟩ := h)
  · have hu := hu_room hr
    refine ⟨_, PSs.nox ((pss_cons (ps_set (i := 3) sc__law_cells.nd rfl (by first | exact Or.inl rfl | exact Or.inr rfl) (pe_ix (ixL (K := K) rfl) (pe_lst (pa_cons pe_int (pa_cons pe_int (pa_cons pe_int pa_nil)))) (pe_fn G__law_off hr (by rfl) (pa_cons (pv 0) (pa_cons pe_int pa_nil))) (fun _ _ => rfl)))
    (pss_one (ps_ret (pe_lc (own := [("_law_at", 5)]) (by rfl) sc__law_cells.nd (pi_range1 (by rfl) T.z_range (pa_cons (pv 1) pa_nil)) (blkOk_by (N := ["_law_d", "_law_high", "_law_wide", "_law_most", "_law_k", "_law_at"]) (sc := defScope s__law_cells) (by decide +kernel)) (fun _ _ _ _ _ => (pg_name (i := 5) sc__law_cells.nd rfl (by first | exact Or.inl rfl | exact Or.inr rfl))) (fun _ _ _ _ _ => pts_nil) (fun _ _ _ _ _ => (pe_lc (own := [("_law_k", 4)]) (by rfl) sc__law_cells.nd (pi_range1 (by rfl) T.z_range (pa_cons (pv 2) pa_nil)) (blkOk_by (by kernel_rfl)) (fun _ _ _ _ _ => (pg_name (i := 4) sc__law_cells.nd rfl (by first | exact Or.inl rfl | exact Or.inr rfl))) (fun _ _ _ _ _ => pts_nil) (fun _ _ _ _ _ => (pe_fn G__law_off hr (by rfl) (pa_cons (pv 0) (pa_cons (pv 3) pa_nil))))))))))), ?_⟩
    obtain ⟨F, d, hh, ww, rfl, wd, h1, h2, q⟩ := h
    refine ⟨by show 3 ≤ sizeLine; decide, fun l hl => ?_⟩
    have g1 := (Gr.refl wd).wr (o := .lst [.int 2, .int 4, .int 256]) wd hl (wd.s.free hl)
    refine ⟨.ref d, rfl, d, 3, rfl, (g1.wd wd).j, by decide, by decide, fun i ms i0 i1 hm => ?_⟩
    have g2 := gr_dice (g1.wd wd) hm
    have g12 := g1.trans wd g2
    have wd2 := g12.wd wd
    have lm := (Lm.new (u := .lst [.int 2, .int 4, .int 256]) wd (Gr.refl wd) hl).gr wd g2
    obtain ⟨m, hm, m1, m2⟩ : ∃ m : Int, ([.int 2, .int 4, .int 256] : List V)[i.toNat]? = some (.int m) ∧ 1 ≤ m ∧ m ≤ 256 := by
      have hi : i = 0 ∨ i = 1 ∨ i = 2 := by omega
      rcases hi with rfl | rfl | rfl
      · exact ⟨2, rfl, by decide, by decide⟩
      · exact ⟨4, rfl, by decide, by decide⟩
      · exact ⟨256, rfl, by decide, by decide⟩
    refine ⟨l, _, i, .int m, rfl, rfl, sql_of lm.h, atI_ofI i0 hm, ?_⟩
    dsimp only [gName, tRet]
    refine lc_of ?_
    refine ⟨.int hh, rfl, hh, rfl, by omega, by omega, comp_range (n := hh) wd2 (by omega) (fun _ y F' => ∃ r : List Int, (r.length = ww ∧ ∀ c ∈ r, 0 ≤ c ∧ c ≤ 255) ∧ Dt K F' y (dRow r)) (fun _ _ _ _ s ⟨r, a, b⟩ => ⟨r, a, b.up s⟩) (by exact fun _ => rfl) ?_ ?_⟩
    · intro a F3 H3 ha g3 Q1 k1
      have wd3 := g3.wd wd2
      refine lc_of ?_
      refine ⟨.int ww, rfl, ww, rfl, by omega, by omega, comp_range (n := ww) wd3 (by omega) (fun _ y _ => ∃ c : Int, y = .int c ∧ 0 ≤ c ∧ c ≤ 255) (fun _ _ _ _ _ h => h) (by exact fun _ => rfl) ?_ ?_⟩
      · intro b F4 H4 hb g4 Q2 k2
        exact ⟨.ref d, rfl, .int m, rfl, d, m, rfl, (g4.wd wd3).j, m1, by omega, fun i ms i0 i1 hm => k2 _ F4 _ (gr_dice (g4.wd wd3) hm) ⟨i, rfl, i0, by omega⟩⟩
      · intro D ys F4 H4 hD g4 e pr
        obtain ⟨r, e1, e2, e3⟩ := paired_vals pr
        rw [List.length_range] at e2
        rw [e1] at e
        exact k1 _ F4 H4 g4 ⟨r, ⟨e2, e3⟩, dt_row_mk e⟩
    · intro D ys F3 H3 hD g3 e pr
      obtain ⟨ds, p1, p2⟩ := paired_ex pr
      have hp := paired_all p1
      have hl2 := paired_len p1
      rw [List.length_range] at hl2
      exact q _ ds F3 H3 (g12.trans wd g3) ⟨hl2.symm, fun r hr => (hp r hr).1, fun r hr => (hp r hr).2⟩ (.lst e p2)
theorem sc__law_moved : FnScope ["_law_rows", "_law_way", "_law_found", "_law_row", "_law_turn", "_law_wide", "_law_at", "_law_k"] ["_law_rows", "_law_way"] (defScope s__law_moved) := ⟨rfl, rfl, rfl, by decide +kernel, rfl, by decide +kernel, by decide +kernel⟩
theorem has__law_moved {P : Program} {w : World} {K : PySem.W.Frag} {mg : Str → Option Value} {base : Heap} {k : Nat} (T : Tx K mg)  : Has P w K mg base (k + 1) "_law_moved" ["_law_rows", "_law_way"] (sp__law_moved K) := by
  obtain ⟨fd, F⟩ := T.d__law_moved
  refine ⟨_, fd, ?_, T.g__law_moved, F.kp, F.bindsN fun _ _ _ _ _ _ us hl => match us, hl with | [_, _], _ => rfl⟩
  refine F.ok sc__law_moved (fun vs H Q E h => ?_) (fun cdv A outer s H vs Q E hr h => ?_)
  ·
    repeat first | (obtain ⟨rfl, _⟩ := h; rfl) | (obtain ⟨_, h⟩ := h)
  · have hu := hu_room hr
    refine ⟨_, PSs.nox ((pss_cons (ps_set (i := 2) sc__law_moved.nd rfl (by first | exact Or.inl rfl | exact Or.inr rfl) (pe_lc (own := [("_law_row", 3)]) (by rfl) sc__law_moved.nd (pi_listQ (K := K) rfl (pv 0)) (blkOk_by (N := ["_law_rows", "_law_way", "_law_found", "_law_row", "_law_turn", "_law_wide", "_law_at", "_law_k"]) (sc := defScope s__law_moved) (by decide +kernel)) (fun _ _ _ _ _ => (pg_name (i := 3) sc__law_moved.nd rfl (by first | exact Or.inl rfl | exact Or.inr rfl))) (fun _ _ _ _ _ => pts_nil) (fun _ _ _ _ _ => (pe_callTy (lstQ (K := K) rfl) (by rfl) T.z_list (by decide +kernel) (pa_cons (pv 3) pa_nil)))))
    (pss_cons (ps_if (pt_cmpR op_eq (pe_ix (ixT (K := K) rfl) (pv 1) pe_int (fun _ _ => rfl)) pe_int (nomark _)) (pss_one (ps_set (i := 2) sc__law_moved.nd rfl (by first | exact Or.inl rfl | exact Or.inr rfl) (pe_lc (own := [("_law_row", 3)]) (by rfl) sc__law_moved.nd (pi_listQ (K := K) rfl (pv 2)) (blkOk_by (N := ["_law_rows", "_law_way", "_law_found", "_law_row", "_law_turn", "_law_wide", "_law_at", "_law_k"]) (sc := defScope s__law_moved) (by decide +kernel)) (fun _ _ _ _ _ => (pg_name (i := 3) sc__law_moved.nd rfl (by first | exact Or.inl rfl | exact Or.inr rfl))) (fun _ _ _ _ _ => pts_nil) (fun _ _ _ _ _ => (pe_revLQ (K := K) rfl (pv 3)))))) pss_nil)
    (pss_cons (ps_for PassesOwn.never rfl (pi_range1 (by rfl) T.z_range (pa_cons (pe_ix (ixT (K := K) rfl) (pv 1) pe_int (fun _ _ => rfl)) pa_nil)) (pg_name (i := 4) sc__law_moved.nd rfl (by first | exact Or.inl rfl | exact Or.inr rfl)) (pss_cons (ps_set (i := 5) sc__law_moved.nd rfl (by first | exact Or.inl rfl | exact Or.inr rfl) (pe_callB (lenQ (K := K) rfl) (by rfl) T.z_len (by decide +kernel) (pa_cons (pe_ix (ixL (K := K) rfl) (pv 2) pe_int (fun _ _ => rfl)) pa_nil)))
    (pss_one (ps_set (i := 2) sc__law_moved.nd rfl (by first | exact Or.inl rfl | exact Or.inr rfl) (pe_lc (own := [("_law_k", 7)]) (by rfl) sc__law_moved.nd (pi_range1 (by rfl) T.z_range (pa_cons (pv 5) pa_nil)) (blkOk_by (N := ["_law_rows", "_law_way", "_law_found", "_law_row", "_law_turn", "_law_wide", "_law_at", "_law_k"]) (sc := defScope s__law_moved) (by decide +kernel)) (fun _ _ _ _ _ => (pg_name (i := 7) sc__law_moved.nd rfl (by first | exact Or.inl rfl | exact Or.inr rfl))) (fun _ _ _ _ _ => pts_nil) (fun _ _ _ _ _ => (pe_lc (own := [("_law_at", 6)]) (by rfl) sc__law_moved.nd (pi_range1 (by rfl) T.z_range (pa_cons (pe_callB (lenQ (K := K) rfl) (by rfl) T.z_len (by decide +kernel) (pa_cons (pv 2) pa_nil)) pa_nil)) (blkOk_by (by kernel_rfl)) (fun _ _ _ _ _ => (pg_name (i := 6) sc__law_moved.nd rfl (by first | exact Or.inl rfl | exact Or.inr rfl))) (fun _ _ _ _ _ => pts_nil) (fun _ _ _ _ _ => (pe_ix (ixL (K := K) rfl) (pe_ix (ixL (K := K) rfl) (pv 2) (pv 6) (fun _ _ => rfl)) (pe_op op_sub (pe_op op_sub (pv 5) pe_int) (pv 7)) (fun _ _ => rfl))))))))))
    (pss_one (ps_ret (pv 2))))))), ?_⟩
    obtain ⟨v, m, hh, ww, t, s, wy, rfl, hT, hd, hp, h1, w1, h2, w2, t2, q⟩ := h
    obtain ⟨a, xs, rfl, hS, hl, hrow⟩ := dt_mat hd
    have hml := hp.hi
    dsimp only [tSeq, tAsg]
    refine lc_of ?_
    refine ⟨.ref a, rfl, a, rfl, ⟨_, sql_of hS⟩, comp_matL (m := m0) (F := H) (wd0 (Same.refl H)) m hl.symm (sql_of hS) (by omega) (fun r => r) (by exact fun _ => rfl) ?_ ?_⟩
    · intro i r x H1 hi hx g Q1 k1
      obtain ⟨b, hb1, hb2⟩ := hrow i r hi
      rw [hx] at hb1
      cases hb1
      have w1 := g.wd (wd0 (Same.refl H))
      exact ⟨.ref b, rfl, b, _, rfl, .inl (sql_of (g.s _ _ hb2)), fun l hl => k1 l _ hl (Gr.pure w1 (same_new hl)) upd_same⟩
    intro p rs H1 g1 M1
    rw [List.map_id'] at M1
    have s1 : Same H H1 := g1.s
    clear g1
    -- behind the first copy
    have rest : ∀ (p : Addr) (rs : List Addr) (H1 : Hp) (b : List (List Int)) (y3 : Option V), Same H H1 → MatF H H1 p rs b → (∀ n, (n % 2 = 0 → PicHW hh ww (turnsT n b)) ∧ (n % 2 = 1 → PicHW ww hh (turnsT n b))) → turnsT t b = moveT m t s →
        tSeq (tFor (iRng1 (tCons (tOp (rIxT K) (tVar 1) (tC (V.int 0))) tNil)) (gName 4)
              (tSeq (tAsg (tCB (rLenQ K) (tCons (tOp (rIxL K) (tVar 2) (tC (V.int 0))) tNil)) (gName 5))
                (tAsg
                  (tLc (iRng1 (tCons (tVar 5) tNil)) (gName 7) tYes
                    (tLc (iRng1 (tCons (tCB (rLenQ K) (tCons (tVar 2) tNil)) tNil)) (gName 6) tYes
                      (tOp (rIxL K) (tOp (rIxL K) (tVar 2) (tVar 6))
                        (tOp (rI0 fun i j => V.int (i - j)) (tOp (rI0 fun i j => V.int (i - j)) (tVar 5) (tC (V.int 1)))
                          (tVar 7)))
                      [6])
                    [7])
                  (gName 2))))
            (tRet (tVar 2)) { nx := fun x H' => Q V.non H', rt := Q } [some (.ref a), some (.ref wy), some (.ref p), y3, none, none, none, none] H1 := by
      intro p rs H1 b y3 s1 M hb et
      try dsimp only [tSeq]
      refine for_of ?_
      refine ⟨_, rfl, wy, _, 0, _, rfl, rfl, Evl.ex_t s1 hT, atI_nat (j := 0) rfl, t, rfl, by omega, by omega, ?_⟩
      have e1 : ((t : Nat) : Int).toNat = t := by omega
      rw [e1]
      refine forin_range (fun i σ H' => ∃ y3 y4 y5 y6 y7 p rs, σ = [some (.ref a), some (.ref wy), some (.ref p), y3, y4, y5, y6, y7] ∧ Same H H' ∧ MatF H H' p rs (turnsT i b)) ⟨_, _, _, _, _, p, rs, rfl, s1, M⟩ ?_ ?_
      · rintro i σ H3 hi ⟨y3, y4, y5, y6, y7, p, rs, rfl, s3, M3⟩
        have hcase : ∃ h w, PicHW h w (turnsT i b) ∧ 1 ≤ h ∧ 1 ≤ w ∧ h ≤ 1000 ∧ w ≤ 1000 := by
          by_cases e : i % 2 = 0
          · exact ⟨hh, ww, (hb i).1 e, h1, w1, h2, w2⟩
          · exact ⟨ww, hh, (hb i).2 (by omega), w1, h1, w2, h2⟩
        obtain ⟨h', w', hp', a1, a2, a3, a4⟩ := hcase
        have et3 : turnsT (i + 1) b = turnT (turnsT i b) := rfl
        rw [et3]
        generalize turnsT i b = c at hp' M3
        obtain ⟨p0, zs, ep, hS3, hl3, hrow3⟩ := dt_mat (M3.dp (K := K))
        cases ep
        have hcl := hp'.hi
        obtain ⟨b0, hc1, hc2⟩ := hrow3 0 _ (List.getElem?_eq_getElem (by omega))
        have hw0 : (c[0]'(by omega)).length = w' := hp'.wi _ (List.getElem_mem _)
        refine ⟨.ref p, rfl, p, _, 0, _, rfl, rfl, sql_of hS3, atI_nat (j := 0) hc1, b0, _, rfl, .inl (sql_of hc2), ?_⟩
        rw [List.length_map, hw0]
        dsimp only [gName, tAsg]
        refine lc_of ?_
        refine ⟨_, rfl, w', rfl, by omega, by omega, comp_matR (m := m0) (F := H3) (n := w') (wd0 (Same.refl H3)) (by omega) (fun k => c.map fun r => r.getD (w' - 1 - k) 0) (by exact fun _ => rfl) ?_ ?_⟩
        · intro k H4 hk g Q1 k1
          have ek : (0 : Int) + (k : Int) = ((k : Nat) : Int) := by omega
          rw [ek]
          have wd1 := g.wd (wd0 (Same.refl H3))
          refine lc_of ?_
          refine ⟨.ref p, rfl, p, zs, rfl, .inl (sql_of (g.s _ _ hS3)), _, rfl, by omega, by omega, ?_⟩
          have e2 : ((zs.length : Nat) : Int).toNat = c.length := by omega
          rw [e2]
          refine comp_range (m := m0) (F := H3) wd1 (by omega) (fun j y _ => y = .int ((c.getD j []).getD (w' - 1 - k) 0)) (fun _ _ _ _ _ h => h) (by exact fun _ => rfl) ?_ ?_
          · intro j F5 H5 hj g5 Q2 k2
            have ej : (0 : Int) + (j : Int) = ((j : Nat) : Int) := by omega
            rw [ej]
            have hcj : c[j]? = some c[j] := List.getElem?_eq_getElem hj
            obtain ⟨bj, hb1, hb2⟩ := hrow3 j _ hcj
            have hrl := hp'.wi _ (List.getElem_mem hj)
            have hk2 : w' - 1 - k < (c[j]).length := by omega
            have s5 := g5.s
            refine ⟨.ref p, rfl, .int j, rfl, p, zs, j, _, rfl, rfl, sql_of (s5 _ _ (g5.f _ _ hS3)), atI_of hb1, .int w', rfl, w', 1, rfl, rfl, .int k, rfl, _, k, rfl, rfl, bj, _, ((w' - 1 - k : Nat) : Int), _, rfl, ?_, sql_of (s5 _ _ (g5.f _ _ hb2)), atI_of (map_get (List.getElem?_eq_getElem hk2)), ?_⟩
            · show V.int ((w' : Int) - 1 - (k : Int)) = V.int ((w' - 1 - k : Nat) : Int)
              congr 1
              omega
            · refine k2 _ F5 H5 (Gr.refl (g5.wd wd1)) ?_
              rw [getD_get hcj, getD_get (List.getElem?_eq_getElem hk2)]
          · intro D ys F5 H5 hD g5 e pr
            have ey := paired_eq (f := fun j : Nat => V.int ((c.getD j []).getD (w' - 1 - k) 0)) pr
            refine k1 D H5 hD (Gr.pure wd1 fun b o z => g5.h b o (fun y => y) z) ?_
            rw [g5.s _ _ e, ey, ← range_getD (fun r : List Int => r.getD (w' - 1 - k) 0) [] c, List.map_map]
            rfl
        · intro D rs4 H4 g M4
          refine ⟨_, _, _, _, _, D, rs4, rfl, s3.trans g.s, ?_⟩
          have M5 := M4.back s3
          unfold turnT
          rw [hp'.head a1]
          exact M5
      · rintro σ H' ⟨y3, y4, y5, y6, y7, p, rs, rfl, s2, M2⟩
        refine ⟨_, rfl, q p rs H' s2 ?_⟩
        rw [← et]
        exact M2
    refine ⟨.ref wy, rfl, wy, _, 1, _, rfl, rfl, Evl.ex_t s1 hT, atI_nat (j := 1) rfl, rfl, _, rfl, ite2 (fun e => ?_) (fun e => ?_)⟩
    · have e1 : s = 1 := by
        have := V.int.inj (of_decide_eq_true e)
        omega
      obtain ⟨p0, zs, ep, hS3, hl3, hrow3⟩ := dt_mat (M1.dp (K := K))
      cases ep
      dsimp only [gName, tAsg]
      refine lc_of ?_
      refine ⟨.ref p, rfl, p, rfl, ⟨_, sql_of hS3⟩, comp_matL (m := m0) (F := H1) (wd0 (Same.refl H1)) m hl3.symm (sql_of hS3) (by omega) List.reverse (by exact fun _ => rfl) ?_ ?_⟩
      · intro i r x H2 hi hx g Q1 k1
        obtain ⟨b, hb1, hb2⟩ := hrow3 i r hi
        rw [hx] at hb1
        cases hb1
        have w1 := g.wd (wd0 (Same.refl H1))
        exact ⟨.ref b, rfl, b, _, rfl, sql_of (g.s _ _ hb2), fun l hl => k1 l _ hl (Gr.pure w1 (same_new hl)) (by rw [upd_same, List.map_reverse])⟩
      · intro D rs2 H2 g M2
        refine rest D rs2 H2 (mirT m) _ (s1.trans g.s) (M2.back s1) (turns_hw (mir_hw hp) h1 w1) ?_
        unfold moveT
        rw [if_pos e1]
    · have e1 : ¬ s = 1 := fun z => e (decide_eq_true (by rw [z]; rfl))
      refine rest p rs H1 m _ s1 M1 (turns_hw hp h1 w1) ?_
      unfold moveT
      rw [if_neg e1]
theorem sc__law_alike : FnScope ["_law_found", "_law_due", "_law_name", "_law_k"] ["_law_found", "_law_due"] (defScope s__law_alike) := ⟨rfl, rfl, rfl, by decide +kernel, rfl, by decide +kernel, by decide +kernel⟩
theorem has__law_alike {P : Program} {w : World} {K : PySem.W.Frag} {mg : Str → Option Value} {base : Heap} {k : Nat} (T : Tx K mg) : ∀ n, Has P w K mg base (k + n) "_law_alike" ["_law_found", "_law_due"] (sp_alikeN K n)
  | 0 => by
    obtain ⟨fd, F⟩ := T.d__law_alike
    refine ⟨_, fd, FnOk.vac fun vs H Q E h => ?_, T.g__law_alike, F.kp, F.bindsN fun _ _ _ _ _ _ us hl => match us, hl with | [_, _], _ => rfl⟩
    obtain ⟨_, _, _, _, _, _, _, h, _⟩ := h
    exact absurd h (Nat.not_lt_zero _)
  | n + 1 => by
    have G__law_alike : Has P w K mg base (k + n) "_law_alike" ["_law_found", "_law_due"] (sp_alikeN K n) := has__law_alike T n
    obtain ⟨fd, F⟩ := T.d__law_alike
    refine ⟨_, fd, ?_, T.g__law_alike, F.kp, F.bindsN fun _ _ _ _ _ _ us hl => match us, hl with | [_, _], _ => rfl⟩
    refine F.ok sc__law_alike (fun vs H Q E h => ?_) (fun cdv A outer s H vs Q E hr h => ?_)
    · obtain ⟨_, _, _, rfl, _⟩ := h
      rfl
    · refine ⟨_, PSs.nox ((pss_cons (ps_if (pt_cmpR op_isN (pv 1) pe_non (nomark _)) (pss_one (ps_ret (pe_cmpR op_isN (pv 0) pe_non (nomark _)))) pss_nil)
    (pss_cons (ps_if (pt_val (pe_callB (isiQ (K := K) rfl) (by rfl) T.z_isinstance (by decide +kernel) (pa_cons (pv 1) (pa_cons (pe_bltn (v := .ty "bool") (by rfl) T.z_bool (by decide +kernel) rfl) pa_nil)))) (pss_one (ps_ret (pe_and (pe_callB (isiQ (K := K) rfl) (by rfl) T.z_isinstance (by decide +kernel) (pa_cons (pv 0) (pa_cons (pe_bltn (v := .ty "bool") (by rfl) T.z_bool (by decide +kernel) rfl) pa_nil))) (pe_one (pe_cmpR op_eq (pv 0) (pv 1) (nomark _)))))) pss_nil)
    (pss_cons (ps_if (pt_val (pe_callB (isiQ (K := K) rfl) (by rfl) T.z_isinstance (by decide +kernel) (pa_cons (pv 1) (pa_cons (pe_bltn (v := .ty "int") (by rfl) T.z_int (by decide +kernel) rfl) pa_nil)))) (pss_one (ps_ret (pe_and (pe_callB (isiQ (K := K) rfl) (by rfl) T.z_isinstance (by decide +kernel) (pa_cons (pv 0) (pa_cons (pe_bltn (v := .ty "int") (by rfl) T.z_int (by decide +kernel) rfl) pa_nil))) (pe_and (pe_not (pe_callB (isiQ (K := K) rfl) (by rfl) T.z_isinstance (by decide +kernel) (pa_cons (pv 0) (pa_cons (pe_bltn (v := .ty "bool") (by rfl) T.z_bool (by decide +kernel) rfl) pa_nil)))) (pe_one (pe_cmpR op_eq (pv 0) (pv 1) (nomark _))))))) pss_nil)
    (pss_cons (ps_if (pt_val (pe_callB (isiQ (K := K) rfl) (by rfl) T.z_isinstance (by decide +kernel) (pa_cons (pv 1) (pa_cons (pe_bltn (v := .ty "str") (by rfl) T.z_str (by decide +kernel) rfl) pa_nil)))) (pss_one (ps_ret (pe_and (pe_callB (isiQ (K := K) rfl) (by rfl) T.z_isinstance (by decide +kernel) (pa_cons (pv 0) (pa_cons (pe_bltn (v := .ty "str") (by rfl) T.z_str (by decide +kernel) rfl) pa_nil))) (pe_one (pe_cmpR op_eq (pv 0) (pv 1) (nomark _)))))) pss_nil)
    (pss_cons (ps_if (pt_val (pe_callB (isiQ (K := K) rfl) (by rfl) T.z_isinstance (by decide +kernel) (pa_cons (pv 1) (pa_cons (pe_bltn (v := .ty "dict") (by rfl) T.z_dict (by decide +kernel) rfl) pa_nil)))) pss_never pss_nil)
    (pss_cons (ps_if (PW.pt (pw_or (pt_cmpR op_ne (pe_callB (isiQ (K := K) rfl) (by rfl) T.z_isinstance (by decide +kernel) (pa_cons (pv 1) (pa_cons (pe_bltn (v := .ty "tuple") (by rfl) T.z_tuple (by decide +kernel) rfl) pa_nil))) (pe_callB (isiQ (K := K) rfl) (by rfl) T.z_isinstance (by decide +kernel) (pa_cons (pv 0) (pa_cons (pe_bltn (v := .ty "tuple") (by rfl) T.z_tuple (by decide +kernel) rfl) pa_nil))) (nomark _)) (pw_or1 (pt_cmpR op_ne (pe_callB (isiQ (K := K) rfl) (by rfl) T.z_isinstance (by decide +kernel) (pa_cons (pv 1) (pa_cons (pe_bltn (v := .ty "list") (by rfl) T.z_list (by decide +kernel) rfl) pa_nil))) (pe_callB (isiQ (K := K) rfl) (by rfl) T.z_isinstance (by decide +kernel) (pa_cons (pv 0) (pa_cons (pe_bltn (v := .ty "list") (by rfl) T.z_list (by decide +kernel) rfl) pa_nil))) (nomark _))))) (pss_one (ps_ret pe_bl)) pss_nil)
    (pss_cons (ps_if (pt_cmpR op_ne (pe_callB (lenQ (K := K) rfl) (by rfl) T.z_len (by decide +kernel) (pa_cons (pv 0) pa_nil)) (pe_callB (lenQ (K := K) rfl) (by rfl) T.z_len (by decide +kernel) (pa_cons (pv 1) pa_nil)) (nomark _)) (pss_one (ps_ret pe_bl)) pss_nil)
    (pss_one (ps_ret (pe_callB (allQ (K := K) rfl rfl) (by rfl) T.z_all (by decide +kernel) (pa_cons (pe_lc (own := [("_law_k", 3)]) (by rfl) sc__law_alike.nd (pi_range1 (by rfl) T.z_range (pa_cons (pe_callB (lenQ (K := K) rfl) (by rfl) T.z_len (by decide +kernel) (pa_cons (pv 1) pa_nil)) pa_nil)) (blkOk_by (N := ["_law_found", "_law_due", "_law_name", "_law_k"]) (sc := defScope s__law_alike) (by decide +kernel)) (fun _ _ _ _ _ => (pg_name (i := 3) sc__law_alike.nd rfl (by first | exact Or.inl rfl | exact Or.inr rfl))) (fun _ _ _ _ _ => pts_nil) (fun _ _ _ _ _ => (pe_fn G__law_alike hr (by rfl) (pa_cons (pe_ix (IxR.or (ixL (K := K) rfl) (ixT (K := K) rfl)) (pv 0) (pv 3) (fun _ _ => rfl)) (pa_cons (pe_ix (IxR.or (ixL (K := K) rfl) (ixT (K := K) rfl)) (pv 1) (pv 3) (fun _ _ => rfl)) pa_nil))))) pa_nil)))))))))))), ?_⟩
      obtain ⟨v, u, d, rfl, hv, hu, nd, hd, q⟩ := h
      have tv := tyx_of hv
      have tu := tyx_of hu
      cases hu with
      | non =>
        cases hv
        exact ⟨_, rfl, rfl, _, rfl, iteT ⟨_, rfl, rfl, q H (Same.refl H)⟩⟩
      | bl b =>
        cases hv
        dsimp only [tyN] at tv tu
        refine ⟨_, rfl, rfl, _, rfl, iteF ?_⟩
        refine ⟨_, rfl, _, .ty "bool", _, .type "bool", true, rfl, .ty _, tu, kit_ty (by decide +kernel), true, rfl, iteT ?_⟩
        refine ⟨_, rfl, _, .ty "bool", _, .type "bool", true, rfl, .ty _, tv, kit_ty (by decide +kernel), true, rfl, iteT ?_⟩
        refine ⟨_, rfl, _, rfl, rfl, ?_⟩
        rw [decide_eq_true rfl]
        exact q H (Same.refl H)
      | int i =>
        cases hv
        dsimp only [tyN] at tv tu
        refine ⟨_, rfl, rfl, _, rfl, iteF ?_⟩
        refine ⟨_, rfl, _, .ty "bool", _, .type "bool", false, rfl, .ty _, tu, kit_ty (by decide +kernel), false, rfl, iteF ?_⟩
        refine ⟨_, rfl, _, .ty "int", _, .type "int", true, rfl, .ty _, tu, kit_ty (by decide +kernel), true, rfl, iteT ?_⟩
        refine ⟨_, rfl, _, .ty "int", _, .type "int", true, rfl, .ty _, tv, kit_ty (by decide +kernel), true, rfl, iteT ?_⟩
        refine ⟨_, rfl, _, .ty "bool", _, .type "bool", false, rfl, .ty _, tv, kit_ty (by decide +kernel), false, rfl, true, rfl, iteT ?_⟩
        refine ⟨_, rfl, _, rfl, rfl, ?_⟩
        rw [decide_eq_true rfl]
        exact q H (Same.refl H)
      | str x =>
        cases hv
        dsimp only [tyN] at tv tu
        refine ⟨_, rfl, rfl, _, rfl, iteF ?_⟩
        refine ⟨_, rfl, _, .ty "bool", _, .type "bool", false, rfl, .ty _, tu, kit_ty (by decide +kernel), false, rfl, iteF ?_⟩
        refine ⟨_, rfl, _, .ty "int", _, .type "int", false, rfl, .ty _, tu, kit_ty (by decide +kernel), false, rfl, iteF ?_⟩
        refine ⟨_, rfl, _, .ty "str", _, .type "str", true, rfl, .ty _, tu, kit_ty (by decide +kernel), true, rfl, iteT ?_⟩
        refine ⟨_, rfl, _, .ty "str", _, .type "str", true, rfl, .ty _, tv, kit_ty (by decide +kernel), true, rfl, iteT ?_⟩
        refine ⟨_, rfl, _, rfl, rfl, ?_⟩
        rw [decide_eq_true rfl]
        exact q H (Same.refl H)
      | lst hy dy =>
        cases hv with
        | lst hx dx =>
          dsimp only [tyN] at tv tu
          refine ⟨_, rfl, rfl, _, rfl, iteF ?_⟩
          refine ⟨_, rfl, _, .ty "bool", _, .type "bool", false, rfl, .ty _, tu, kit_ty (by decide +kernel), false, rfl, iteF ?_⟩
          refine ⟨_, rfl, _, .ty "int", _, .type "int", false, rfl, .ty _, tu, kit_ty (by decide +kernel), false, rfl, iteF ?_⟩
          refine ⟨_, rfl, _, .ty "str", _, .type "str", false, rfl, .ty _, tu, kit_ty (by decide +kernel), false, rfl, iteF ?_⟩
          refine ⟨_, rfl, _, .ty "dict", _, .type "dict", false, rfl, .ty _, tu, kit_ty (by decide +kernel), false, rfl, iteF ?_⟩
          refine ⟨_, rfl, _, .ty "tuple", _, .type "tuple", false, rfl, .ty _, tu, kit_ty (by decide +kernel), _, rfl, _, .ty "tuple", _, .type "tuple", false, rfl, .ty _, tv, kit_ty (by decide +kernel), rfl, false, rfl, iteF ?_⟩
          refine ⟨_, rfl, _, .ty "list", _, .type "list", true, rfl, .ty _, tu, kit_ty (by decide +kernel), _, rfl, _, .ty "list", _, .type "list", true, rfl, .ty _, tv, kit_ty (by decide +kernel), rfl, false, rfl, iteF ?_⟩
          rw [PyData.depth] at hd
          rw [fine] at nd
          exact alike_seq (.inl (sql_of hx)) (.inl (sql_of hy)) dx dy nd (Nat.lt_of_succ_lt_succ hd) q
      | tup hy dy =>
        cases hv with
        | tup hx dx =>
          dsimp only [tyN] at tv tu
          refine ⟨_, rfl, rfl, _, rfl, iteF ?_⟩
          refine ⟨_, rfl, _, .ty "bool", _, .type "bool", false, rfl, .ty _, tu, kit_ty (by decide +kernel), false, rfl, iteF ?_⟩
          refine ⟨_, rfl, _, .ty "int", _, .type "int", false, rfl, .ty _, tu, kit_ty (by decide +kernel), false, rfl, iteF ?_⟩
          refine ⟨_, rfl, _, .ty "str", _, .type "str", false, rfl, .ty _, tu, kit_ty (by decide +kernel), false, rfl, iteF ?_⟩
          refine ⟨_, rfl, _, .ty "dict", _, .type "dict", false, rfl, .ty _, tu, kit_ty (by decide +kernel), false, rfl, iteF ?_⟩
          refine ⟨_, rfl, _, .ty "tuple", _, .type "tuple", true, rfl, .ty _, tu, kit_ty (by decide +kernel), _, rfl, _, .ty "tuple", _, .type "tuple", true, rfl, .ty _, tv, kit_ty (by decide +kernel), rfl, false, rfl, iteF ?_⟩
          refine ⟨_, rfl, _, .ty "list", _, .type "list", false, rfl, .ty _, tu, kit_ty (by decide +kernel), _, rfl, _, .ty "list", _, .type "list", false, rfl, .ty _, tv, kit_ty (by decide +kernel), rfl, false, rfl, iteF ?_⟩
          rw [PyData.depth] at hd
          rw [fine] at nd
          exact alike_seq (.inr hx) (.inr hy) dx dy nd (Nat.lt_of_succ_lt_succ hd) q
      | dic _ _ =>
        rw [fine] at nd
        cases nd
theorem sc_law : FnScope ["_law_script", "_law_d", "_law_most", "_law_rows", "_law_handed", "_law_row", "_law_turns", "_law_side", "_law_found"] ["_law_script"] (defScope s_law) := ⟨rfl, rfl, rfl, by decide +kernel, rfl, by decide +kernel, by decide +kernel⟩
theorem ok_law {P : Program} {w : World} {K : PySem.W.Frag} {mg : Str → Option Value} {base : Heap} {k : Nat} {f : Addr} {fd : FuncData} (T : Tx K mg) (G_turned : Has P w K mg base (k) "turned" ["rows"] (sp_turned K)) (G__law_alike : Has P w K mg base (k) "_law_alike" ["_law_found", "_law_due"] (sp__law_alike K)) (G__law_moved : Has P w K mg base (k) "_law_moved" ["_law_rows", "_law_way"] (sp__law_moved K)) (G_moved : Has P w K mg base (k) "moved" ["rows", "way"] (sp_moved K)) (G_mirrored : Has P w K mg base (k) "mirrored" ["rows"] (sp_mirrored K)) (G__law_cells : Has P w K mg base (k) "_law_cells" ["_law_d", "_law_high", "_law_wide"] (sp__law_cells K)) (G__law_off : Has P w K mg base (k) "_law_off" ["_law_d", "_law_most"] (sp__law_off K)) (G__law_dice : Has P w K mg base (k) "_law_dice" ["_law_script", "_law_k"] (sp__law_dice K)) (F : FunD K "law" "law" (defArgs s_law) (defBody s_law) (defScope s_law) [] [] f fd) : FnOk P w K mg base (L2.CX P w) (k + 1) f fd ["_law_script"] (sp_law K) := by
  refine F.ok sc_law (fun vs H Q E h => ?_) (fun cdv A outer s H vs Q E hr h => ?_)
  ·
    repeat first | (obtain ⟨rfl, _⟩ := h; rfl) | (obtain ⟨_, h⟩ := h)
  · have hu := hu_room hr
    refine ⟨_, PSs.nox ((pss_cons (ps_set (i := 1) sc_law.nd rfl (by first | exact Or.inl rfl | exact Or.inr rfl) (pe_fn G__law_dice hr (by rfl) (pa_cons (pv 0) (pa_cons pe_int pa_nil))))
    (pss_cons (ps_set (i := 2) sc_law.nd rfl (by first | exact Or.inl rfl | exact Or.inr rfl) (pe_ix (ixL (K := K) rfl) (pe_lst (pa_cons pe_int (pa_cons pe_int pa_nil))) (pe_fn G__law_off hr (by rfl) (pa_cons (pv 1) (pa_cons pe_int pa_nil))) (fun _ _ => rfl)))
    (pss_cons (ps_set (i := 3) sc_law.nd rfl (by first | exact Or.inl rfl | exact Or.inr rfl) (pe_fn G__law_cells hr (by rfl) (pa_cons (pv 1) (pa_cons (pe_op op_add pe_int (pe_fn G__law_off hr (by rfl) (pa_cons (pv 1) (pa_cons (pv 2) pa_nil)))) (pa_cons (pe_op op_add pe_int (pe_fn G__law_off hr (by rfl) (pa_cons (pv 1) (pa_cons (pv 2) pa_nil)))) pa_nil)))))
    (pss_cons (ps_setLc (i := 4) (own := [("_law_row", 5)]) (by rfl) sc_law.nd rfl rfl (sw_true rfl rfl rfl (by decide +kernel)) (pi_listQ (K := K) rfl (pv 3)) (blkOk_by (N := ["_law_script", "_law_d", "_law_most", "_law_rows", "_law_handed", "_law_row", "_law_turns", "_law_side", "_law_found"]) (sc := defScope s_law) (by decide +kernel)) (fun _ _ _ _ _ => (pg_name (i := 5) sc_law.nd rfl (by first | exact Or.inl rfl | exact Or.inr rfl))) (fun _ _ _ _ _ => pts_nil) (fun _ _ _ _ _ => (pe_callTy (lstQ (K := K) rfl) (by rfl) T.z_list (by decide +kernel) (pa_cons (pv 5) pa_nil))))
    (pss_cons (ps_if (pt_not (pt_val (pe_fn G__law_alike hr (by rfl) (pa_cons (pe_fn G_mirrored hr (by rfl) (pa_cons (pv 4) pa_nil)) (pa_cons (pe_fn G__law_moved hr (by rfl) (pa_cons (pv 3) (pa_cons (pe_tup (pa_cons pe_int (pa_cons pe_int pa_nil))) pa_nil))) pa_nil))))) (pss_one (ps_ret pe_bl)) pss_nil)
    (pss_cons (ps_if (pt_not (pt_val (pe_fn G__law_alike hr (by rfl) (pa_cons (pe_fn G_turned hr (by rfl) (pa_cons (pv 4) pa_nil)) (pa_cons (pe_fn G__law_moved hr (by rfl) (pa_cons (pv 3) (pa_cons (pe_tup (pa_cons pe_int (pa_cons pe_int pa_nil))) pa_nil))) pa_nil))))) (pss_one (ps_ret pe_bl)) pss_nil)
    (pss_cons (ps_for PassesOwn.never rfl (pi_range1 (by rfl) T.z_range (pa_cons pe_int pa_nil)) (pg_name (i := 6) sc_law.nd rfl (by first | exact Or.inl rfl | exact Or.inr rfl)) (pss_one (ps_for PassesOwn.never rfl (pi_range1 (by rfl) T.z_range (pa_cons pe_int pa_nil)) (pg_name (i := 7) sc_law.nd rfl (by first | exact Or.inl rfl | exact Or.inr rfl)) (pss_cons (ps_set (i := 8) sc_law.nd rfl (by first | exact Or.inl rfl | exact Or.inr rfl) (pe_fn G_moved hr (by rfl) (pa_cons (pv 4) (pa_cons (pe_tup (pa_cons (pv 6) (pa_cons (pv 7) pa_nil))) pa_nil))))
    (pss_cons (ps_if (pt_not (pt_val (pe_fn G__law_alike hr (by rfl) (pa_cons (pv 8) (pa_cons (pe_fn G__law_moved hr (by rfl) (pa_cons (pv 3) (pa_cons (pe_tup (pa_cons (pv 6) (pa_cons (pv 7) pa_nil))) pa_nil))) pa_nil))))) (pss_one (ps_ret pe_bl)) pss_nil)
    (pss_cons (ps_expr (pe_bmQ (K := K) rfl PySem.F.plainAttrs_list PySem.F.slot_list_append PySem.F.type_list_append mt_append (pe_ix (ixL (K := K) rfl) (pv 8) pe_int (fun _ _ => rfl)) (pa_cons pe_int pa_nil)))
    (pss_one (ps_expr (pe_bmQ (K := K) rfl PySem.F.plainAttrs_list PySem.F.slot_list_append PySem.F.type_list_append mt_append (pv 8) (pa_cons (pe_lst pa_nil) pa_nil))))))))))
    (pss_one (ps_ret (pe_and (pe_cmpR (eqQ (K := K) rfl hr.units) (pv 4) (pv 3) (nomark _)) (pe_one (pe_cmpR (eqQ (K := K) rfl hr.units) (pe_fn G_turned hr (by rfl) (pa_cons (pe_fn G_turned hr (by rfl) (pa_cons (pe_fn G_turned hr (by rfl) (pa_cons (pe_fn G_turned hr (by rfl) (pa_cons (pv 4) pa_nil)) pa_nil)) pa_nil)) pa_nil)) (pv 3) (nomark _)))))))))))))), ?_⟩
    obtain ⟨a, ns, rfl, hS, hlen, q⟩ := h
    -- d = _law_dice(script, 0)
    refine ⟨.ref a, rfl, a, ns, rfl, hS, hlen, fun d ms H1 s1 zd hd hL => ?_⟩
    have w1 : Wd (mD d) H H1 := ⟨s1, fun b e => by rw [show b = d from e]; exact zd, ⟨ms, hd, hL⟩⟩
    -- most = [4, 16][off]
    refine ⟨by show 2 ≤ sizeLine; decide, fun l hl => ?_⟩
    have g1 := (Gr.refl w1).wr (o := .lst [.int 4, .int 16]) w1 hl (w1.s.free hl)
    refine ⟨.ref d, rfl, d, 2, rfl, (g1.wd w1).j, by decide, by decide, fun i ms0 i0 i1 hm => ?_⟩
    have g2 := gr_dice (g1.wd w1) hm
    have lm := (Lm.new (u := .lst [.int 4, .int 16]) w1 (Gr.refl w1) hl).gr w1 g2
    have w2 := (g1.trans w1 g2).wd w1
    obtain ⟨most, hmost, m1, m2⟩ : ∃ m : Int, ([.int 4, .int 16] : List V)[i.toNat]? = some (.int m) ∧ 1 ≤ m ∧ m ≤ 16 := by
      have hi : i = 0 ∨ i = 1 := by omega
      rcases hi with rfl | rfl
      · exact ⟨4, rfl, by decide, by decide⟩
      · exact ⟨16, rfl, by decide, by decide⟩
    refine ⟨l, _, i, .int most, rfl, rfl, sql_of lm.h, atI_ofI i0 hmost, ?_⟩
    -- rows = _law_cells(d, 1 + off, 1 + off)
    refine ⟨.ref d, rfl, .ref d, rfl, .int most, rfl, d, most, rfl, w2.j, m1, by omega, fun i1 ms1 i10 i11 hm1 => ?_⟩
    have g3 := gr_dice w2 hm1
    have w3 := g3.wd w2
    refine ⟨1, i1, rfl, rfl, .ref d, rfl, .int most, rfl, d, most, rfl, w3.j, m1, by omega, fun i2 ms2 i20 i21 hm2 => ?_⟩
    have g4 := gr_dice w3 hm2
    have w4 := g4.wd w3
    obtain ⟨h1, rfl⟩ := Int.eq_ofNat_of_zero_le i10
    obtain ⟨h2, rfl⟩ := Int.eq_ofNat_of_zero_le i20
    refine ⟨1, _, rfl, rfl, H, d, h1 + 1, h2 + 1, ?_, w4, by omega, by omega, fun v m F5 H5 g5 hpic hv => ?_⟩
    · show [V.ref d, V.int (1 + (h1 : Int)), V.int (1 + (h2 : Int))] = _
      rw [show (1 : Int) + (h1 : Int) = ((h1 + 1 : Nat) : Int) by omega, show (1 : Int) + (h2 : Int) = ((h2 + 1 : Nat) : Int) by omega]
    have w5 := g5.wd w4
    obtain ⟨ar, xs, rfl, hR, hl, hrow⟩ := dt_mat hv
    have hlm : m.length = h1 + 1 := hpic.hi
    -- handed = [list(row) for row in rows]
    dsimp only [gName, tAsg, tSeq]
    refine lc_of ?_
    refine ⟨.ref ar, rfl, ar, rfl, ⟨_, sql_of (w5.s _ _ hR)⟩, comp_list (F := F5) w5 m hl.symm (sql_of hR) (by rw [hl]; omega) (fun r y F' => Dt K F' y (dRow r)) (fun _ _ _ _ s h => h.up s) (by exact fun _ => rfl) ?_ ?_⟩
    · intro i r x F1 H6 hi hx g Q1 k1
      obtain ⟨b, hb1, hb2⟩ := hrow i r hi
      rw [hx] at hb1
      cases hb1
      have w6 := g.wd w5
      refine ⟨.ref b, rfl, b, _, rfl, .inl (sql_of (w6.s _ _ (g.f _ _ hb2))), fun l hl => ?_⟩
      exact k1 _ _ _ ((Gr.refl w6).new w6 hl) (dt_row_mk upd_same)
    intro D ys F H6 hD g6 e6 pr
    have hH : Dt K F (.ref D) (dMat m) := .lst e6 (paired_dt pr)
    have hRo : Dt K F (.ref ar) (dMat m) := hv.up g6.f
    have s6 : Same F H6 := g6.s
    clear g6 g5 g4 g3 g2 g1 w5 w4 w3 w2 w1 lm hm hm1 hm2 hR hrow hv e6
    have fm : ∀ t s, fine (dMat (moveT m t s)) = true := fine_move hpic (by omega) (by omega) (by omega) (by omega)
    have dm : ∀ t s, (dMat (moveT m t s)).depth < 200 := fun t s => by have := depth_mat (moveT m t s); omega
    have hp1 : 1 ≤ h1 + 1 := by omega
    have hp2 : 1 ≤ h2 + 1 := by omega
    have hp3 : h1 + 1 ≤ 1000 := by omega
    have hp4 : h2 + 1 ≤ 1000 := by omega
    -- not alike(mirrored(handed), _law_moved(rows, (0, 1)))
    refine ⟨.ref D, rfl, _, m, rfl, hH.up s6, by omega, fun p1 rs1 H7 s7 M7 => ?_⟩
    refine ⟨.ref ar, rfl, by show 2 ≤ sizeLine; decide, fun T hT => ?_⟩
    refine ⟨_, m, h1 + 1, h2 + 1, 0, 1, T, rfl, sqt_of upd_same, (hRo.up (s6.trans s7)).up (same_new hT), hpic, hp1, hp2, hp3, hp4, by omega, fun p2 rs2 H8 s8 M8 => ?_⟩
    refine ⟨_, _, _, rfl, (M7.dp.up (same_new hT)).up s8, M8.dp, fm 0 1, dm 0 1, fun H9 s9 => ⟨true, rfl, iteF ?_⟩⟩
    have s9' : Same F H9 := (((s6.trans s7).trans (same_new hT)).trans s8).trans s9
    clear s6 s7 M7 hT M8 s8 s9
    -- not alike(turned(handed), _law_moved(rows, (1, 0)))
    refine ⟨.ref D, rfl, _, m, h1 + 1, h2 + 1, rfl, hH.up s9', hpic, hp1, hp2, hp3, hp4, fun p1 rs1 H7 s7 M7 => ?_⟩
    refine ⟨.ref ar, rfl, by show 2 ≤ sizeLine; decide, fun T hT => ?_⟩
    refine ⟨_, m, h1 + 1, h2 + 1, 1, 0, T, rfl, sqt_of upd_same, (hRo.up (s9'.trans s7)).up (same_new hT), hpic, hp1, hp2, hp3, hp4, by omega, fun p2 rs2 H8 s8 M8 => ?_⟩
    refine ⟨_, _, _, rfl, (M7.dp.up (same_new hT)).up s8, M8.dp, fm 1 0, dm 1 0, fun H10 s10 => ⟨true, rfl, iteF ?_⟩⟩
    have sF : Same F H10 := (((s9'.trans s7).trans (same_new hT)).trans s8).trans s10
    clear s9' s7 M7 hT M8 s8 s10
    -- for turns in range(4), for side in range(2)
    try dsimp only [tNext, tSeq]
    refine for_of ?_
    refine ⟨4, rfl, by decide, by decide, forin_range (n := 4) (fun i σ H' => ∃ y5 y6 y7 y8, σ = [some (.ref a), some (.ref d), some (.int most), some (.ref ar), some (.ref D), y5, y6, y7, y8] ∧ Same F H') ⟨_, _, _, _, rfl, sF⟩ ?_ ?_⟩
    · rintro i σ H7 hi ⟨y5, y6, y7, y8, rfl, s7⟩
      have ei : (0 : Int) + (i : Int) = ((i : Nat) : Int) := by omega
      rw [ei]
      try dsimp only [gName]
      refine for_of ?_
      refine ⟨2, rfl, by decide, by decide, forin_range (n := 2) (fun j σ H' => ∃ y5 y7 y8, σ = [some (.ref a), some (.ref d), some (.int most), some (.ref ar), some (.ref D), y5, some (.int i), y7, y8] ∧ Same F H') ⟨_, _, _, rfl, s7⟩ ?_ ?_⟩
      · rintro j σ H8 hj ⟨y5, y7, y8, rfl, s8⟩
        have ej : (0 : Int) + (j : Int) = ((j : Nat) : Int) := by omega
        rw [ej]
        -- found = moved(handed, (turns, side))
        refine ⟨.ref D, rfl, .int i, rfl, .int j, rfl, by show 2 ≤ sizeLine; decide, fun T hT => ?_⟩
        refine ⟨_, m, h1 + 1, h2 + 1, i, j, T, rfl, sqt_of upd_same, (hH.up s8).up (same_new hT), hpic, hp1, hp2, hp3, hp4, by omega, fun p1 rs1 H9 s9 M9 => ?_⟩
        have s89 : Same H8 H9 := (same_new hT).trans s9
        -- alike(found, _law_moved(rows, (turns, side)))
        refine ⟨.ref p1, rfl, .ref ar, rfl, .int i, rfl, .int j, rfl, by show 2 ≤ sizeLine; decide, fun T2 hT2 => ?_⟩
        refine ⟨_, m, h1 + 1, h2 + 1, i, j, T2, rfl, sqt_of upd_same, (hRo.up (s8.trans s89)).up (same_new hT2), hpic, hp1, hp2, hp3, hp4, by omega, fun p2 rs2 H10 s10 M10 => ?_⟩
        have M1 := (M9.back (same_new hT)).same ((same_new hT2).trans s10)
        refine ⟨_, _, _, rfl, M1.dp, M10.dp, fm i j, dm i j, fun H11 s11 => ⟨true, rfl, iteF ?_⟩⟩
        have M2 := M1.same s11
        have s11' : Same F H11 := ((s8.trans s89).trans ((same_new hT2).trans s10)).trans s11
        obtain ⟨l1, l2, l3⟩ := len_move hpic hp1 hp2 hp3 hp4 i j
        generalize moveT m i j = mm at M2 l1 l2 l3
        obtain ⟨r0, rt, rfl⟩ : ∃ r0 rt, rs1 = r0 :: rt := by
          have := M2.len
          cases rs1 with
          | nil => simp at this; omega
          | cons r0 rt => exact ⟨r0, rt, rfl⟩
        have hr0 : H11 r0 = some (.lst ((mm[0]'(by omega)).map V.int)) := M2.row 0 _ r0 (List.getElem?_eq_getElem (by omega)) rfl
        have zr0 : H8 r0 = none := M2.new r0 (List.mem_cons_of_mem _ List.mem_cons_self)
        have zp1 : H8 p1 = none := M2.new p1 List.mem_cons_self
        have nr0 : p1 ≠ r0 := fun e => (List.nodup_cons.mp M2.nd).1 (e ▸ List.mem_cons_self)
        -- found[0].append(9)
        refine ⟨.ref p1, rfl, p1, _, 0, _, rfl, rfl, sql_of M2.top, atI_nat (j := 0) rfl, .inl ⟨rfl, _, sql_of hr0⟩, r0, _, _, rfl, rfl, hr0, ?_, ?_⟩
        · rw [List.length_map]
          exact size_lt (by have := (l3 _ (List.getElem_mem (by omega : 0 < mm.length))).2; omega)
        -- found.append([])
        have t9 : ∀ o, (upd H11 r0 o) p1 = some (.lst ((r0 :: rt).map V.ref)) := fun o => by
          rw [upd_ne nr0]
          exact M2.top
        refine ⟨.ref p1, rfl, .inl ⟨rfl, _, sql_of (t9 _)⟩, Nat.zero_le _, fun e he => ?_⟩
        have nep : p1 ≠ e := fun z => by
          rw [← z, t9] at he
          cases he
        refine ⟨p1, _, _, rfl, rfl, by rw [upd_ne nep]; exact t9 _, ?_, ?_⟩
        · rw [List.length_map]
          have := M2.len
          exact size_lt (by omega)
        · refine ⟨_, _, _, rfl, fun b o z => ?_⟩
          have z8 := s8 b o z
          rw [upd_ne (ne_of_none z8 zp1), upd_ne (ne_of_none (by rw [upd_ne (ne_of_none z8 zr0)]; exact s11' b o z) he), upd_ne (ne_of_none z8 zr0)]
          exact s11' b o z
      · rintro σ H8 ⟨y5, y7, y8, rfl, s8⟩
        exact ⟨_, _, _, _, rfl, s8⟩
    rintro σ H7 ⟨y5, y6, y7, y8, rfl, s7⟩
    have fm0 : fine (dMat m) = true := fine_pic hpic hp3 hp4
    have dm0 := depth_mat m
    -- handed == rows and turned(..) == rows
    refine ⟨.ref D, rfl, .ref ar, rfl, eqD_same (hH.up s7) (hRo.up s7) fm0 (by omega) ⟨true, rfl, iteT ?_⟩⟩
    have p1 := turn_hw hpic hp1
    have p2 := turn_hw p1 hp2
    have p3 := turn_hw p2 hp1
    refine ⟨.ref D, rfl, _, m, _, _, rfl, hH.up s7, hpic, hp1, hp2, hp3, hp4, fun q1 rs1 H8 s8 M8 => ?_⟩
    refine ⟨_, _, _, _, rfl, M8.dp, p1, hp2, hp1, hp4, hp3, fun q2 rs2 H9 s9 M9 => ?_⟩
    refine ⟨_, _, _, _, rfl, M9.dp, p2, hp1, hp2, hp3, hp4, fun q3 rs3 H10 s10 M10 => ?_⟩
    refine ⟨_, _, _, _, rfl, M10.dp, p3, hp2, hp1, hp4, hp3, fun q4 rs4 H11 s11 M11 => ?_⟩
    rw [turn4 hpic hp1 hp2] at M11
    exact ⟨.ref ar, rfl, eqD_same M11.dp (hRo.up ((((s7.trans s8).trans s9).trans s10).trans s11)) fm0 (by omega) (q _)⟩
abbrev dd (x : Str × Option Str) (n q : Str) (s : Stmt) : He.DefD := ⟨x, n, q, defArgs s, defBody s, defScope s, [], []⟩
def d_copied : He.DefD := dd ("copied", none) "copied" "copied" s_copied
def d_mirrored : He.DefD := dd ("mirrored", none) "mirrored" "mirrored" s_mirrored
def d_turned : He.DefD := dd ("turned", none) "turned" "turned" s_turned
def d_moved : He.DefD := dd ("moved", none) "moved" "moved" s_moved
def d__law_cell : He.DefD := dd ("_law_cell", none) "_law_cell" "_law_cell" s__law_cell
def d__law_dice : He.DefD := dd ("_law_dice", none) "_law_dice" "_law_dice" s__law_dice
def d__law_off : He.DefD := dd ("_law_off", none) "_law_off" "_law_off" s__law_off
def d__law_cells : He.DefD := dd ("_law_cells", none) "_law_cells" "_law_cells" s__law_cells
def d__law_moved : He.DefD := dd ("_law_moved", none) "_law_moved" "_law_moved" s__law_moved
def d__law_alike : He.DefD := dd ("_law_alike", none) "_law_alike" "_law_alike" s__law_alike
def d_law : He.DefD := dd ("law", none) "law" "law" s_law
def fnL : List He.DefD := [d_copied, d_mirrored, d_turned, d_moved, d__law_cell, d__law_dice, d__law_off, d__law_cells, d__law_moved, d__law_alike, d_law]
def faL : List He.Fa := [.glo "copied", .glo "mirrored", .glo "turned", .glo "moved", .glo "_law_cell", .glo "_law_dice", .glo "_law_off", .glo "_law_cells", .glo "_law_moved", .glo "_law_alike", .glo "law", .free "len", .free "range", .free "list", .free "abs", .free "isinstance", .free "all", .free "reversed", .free "int", .free "str", .free "bool", .free "tuple", .free "dict"]
def tsL : List He.Tab := []
def tfL : List He.Defn := []
def exB : PySem.W.Frag → Bool := fun _ => true
abbrev RR : PySem.W.OpenRow := PySem.W.OpenLaw.row PySem.Challenge.rw_likeshelf_k02_moved
abbrev hkL : PySem.W.Hook := He.hookX 5 faL fnL tsL tfL exB
def obL (s : PySem.W.SharedT) : He.AlX := He.obsX 5 faL fnL tsL tfL exB (HandSHeadRun.getT s)
theorem obL_eq (s : PySem.W.SharedT) : obL s = hkL.obs s.abs := He.obsX_eq (HandSHeadRun.getT_eq s)
def lo0 : List PySem.Str := ["copied", "mirrored", "turned", "moved", "_law_cell", "_law_dice", "_law_off", "_law_cells", "_law_moved", "_law_alike"]
def looseL : List PySem.Str := lo0
theorem runL (w : World) : HandSHeadRun.RunEq RR (PySem.W.view RR.prog [12]) hkL obL 4000 looseL w := by
  intro os
  kernel_rfl
theorem tx_of {w : World} {K : PySem.W.Frag} {h : Heap} {mg : Str → Option Value} (X : K.In h) (G : h.Ns mainGlobals mg) (z : He.SaysX faL fnL tsL tfL exB w h K) : Tx K mg := by
  have c := z.t.d
  exact ⟨He.glo_ok X G (c.fact 0 (f := .glo "copied") rfl),
    He.glo_ok X G (c.fact 1 (f := .glo "mirrored") rfl),
    He.glo_ok X G (c.fact 2 (f := .glo "turned") rfl),
    He.glo_ok X G (c.fact 3 (f := .glo "moved") rfl),
    He.glo_ok X G (c.fact 4 (f := .glo "_law_cell") rfl),
    He.glo_ok X G (c.fact 5 (f := .glo "_law_dice") rfl),
    He.glo_ok X G (c.fact 6 (f := .glo "_law_off") rfl),
    He.glo_ok X G (c.fact 7 (f := .glo "_law_cells") rfl),
    He.glo_ok X G (c.fact 8 (f := .glo "_law_moved") rfl),
    He.glo_ok X G (c.fact 9 (f := .glo "_law_alike") rfl),
    He.glo_ok X G (c.fact 10 (f := .glo "law") rfl),
    He.free_ok X G (c.fact 11 (f := .free "len") rfl),
    He.free_ok X G (c.fact 12 (f := .free "range") rfl),
    He.free_ok X G (c.fact 13 (f := .free "list") rfl),
    He.free_ok X G (c.fact 14 (f := .free "abs") rfl),
    He.free_ok X G (c.fact 15 (f := .free "isinstance") rfl),
    He.free_ok X G (c.fact 16 (f := .free "all") rfl),
    He.free_ok X G (c.fact 17 (f := .free "reversed") rfl),
    He.free_ok X G (c.fact 18 (f := .free "int") rfl),
    He.free_ok X G (c.fact 19 (f := .free "str") rfl),
    He.free_ok X G (c.fact 20 (f := .free "bool") rfl),
    He.free_ok X G (c.fact 21 (f := .free "tuple") rfl),
    He.free_ok X G (c.fact 22 (f := .free "dict") rfl),
    c.def_ 0 (d := d_copied) rfl,
    c.def_ 1 (d := d_mirrored) rfl,
    c.def_ 2 (d := d_turned) rfl,
    c.def_ 3 (d := d_moved) rfl,
    c.def_ 4 (d := d__law_cell) rfl,
    c.def_ 5 (d := d__law_dice) rfl,
    c.def_ 6 (d := d__law_off) rfl,
    c.def_ 7 (d := d__law_cells) rfl,
    c.def_ 8 (d := d__law_moved) rfl,
    c.def_ 9 (d := d__law_alike) rfl,
    c.def_ 10 (d := d_law) rfl⟩
theorem all_has {P : Program} {w : World} {K : PySem.W.Frag} {mg : Str → Option Value} {base : Heap} {f : Addr} {fd : FuncData} (T : Tx K mg) (F : FunD K "law" "law" (defArgs s_law) (defBody s_law) (defScope s_law) [] [] f fd) : FnOk P w K mg base (L2.CX P w) 202 f fd ["_law_script"] (sp_law K) := by
  have G_copied : Has P w K mg base (2) "copied" ["rows"] (sp_copied K) := has_copied (k := 1) T 
  have G_mirrored : Has P w K mg base (2) "mirrored" ["rows"] (sp_mirrored K) := has_mirrored (k := 1) T 
  have G_turned : Has P w K mg base (2) "turned" ["rows"] (sp_turned K) := has_turned (k := 1) T 
  have G_moved : Has P w K mg base (3) "moved" ["rows", "way"] (sp_moved K) := has_moved (k := 2) T (G_turned.mono (by decide : 2 ≤ 2)) (G_mirrored.mono (by decide : 2 ≤ 2)) (G_copied.mono (by decide : 2 ≤ 2))
  have G__law_cell : Has P w K mg base (2) "_law_cell" ["_law_script", "_law_k"] (sp__law_cell K) := has__law_cell (k := 1) T 
  have G__law_dice : Has P w K mg base (3) "_law_dice" ["_law_script", "_law_k"] (sp__law_dice K) := has__law_dice (k := 2) T (G__law_cell.mono (by decide : 2 ≤ 2))
  have G__law_off : Has P w K mg base (2) "_law_off" ["_law_d", "_law_most"] (sp__law_off K) := has__law_off (k := 1) T 
  have G__law_cells : Has P w K mg base (3) "_law_cells" ["_law_d", "_law_high", "_law_wide"] (sp__law_cells K) := has__law_cells (k := 2) T (G__law_off.mono (by decide : 2 ≤ 2))
  have G__law_moved : Has P w K mg base (2) "_law_moved" ["_law_rows", "_law_way"] (sp__law_moved K) := has__law_moved (k := 1) T 
  have G__law_alike : Has P w K mg base (201) "_law_alike" ["_law_found", "_law_due"] (sp__law_alike K) := has__law_alike (k := 1) T 200
  exact ok_law (k := 201) T (G_turned.mono (by decide : 2 ≤ 201)) (G__law_alike.mono (by decide : 201 ≤ 201)) (G__law_moved.mono (by decide : 2 ≤ 201)) (G_moved.mono (by decide : 3 ≤ 201)) (G_mirrored.mono (by decide : 2 ≤ 201)) (G__law_cells.mono (by decide : 3 ≤ 201)) (G__law_off.mono (by decide : 2 ≤ 201)) (G__law_dice.mono (by decide : 3 ≤ 201)) F
theorem law_end {P : Program} {w : World} {K : PySem.W.Frag} {h : Heap} {mg : Str → Option Value} {fa : Addr} (T : Tx K mg) (KX : K.In h) (hmg : mg "law" = some (.ref fa)) :
    ∃ (K : PySem.W.Frag) (fd : FuncData) (sp : Sp), K.In h ∧ (∀ (s : Shared) (u : Value), BindsTo s fd ⟨[u], []⟩ [("_law_script", u)]) ∧
        (∀ (H : Hp) (a : Addr) (ns : List Int), ns.length ≤ 63 → Only H → SqL K H a (ns.map V.int) → sp [.ref a] H (fun v _ => v = .bl true) fun _ _ _ => False) ∧
        ∀ base : Heap, K.In base → base.Ns mainGlobals mg → FnOk P w K mg base (fun l H s E e s' => ∃ w, L2.CX P w l H s E e s') 202 fa fd ["_law_script"] sp := by
  obtain ⟨fd, F⟩ := T.d_law
  have e := hmg.symm.trans T.g_law
  cases e
  have b := FunD.bindsA (ps := ["_law_script"]) F fun _ _ _ _ _ _ us hl => match us, hl with | [_], _ => rfl
  exact ⟨K, fd, sp_law K, KX, fun s v => b s [v] rfl, fun H a ns hl _ hS => ⟨a, ns, rfl, hS, hl, fun _ => rfl⟩, fun base _ _ => FnOk.cx (all_has T F) fun _ _ _ _ _ _ z => ⟨w, z⟩⟩
end Ls
open PySem PySem.W PySem.Calls PyProof.Rows
set_option maxRecDepth 100000 in
set_option maxHeartbeats 0 in
theorem PySem.Challenge.cw_likeshelf_k02_moved_holds : PySem.Challenge.rw_likeshelf_k02_moved.Holds := by
  w_on; o_law
  refine HandSHeadRun.head_any (r := OpenLaw.row PySem.Challenge.rw_likeshelf_k02_moved) (q := view (OpenLaw.row PySem.Challenge.rw_likeshelf_k02_moved).prog [12]) (H := Ls.hkL) (ob := Ls.obL) (M := 4000) (loose := Ls.looseL) (d := HandSHeadRun.topDef (OpenLaw.row PySem.Challenge.rw_likeshelf_k02_moved).prog 12) (kwd := []) Ls.obL_eq
    (by kernel_rfl) (fun s => by kernel_rfl) Ls.runL (by kernel_rfl) (by kernel_rfl) (by kernel_rfl) (by rfl) (by first | assumption | decide +kernel) (by decide +kernel) ⟨rfl, rfl, rfl, rfl, rfl, by decide +kernel⟩ ?hw ?hc
  case hw => w_witness2
  case hc =>
    refine L2.walk_ofE (l := PySem.Challenge.rw_likeshelf_k02_moved) (n := 63) (k := 202) (x := "_law_script") (CX := fun l H s E e s' => ∃ w, L2.CX (PySem.Challenge.rw_likeshelf_k02_moved).prog w l H s E e s') rfl (by decide) (by kernel_rfl) ⟨rfl, by decide, by decide⟩ ?F ?N
    case N =>
      rintro H s e s' ⟨w, z⟩
      obtain ⟨_, _, _, _, _, _, _, _, _, _, _, _, z⟩ := z
      exact z.elim
    intro w mg fa h Y G hmg0
    obtain ⟨K, KX, c⟩ := Y
    have hmg : mg ("law" : PySem.Str) = some (.ref fa) := by
      have e : (HandSHeadRun.topDef (OpenLaw.row PySem.Challenge.rw_likeshelf_k02_moved).prog 12).name = ("law" : PySem.Str) := by kernel_rfl
      rw [← e]
      exact hmg0
    have T := Ls.tx_of KX G c
    exact Ls.law_end (P := (PySem.Challenge.rw_likeshelf_k02_moved).prog) (w := w) T KX hmg
