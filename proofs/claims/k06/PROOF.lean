import PyProof.Rows.All
import Wide.All
import OpenK.AllK
import Wide.FinOn
import KE.KStateDown
import HandS.ForMost
import HandS.ForExc
import HandS.Evl
import HandS.Walk
import HandS.Zip
import HandS.Head0
import HandS.Head1
import HandS.Head2
import HandS.HeadEnd
import HandS.HeadHook1
import HandS.HeadHook2
import HandS.HeadHook3
import HandS.HeadHook4
import HandS.HeadWalk
import HandS.Lambda
import HandS.IsInst
import HandS.Style
import HandS.Wide
import HandS.More
import HandS.Rev
import HandS.RevTup
import HandS.SortInts
import HandS.SortRule
import HandS.SortKw
import HandS.Deep
import HandS.CallSlots
import HandS.HotCalls
import HandS.ExcIs
import HandS.Flow
import HandS.TryOnly
import HandS.Conv
import HandS.Small
import PySem.Challenge.RW_likeshelf_k06_whole_small_ones_bound
set_option Elab.async false
set_option linter.all false
set_option maxRecDepth 100000
set_option maxHeartbeats 4000000
namespace Ls
open PySem PySem.Spec PyProof.Rows L2
/-! ### frozen parts of the heap, modes -/
structure Mo where
  M : Addr → Prop
  J : Hp → Prop
  dom : ∀ H b, J H → M b → ∃ o, H b = some o
  loc : ∀ H H', J H → (∀ b o, M b → H b = some o → H' b = some o) → J H'
/-- nothing changes -/
def m0 : Mo := ⟨fun _ => False, fun _ => True, fun _ _ _ h => h.elim, fun _ _ _ _ => trivial⟩
structure Wd (m : Mo) (F H : Hp) : Prop where
  s : Same F H
  n : ∀ b, m.M b → F b = none
  j : m.J H
structure Gr (m : Mo) (F H F' H' : Hp) : Prop where
  f : Same F F'
  s : Same F' H'
  h : ∀ b o, ¬ m.M b → H b = some o → H' b = some o
  n : ∀ b o, H b = some o → F b = none → F' b = none
  j : m.J H'
section
variable {m : Mo} {F F1 F2 H H1 H2 : Hp} {p b : Addr} {o : HO}
theorem Wd.nM (w : Wd m F H) (h : H p = none) : ¬ m.M p := fun q => by
  obtain ⟨o, e⟩ := m.dom H p w.j q
  rw [h] at e
  cases e
theorem wd0 (s : Same F H) : Wd m0 F H := ⟨s, fun _ h => h.elim, trivial⟩
theorem Gr.refl (w : Wd m F H) : Gr m F H F H := ⟨Same.refl F, w.s, fun _ _ _ h => h, fun _ _ _ h => h, w.j⟩
theorem Gr.dom (g : Gr m F H F1 H1) (w : Wd m F H) (e : H b = some o) : ∃ o', H1 b = some o' := by
  by_cases q : m.M b
  · exact m.dom H1 b g.j q
  · exact ⟨o, g.h b o q e⟩
theorem Gr.wd (g : Gr m F H F1 H1) (w : Wd m F H) : Wd m F1 H1 := ⟨g.s, fun b q => by
  obtain ⟨o, e⟩ := m.dom H b w.j q
  exact g.n b o e (w.n b q), g.j⟩
theorem Gr.trans (w : Wd m F H) (g : Gr m F H F1 H1) (g' : Gr m F1 H1 F2 H2) : Gr m F H F2 H2 :=
  ⟨g.f.trans g'.f, g'.s, fun b o q e => g'.h b o q (g.h b o q e), fun b o e z => by
    obtain ⟨o', e'⟩ := g.dom w e
    exact g'.n b o' e' (g.n b o e z), g'.j⟩
/-- with the first frozen part lessened -/
theorem Gr.same (g : Gr m F H F1 H1) (w : Wd m F H) (e : H1 p = none) : H p = none := by
  cases q : H p with
  | none => rfl
  | some o =>
    obtain ⟨o', z⟩ := g.dom w q
    rw [e] at z
    cases z
/-- a new object is laid, or one's own is written -/
theorem Gr.wr (w : Wd m F H) (g : Gr m F H F1 H1) (hp : H p = none) (fp : F1 p = none) : Gr m F H F1 (upd H1 p o) :=
  ⟨g.f, fun b u e => by rw [upd_ne (ne_of_none e fp)]; exact g.s b u e, fun b u q e => by rw [upd_ne (ne_of_none e hp)]; exact g.h b u q e, g.n,
    m.loc H1 _ g.j fun b u q e => by
      obtain ⟨o', z⟩ := m.dom H b w.j q
      rw [upd_ne (ne_of_none z hp)]
      exact e⟩
/-- one's own is frozen -/
theorem Gr.frz (w : Wd m F H) (g : Gr m F H F1 H1) (hp : H p = none) (fp : F1 p = none) (e : H1 p = some o) : Gr m F H (upd F1 p o) H1 :=
  ⟨fun b u z => by rw [upd_ne (ne_of_none (g.f b u z) fp)]; exact g.f b u z, fun b u z => by
    by_cases hb : b = p
    · subst hb
      rw [upd_same] at z
      cases z
      exact e
    · rw [upd_ne hb] at z
      exact g.s b u z, g.h, fun b u z q => by rw [upd_ne (ne_of_none z hp)]; exact g.n b u z q, g.j⟩
theorem Gr.new (w : Wd m F H) (g : Gr m F H F1 H1) (e : H1 p = none) : Gr m F H (upd F1 p o) (upd H1 p o) := by
  have hp := g.same w e
  have fp : F1 p = none := g.s.free e
  exact (g.wr w hp fp).frz w hp fp upd_same
theorem same_new {F : Hp} (e : F p = none) : Same F (upd F p o) := fun b u z => by rw [upd_ne (ne_of_none z e)]; exact z
/-- one's own object at p: new since H, not frozen -/
structure Lm (H F1 H1 : Hp) (p : Addr) (o : HO) : Prop where
  z : H p = none
  f : F1 p = none
  h : H1 p = some o
theorem Lm.gr (l : Lm H F1 H1 p o) (w : Wd m F H) (g : Gr m F1 H1 F2 H2) : Lm H F2 H2 p o := ⟨l.z, g.n p o l.h l.f, g.h p o (w.nM l.z) l.h⟩
theorem Lm.wr {q : Addr} {u : HO} (l : Lm H F1 H1 p o) (h : p ≠ q) : Lm H F1 (upd H1 q u) p o := ⟨l.z, l.f, by rw [upd_ne h]; exact l.h⟩
theorem Lm.set {u : HO} (l : Lm H F1 H1 p o) : Lm H F1 (upd H1 p u) p u := ⟨l.z, l.f, upd_same⟩
theorem Lm.new {u : HO} (w : Wd m F H) (g : Gr m F H F1 H1) (e : H1 p = none) : Lm H F1 (upd H1 p u) p u := ⟨g.same w e, g.s.free e, upd_same⟩
theorem Lm.ne {q : Addr} {u : HO} (l : Lm H F1 H1 p o) (e : F1 q = some u) : q ≠ p := ne_of_none e l.f
end
theorem Gr.pure {F H H2 : Hp} (w : Wd m0 F H) (s : Same H H2) : Gr m0 F H F H2 := ⟨Same.refl F, w.s.trans s, fun b o _ e => s b o e, fun _ _ _ h => h, trivial⟩
/-- a pure step in any mode -/
theorem Gr.up {m : Mo} {F H F1 H1 : Hp} (w : Wd m F H) (g : Gr m0 F H F1 H1) : Gr m F H F1 H1 :=
  ⟨g.f, g.s, fun b o _ e => g.h b o (fun z => z) e, g.n, m.loc H H1 w.j fun b o _ e => g.h b o (fun z => z) e⟩
/-! ### data -/
def kD : Key → PyData
  | .inl i => .int i
  | .inr x => .str x
mutual
/-- data at v, all lists and dicts tracked; tuples tracked or written -/
inductive Dt (K : PySem.W.Frag) (F : Hp) : V → PyData → Prop
  | non : Dt K F .non .none
  | bl (b : Bool) : Dt K F (.bl b) (.bool b)
  | int (i : Int) : Dt K F (.int i) (.int i)
  | str (x : Str) : Dt K F (.str x) (.str x)
  | lst {a : Addr} {xs : List V} {ds : List PyData} : F a = some (.lst xs) → DtAll K F xs ds → Dt K F (.ref a) (.list ds)
  | tup {a : Addr} {xs : List V} {ds : List PyData} : SqT K F a xs → DtAll K F xs ds → Dt K F (.ref a) (.tuple ds)
  | dic {a : Addr} {kvs : List (Key × V)} {ds : List (PyData × PyData)} : F a = some (.dK kvs) → DtK K F kvs ds → Dt K F (.ref a) (.dict ds)
inductive DtAll (K : PySem.W.Frag) (F : Hp) : List V → List PyData → Prop
  | nil : DtAll K F [] []
  | cons {v : V} {vs : List V} {d : PyData} {ds : List PyData} : Dt K F v d → DtAll K F vs ds → DtAll K F (v :: vs) (d :: ds)
inductive DtK (K : PySem.W.Frag) (F : Hp) : List (Key × V) → List (PyData × PyData) → Prop
  | nil : DtK K F [] []
  | cons {k : Key} {v : V} {kvs : List (Key × V)} {d : PyData} {ds : List (PyData × PyData)} : Dt K F v d → DtK K F kvs ds → DtK K F ((k, v) :: kvs) ((kD k, d) :: ds)
end
mutual
theorem Dt.up {K : PySem.W.Frag} {F F' : Hp} (s : Same F F') : ∀ {v : V} {d : PyData}, Dt K F v d → Dt K F' v d
  | _, _, .non => .non
  | _, _, .bl b => .bl b
  | _, _, .int i => .int i
  | _, _, .str x => .str x
  | _, _, .lst h a => .lst (s _ _ h) (DtAll.up s a)
  | _, _, .tup h a => .tup (Evl.ex_t s h) (DtAll.up s a)
  | _, _, .dic h a => .dic (s _ _ h) (DtK.up s a)
theorem DtAll.up {K : PySem.W.Frag} {F F' : Hp} (s : Same F F') : ∀ {vs : List V} {ds : List PyData}, DtAll K F vs ds → DtAll K F' vs ds
  | _, _, .nil => .nil
  | _, _, .cons h t => .cons (Dt.up s h) (DtAll.up s t)
theorem DtK.up {K : PySem.W.Frag} {F F' : Hp} (s : Same F F') : ∀ {vs : List (Key × V)} {ds : List (PyData × PyData)}, DtK K F vs ds → DtK K F' vs ds
  | _, _, .nil => .nil
  | _, _, .cons h t => .cons (Dt.up s h) (DtK.up s t)
end
/-! no dict within -/
mutual
def noDic : PyData → Bool
  | .list xs => noDics xs
  | .tuple xs => noDics xs
  | .dict _ => false
  | .none => true
  | .bool _ => true
  | .int _ => true
  | .str _ => true
def noDics : List PyData → Bool
  | [] => true
  | x :: xs => noDic x && noDics xs
end
mutual
theorem Dt.dp {K : PySem.W.Frag} {F : Hp} : ∀ {v : V} {d : PyData}, Dt K F v d → noDic d = true → Dp K F v d
  | _, _, .non, _ => .non
  | _, _, .bl b, _ => .bl b
  | _, _, .int i, _ => .int i
  | _, _, .str x, _ => .str x
  | _, _, .lst h a, q => .lst (.inl (.inl h)) (DtAll.dp a (by rw [noDic] at q; exact q))
  | _, _, .tup h a, q => .tup h (DtAll.dp a (by rw [noDic] at q; exact q))
  | _, _, .dic h a, q => by rw [noDic] at q; cases q
theorem DtAll.dp {K : PySem.W.Frag} {F : Hp} : ∀ {vs : List V} {ds : List PyData}, DtAll K F vs ds → noDics ds = true → DpAll K F vs ds
  | _, _, .nil, _ => .nil
  | _, _, .cons h t, q => by
    rw [noDics] at q
    obtain ⟨q1, q2⟩ := Bool.and_eq_true_iff.mp q
    exact .cons (Dt.dp h q1) (DtAll.dp t q2)
end
theorem dtAll_len {K : PySem.W.Frag} {F : Hp} : ∀ {vs : List V} {ds : List PyData}, DtAll K F vs ds → vs.length = ds.length
  | _, _, .nil => rfl
  | _, _, .cons _ t => congrArg (· + 1) (dtAll_len t)
theorem dtAll_get {K : PySem.W.Frag} {F : Hp} : ∀ {vs : List V} {ds : List PyData} {i : Nat} {d : PyData}, DtAll K F vs ds → ds[i]? = some d → ∃ v, vs[i]? = some v ∧ Dt K F v d
  | _, _, _, _, .nil, e => by simp at e
  | _, _, 0, _, .cons h _, e => by
    simp at e
    subst e
    exact ⟨_, rfl, h⟩
  | _, _, i + 1, _, .cons _ t, e => by
    obtain ⟨v, h1, h2⟩ := dtAll_get (i := i) t (by simpa using e)
    exact ⟨v, by simpa using h1, h2⟩
theorem dtAll_at {K : PySem.W.Frag} {F : Hp} : ∀ {vs : List V} {ds : List PyData} {i : Nat} {v : V}, DtAll K F vs ds → vs[i]? = some v → ∃ d, ds[i]? = some d ∧ Dt K F v d
  | _, _, _, _, .nil, e => by simp at e
  | _, _, 0, _, .cons h _, e => by
    simp at e
    subst e
    exact ⟨_, rfl, h⟩
  | _, _, i + 1, _, .cons _ t, e => by
    obtain ⟨v, h1, h2⟩ := dtAll_at (i := i) t (by simpa using e)
    exact ⟨v, by simpa using h1, h2⟩
theorem dtAll_app {K : PySem.W.Frag} {F : Hp} : ∀ {vs ws : List V} {ds es : List PyData}, DtAll K F vs ds → DtAll K F ws es → DtAll K F (vs ++ ws) (ds ++ es)
  | _, _, _, _, .nil, h => h
  | _, _, _, _, .cons a t, h => .cons a (dtAll_app t h)
theorem dtAll_take {K : PySem.W.Frag} {F : Hp} : ∀ (n : Nat) {vs : List V} {ds : List PyData}, DtAll K F vs ds → DtAll K F (vs.take n) (ds.take n)
  | 0, _, _, _ => .nil
  | _ + 1, _, _, .nil => .nil
  | n + 1, _, _, .cons a t => .cons a (dtAll_take n t)
theorem dtAll_drop {K : PySem.W.Frag} {F : Hp} : ∀ (n : Nat) {vs : List V} {ds : List PyData}, DtAll K F vs ds → DtAll K F (vs.drop n) (ds.drop n)
  | 0, _, _, h => h
  | _ + 1, _, _, .nil => .nil
  | n + 1, _, _, .cons _ t => dtAll_drop n t
theorem dtAll_int {K : PySem.W.Frag} {F : Hp} : ∀ ns : List Int, DtAll K F (ns.map V.int) (ns.map PyData.int)
  | [] => .nil
  | n :: r => .cons (.int n) (dtAll_int r)
theorem dt_int_inv {K : PySem.W.Frag} {F : Hp} {v : V} {i : Int} (h : Dt K F v (.int i)) : v = .int i := by cases h; rfl
theorem dt_str_inv {K : PySem.W.Frag} {F : Hp} {v : V} {i : Str} (h : Dt K F v (.str i)) : v = .str i := by cases h; rfl
theorem dtAll_int_inv {K : PySem.W.Frag} {F : Hp} : ∀ {vs : List V} {ns : List Int}, DtAll K F vs (ns.map PyData.int) → vs = ns.map V.int
  | _, [], h => by cases h; rfl
  | _, n :: r, h => by
    cases h with
    | cons a t =>
      rw [dt_int_inv a, dtAll_int_inv t]
      rfl
/-- a list of such data at v -/
theorem dt_lst_inv {K : PySem.W.Frag} {F : Hp} {v : V} {ds : List PyData} (h : Dt K F v (.list ds)) : ∃ a xs, v = .ref a ∧ F a = some (.lst xs) ∧ DtAll K F xs ds := by
  cases h with
  | lst a b => exact ⟨_, _, rfl, a, b⟩
theorem dt_tup_inv {K : PySem.W.Frag} {F : Hp} {v : V} {ds : List PyData} (h : Dt K F v (.tuple ds)) : ∃ a xs, v = .ref a ∧ SqT K F a xs ∧ DtAll K F xs ds := by
  cases h with
  | tup a b => exact ⟨_, _, rfl, a, b⟩
/-- rows of ints -/
def dRow (r : List Int) : PyData := .list (r.map PyData.int)
def dMat (m : List (List Int)) : PyData := .list (m.map dRow)
theorem dt_row {K : PySem.W.Frag} {F : Hp} {v : V} {r : List Int} (h : Dt K F v (dRow r)) : ∃ a, v = .ref a ∧ F a = some (.lst (r.map V.int)) := by
  obtain ⟨a, xs, e, h1, h2⟩ := dt_lst_inv h
  rw [dtAll_int_inv h2] at h1
  exact ⟨a, e, h1⟩
theorem dt_row_mk {K : PySem.W.Frag} {F : Hp} {a : Addr} {r : List Int} (h : F a = some (.lst (r.map V.int))) : Dt K F (.ref a) (dRow r) := .lst h (dtAll_int r)
/-- a matrix at v: its address, its rows' values -/
theorem dt_mat {K : PySem.W.Frag} {F : Hp} {v : V} {m : List (List Int)} (h : Dt K F v (dMat m)) : ∃ a xs, v = .ref a ∧ F a = some (.lst xs) ∧ xs.length = m.length ∧ ∀ (i : Nat) (r : List Int), m[i]? = some r → ∃ b, xs[i]? = some (.ref b) ∧ F b = some (.lst (r.map V.int)) := by
  obtain ⟨a, xs, e, h1, h2⟩ := dt_lst_inv h
  refine ⟨a, xs, e, h1, by rw [dtAll_len h2, List.length_map], fun i r q => ?_⟩
  obtain ⟨v, g1, g2⟩ := dtAll_get h2 (i := i) (d := dRow r) (by rw [List.getElem?_map, q]; rfl)
  obtain ⟨b, rfl, g3⟩ := dt_row g2
  exact ⟨b, g1, g3⟩
end Ls

namespace Ls
open PySem PySem.Spec PyProof.Rows L2
/-! ### what a reading gives, the frozen part told -/
/-- the value and the frozen part behind -/
def Ev (m : Mo) (te : TE) (σ : L2.St) (F : Hp) (R : V → Hp → Prop) : Prop :=
  ∀ F1 H, Same F F1 → Wd m F1 H → ∀ Q : VK, (∀ v F2 H2, Gr m F1 H F2 H2 → R v F2 → Q v H2) → te σ H Q
theorem paired_mono {A B : Type} {R S : A → B → Prop} : ∀ {xs : List A} {ys : List B}, Paired R xs ys → (∀ a b, R a b → S a b) → Paired S xs ys
  | _, _, .nil, _ => .nil
  | _, _, .cons h t, f => .cons (f _ _ h) (paired_mono t f)
theorem paired_app {A B : Type} {R : A → B → Prop} : ∀ {xs xs2 : List A} {ys ys2 : List B}, Paired R xs ys → Paired R xs2 ys2 → Paired R (xs ++ xs2) (ys ++ ys2)
  | _, _, _, _, .nil, h => h
  | _, _, _, _, .cons a t, h => .cons a (paired_app t h)
theorem paired_len {A B : Type} {R : A → B → Prop} : ∀ {xs : List A} {ys : List B}, Paired R xs ys → xs.length = ys.length
  | _, _, .nil => rfl
  | _, _, .cons _ t => congrArg (· + 1) (paired_len t)
theorem take_more {A : Type} : ∀ {l : List A} {i : Nat} {x : A}, l[i]? = some x → l.take (i + 1) = l.take i ++ [x]
  | [], i, x, h => by simp at h
  | a :: l, 0, x, h => by
    have e : a = x := Option.some.inj h
    subst e
    rfl
  | a :: l, i + 1, x, h => by
    have ih := take_more (l := l) (i := i) (x := x) h
    show a :: l.take (i + 1) = a :: l.take i ++ [x]
    rw [ih]
    rfl
theorem size_lt {n : Nat} (h : n ≤ 1000000) : n < sizeLine := Nat.lt_of_le_of_lt h (by decide)
theorem size_le {n : Nat} (h : n ≤ 1000000) : n ≤ sizeLine := Nat.le_trans h (by decide)
/-- behind what is walked: the rest of a comprehension's reading -/
def LcIn (J : It) (g : TG) (tt : TT) (te : TE) (vs : List Nat) (σ : L2.St) (H1 : Hp) (Q : VK) : Prop := ∀ D, H1 D = none → ∃ W : Nat → Nat → Hp → Prop, (∃ m, W 0 m (upd H1 D (.lst []))) ∧ ∀ i m H, W i m H →
  (J.stop i H ∧ Q (.ref D) H) ∨ (J.go i H ∧ ∃ Nx : Hp → Prop, (∀ H', Nx H' → ∃ m', m' < m ∧ W (i + 1) m' H') ∧ ∀ x H', J.yld i H x H' → g x (wipe σ vs) H' fun σ2 H2 => wipe σ2 vs = wipe σ vs ∧ tt σ2 H2 fun b H3 =>
    if b = true then te σ2 H3 fun y H4 => ∃ acc, H4 D = some (.lst acc) ∧ acc.length < sizeLine ∧ Nx (upd H4 D (.lst (acc ++ [y]))) else Nx H3)
theorem lc_of {wi : TI} {g : TG} {tt : TT} {te : TE} {vs : List Nat} {σ : L2.St} {H : Hp} {Q : VK} (h : wi σ H fun J H1 => LcIn J g tt te vs σ H1 Q) : tLc wi g tt te vs σ H Q := h
/-- .. of a for's -/
def ForIn (J : It) (g : TG) (tb : TS) (D : Ends) (σ : L2.St) (H1 : Hp) : Prop := ∃ W : Nat → Nat → L2.St → Hp → Prop, (∃ m, W 0 m σ H1) ∧ ∀ i m σ H, W i m σ H →
  (J.stop i H ∧ D.nx σ H) ∨ (J.go i H ∧ ∃ N : L2.St → Hp → Prop, (∀ σ' H', N σ' H' → ∃ m', m' < m ∧ W (i + 1) m' σ' H') ∧ ∀ x H', J.yld i H x H' → g x σ H' fun σ2 H2 => tb { D with nx := N, ct := N, bk := D.nx } σ2 H2)
theorem for_of {wi : TI} {g : TG} {tb : TS} {D : Ends} {σ : L2.St} {H : Hp} (h : wi σ H fun J H1 => ForIn J g tb D σ H1) : tFor wi g tb D σ H := h
theorem forin_list {K : PySem.W.Frag} {a : Addr} {xs : List V} {g : TG} {tb : TS} {D : Ends} {σ : L2.St} {H : Hp} (Pv : Nat → L2.St → Hp → Prop) (h0 : Pv 0 σ H) (hl : ∀ i σ H, i ≤ xs.length → Pv i σ H → SqL K H a xs)
    (hs : ∀ i x σ H, xs[i]? = some x → Pv i σ H → g x σ H fun σ2 H2 => tb { D with nx := Pv (i + 1), ct := Pv (i + 1), bk := D.nx } σ2 H2) (hd : ∀ σ H, Pv xs.length σ H → D.nx σ H) : ForIn (Itl K a) g tb D σ H := for_list Pv h0 hl hs hd
theorem forin_tup {K : PySem.W.Frag} {a : Addr} {xs : List V} {g : TG} {tb : TS} {D : Ends} {σ : L2.St} {H : Hp} (Pv : Nat → L2.St → Hp → Prop) (h0 : Pv 0 σ H) (hl : ∀ i σ H, i ≤ xs.length → Pv i σ H → SqT K H a xs)
    (hs : ∀ i x σ H, xs[i]? = some x → Pv i σ H → g x σ H fun σ2 H2 => tb { D with nx := Pv (i + 1), ct := Pv (i + 1), bk := D.nx } σ2 H2) (hd : ∀ σ H, Pv xs.length σ H → D.nx σ H) : ForIn (Itt K a) g tb D σ H := for_tup Pv h0 hl hs hd
theorem forin_range {lo : Int} {n : Nat} {g : TG} {tb : TS} {D : Ends} {σ : L2.St} {H : Hp} (Pv : Nat → L2.St → Hp → Prop) (h0 : Pv 0 σ H)
    (hs : ∀ i σ H, i < n → Pv i σ H → g (.int (lo + i)) σ H fun σ2 H2 => tb { D with nx := Pv (i + 1), ct := Pv (i + 1), bk := D.nx } σ2 H2) (hd : ∀ σ H, Pv n σ H → D.nx σ H) : ForIn (Itr lo n) g tb D σ H := for_range Pv h0 hs hd
/-- a comprehension, whatever is walked -/
theorem comp_core {A : Type} {m : Mo} {J : It} {G : Hp → Prop} {Y : Nat → Hp → V → Hp → Prop} {g : TG} {tt : TT} {te : TE} {vs : List Nat} {σ : L2.St} {F H : Hp} {Q : VK}
    (wd : Wd m F H) (its : List A) (w : Walk J its.length G Y) (hG : ∀ F' H', Gr m F H F' H' → G H') (p : A → Bool) (R : A → V → Hp → Prop)
    (mono : ∀ a v F1 F2, Same F1 F2 → R a v F1 → R a v F2) (hz : its.length ≤ 1000000)
    (turn : ∀ i a x F1 H1 H2, its[i]? = some a → Gr m F H F1 H1 → Y i H1 x H2 → ∀ (Q1 : VK) (Qn : Hp → Prop), (p a = true → ∀ v F2 H2, Gr m F1 H1 F2 H2 → R a v F2 → Q1 v H2) → (p a = false → ∀ F2 H2, Gr m F1 H1 F2 H2 → Qn H2) →
      g x (wipe σ vs) H2 fun σ2 H3 => wipe σ2 vs = wipe σ vs ∧ tt σ2 H3 fun b H4 => if b = true then te σ2 H4 Q1 else Qn H4)
    (fin : ∀ D ys F2 H2, H D = none → Gr m F H F2 H2 → F2 D = some (.lst ys) → Paired (fun a y => R a y F2) (its.filter p) ys → Q (.ref D) H2) :
    LcIn J g tt te vs σ H Q := by
  intro D hD
  refine lc_it w (Qd := fun H' => Q (.ref D) H') (fun i H' => ∃ F' ys, Gr m F H F' H' ∧ Lm H F' H' D (.lst ys) ∧ Paired (fun a y => R a y F') ((its.take i).filter p) ys) ?_ ?_ ?_ ?_
  · exact ⟨F, [], (Gr.refl wd).wr wd hD (wd.s.free hD), Lm.new wd (Gr.refl wd) hD, .nil⟩
  · rintro i H' _ ⟨F', ys, gr, _, _⟩
    exact hG F' H' gr
  · rintro i x H1 H2 hi ⟨F1, ys, gr, lm, pr⟩ hy
    have hit : its[i]? = some its[i] := List.getElem?_eq_getElem hi
    have hlen : ys.length ≤ i := by
      rw [← paired_len pr]
      exact Nat.le_trans (List.length_filter_le _ _) (by rw [List.length_take]; exact Nat.min_le_left _ _)
    refine turn i its[i] x F1 H1 H2 hit gr hy _ _ (fun hp v F2 H2 g2 r2 => ?_) (fun hp F2 H2 g2 => ?_)
    · have lm2 := lm.gr wd g2
      refine ⟨ys, lm2.h, size_lt (by omega), F2, ys ++ [v], (gr.trans wd g2).wr wd lm2.z lm2.f, lm2.set, ?_⟩
      rw [take_more hit, List.filter_append]
      refine paired_app (paired_mono pr fun a b h => mono a b _ _ g2.f h) ?_
      have e : [its[i]].filter p = [its[i]] := by simp [hp]
      rw [e]
      exact .cons r2 .nil
    · refine ⟨F2, ys, gr.trans wd g2, lm.gr wd g2, ?_⟩
      rw [take_more hit, List.filter_append]
      have e : [its[i]].filter p = [] := by simp [hp]
      rw [e, List.append_nil]
      exact paired_mono pr fun a b h => mono a b _ _ g2.f h
  · rintro H' ⟨F', ys, gr, lm, pr⟩
    rw [List.take_length] at pr
    refine fin D ys (upd F' D (.lst ys)) H' hD (gr.frz wd lm.z lm.f lm.h) upd_same ?_
    exact paired_mono pr fun a b h => mono a b _ _ (same_new lm.f) h
theorem filter_true {A : Type} (l : List A) : l.filter (fun _ => true) = l := by
  induction l with
  | nil => rfl
  | cons a r ih => simp [List.filter]
/-- [.. for x in range(..)], no test, one name -/
theorem comp_range {m : Mo} {te : TE} {k : Nat} {vs : List Nat} {σ : L2.St} {F H : Hp} {Q : VK} {lo : Int} {n : Nat} (wd : Wd m F H) (hn : n ≤ 1000000) (R : Nat → V → Hp → Prop)
    (mono : ∀ a v F1 F2, Same F1 F2 → R a v F1 → R a v F2) (hw : ∀ x, wipe ((wipe σ vs).set k (some x)) vs = wipe σ vs)
    (el : ∀ i F1 H1, i < n → Gr m F H F1 H1 → ∀ Q1 : VK, (∀ v F2 H2, Gr m F1 H1 F2 H2 → R i v F2 → Q1 v H2) → te ((wipe σ vs).set k (some (.int (lo + i)))) H1 Q1)
    (fin : ∀ D ys F2 H2, H D = none → Gr m F H F2 H2 → F2 D = some (.lst ys) → Paired (fun a y => R a y F2) (List.range n) ys → Q (.ref D) H2) :
    LcIn (Itr lo n) (gName k) tYes te vs σ H Q := by
  refine comp_core (A := Nat) (G := fun _ => True) (Y := YFn fun i => .int (lo + i)) wd (List.range n) (by rw [List.length_range]; exact walk_range) (fun _ _ _ => trivial) (fun _ => true) R mono (by rw [List.length_range]; exact hn) ?_ ?_
  · rintro i a x F1 H1 H2 hi gr ⟨rfl, rfl⟩ Q1 Qn k1 _
    have hl : i < n := by
      have := (List.getElem?_eq_some_iff.mp hi).1
      rwa [List.length_range] at this
    have ea : a = i := by
      rw [List.getElem?_range hl] at hi
      exact (Option.some.inj hi).symm
    subst ea
    exact ⟨hw _, iteT (B := Qn H2) (el a F1 _ hl gr Q1 (k1 rfl))⟩
  · intro D ys F2 H2 hD g e pr
    rw [filter_true] at pr
    exact fin D ys F2 H2 hD g e pr
/-- [.. for x in a list], no test, one name; the items told by data of their own -/
theorem comp_list {A : Type} {m : Mo} {K : PySem.W.Frag} {te : TE} {k : Nat} {vs : List Nat} {σ : L2.St} {F H : Hp} {Q : VK} {a : Addr} {xs : List V} (wd : Wd m F H) (its : List A) (hl : its.length = xs.length) (hS : SqL K F a xs) (hn : xs.length ≤ 1000000) (R : A → V → Hp → Prop)
    (mono : ∀ a v F1 F2, Same F1 F2 → R a v F1 → R a v F2) (hw : ∀ x, wipe ((wipe σ vs).set k (some x)) vs = wipe σ vs)
    (el : ∀ (i : Nat) (b : A) (x : V) (F1 H1 : Hp), its[i]? = some b → xs[i]? = some x → Gr m F H F1 H1 → ∀ Q1 : VK, (∀ v F2 H2, Gr m F1 H1 F2 H2 → R b v F2 → Q1 v H2) → te ((wipe σ vs).set k (some x)) H1 Q1)
    (fin : ∀ D ys F2 H2, H D = none → Gr m F H F2 H2 → F2 D = some (.lst ys) → Paired (fun a y => R a y F2) its ys → Q (.ref D) H2) :
    LcIn (Itl K a) (gName k) tYes te vs σ H Q := by
  refine comp_core (A := A) (G := fun H => SqL K H a xs) (Y := YAt xs) wd its (by rw [hl]; exact walk_list) (fun F' H' g => g.s.seq (g.f.seq hS)) (fun _ => true) R mono (by rw [hl]; exact hn) ?_ ?_
  · rintro i b x F1 H1 H2 hi gr ⟨rfl, hx⟩ Q1 Qn k1 _
    exact ⟨hw _, iteT (B := Qn H2) (el i b x F1 _ hi hx gr Q1 (k1 rfl))⟩
  · intro D ys F2 H2 hD g e pr
    rw [filter_true] at pr
    exact fin D ys F2 H2 hD g e pr
/-- pairs to data -/
theorem paired_dt {K : PySem.W.Frag} {F : Hp} {A : Type} {f : A → PyData} : ∀ {its : List A} {ys : List V}, Paired (fun a y => Dt K F y (f a)) its ys → DtAll K F ys (its.map f)
  | _, _, .nil => .nil
  | _, _, .cons h t => .cons h (paired_dt t)
theorem paired_eq {A B : Type} {f : A → B} : ∀ {its : List A} {ys : List B}, Paired (fun a y => y = f a) its ys → ys = its.map f
  | _, _, .nil => rfl
  | _, _, .cons h t => by rw [h, paired_eq t]; rfl
/-- some data of a kind -/
theorem paired_ex {K : PySem.W.Frag} {F : Hp} {A D : Type} {f : D → PyData} {P : A → D → Prop} : ∀ {its : List A} {ys : List V}, Paired (fun a y => ∃ d, P a d ∧ Dt K F y (f d)) its ys → ∃ ds, Paired P its ds ∧ DtAll K F ys (ds.map f)
  | _, _, .nil => ⟨[], .nil, .nil⟩
  | _, _, .cons ⟨d, h1, h2⟩ t => by
    obtain ⟨ds, g1, g2⟩ := paired_ex t
    exact ⟨d :: ds, .cons h1 g1, .cons h2 g2⟩
end Ls
namespace Ls
open PySem PySem.Spec PyProof.Rows L2
/-- [.. for x in a list if ..], one name -/
theorem comp_listF {A : Type} {m : Mo} {K : PySem.W.Frag} {tt : TT} {te : TE} {k : Nat} {vs : List Nat} {σ : L2.St} {F H : Hp} {Q : VK} {a : Addr} {xs : List V} (wd : Wd m F H) (its : List A) (hl : its.length = xs.length) (hS : SqL K F a xs) (hn : xs.length ≤ 1000000) (p : A → Bool) (R : A → V → Hp → Prop)
    (mono : ∀ a v F1 F2, Same F1 F2 → R a v F1 → R a v F2) (hw : ∀ x, wipe ((wipe σ vs).set k (some x)) vs = wipe σ vs)
    (el : ∀ (i : Nat) (b : A) (x : V) (F1 H1 : Hp), its[i]? = some b → xs[i]? = some x → Gr m F H F1 H1 → ∀ (Q1 : VK) (Qn : Hp → Prop), (p b = true → ∀ v F2 H2, Gr m F1 H1 F2 H2 → R b v F2 → Q1 v H2) → (p b = false → ∀ F2 H2, Gr m F1 H1 F2 H2 → Qn H2) →
      tt ((wipe σ vs).set k (some x)) H1 fun b H4 => if b = true then te ((wipe σ vs).set k (some x)) H4 Q1 else Qn H4)
    (fin : ∀ D ys F2 H2, H D = none → Gr m F H F2 H2 → F2 D = some (.lst ys) → Paired (fun a y => R a y F2) (its.filter p) ys → Q (.ref D) H2) :
    LcIn (Itl K a) (gName k) tt te vs σ H Q := by
  refine comp_core (A := A) (G := fun H => SqL K H a xs) (Y := YAt xs) wd its (by rw [hl]; exact walk_list) (fun F' H' g => g.s.seq (g.f.seq hS)) p R mono (by rw [hl]; exact hn) ?_ fin
  rintro i b x F1 H1 H2 hi gr ⟨rfl, hx⟩ Q1 Qn k1 k2
  exact ⟨hw _, el i b x F1 _ hi hx gr Q1 Qn k1 k2⟩
end Ls
namespace Ls
open PySem PySem.Spec PyProof.Rows L2
theorem paired_all {A B : Type} {P : B → Prop} : ∀ {its : List A} {ys : List B}, Paired (fun _ y => P y) its ys → ∀ y ∈ ys, P y
  | _, _, .nil, _, h => by cases h
  | _, _, .cons a t, y, h => by
    rcases List.mem_cons.mp h with rfl | h
    · exact a
    · exact paired_all t y h
theorem paired_vals {A : Type} {P : Int → Prop} : ∀ {its : List A} {ys : List V}, Paired (fun _ y => ∃ c : Int, y = .int c ∧ P c) its ys → ∃ r : List Int, ys = r.map V.int ∧ r.length = its.length ∧ ∀ c ∈ r, P c
  | _, _, .nil => ⟨[], rfl, rfl, fun _ h => by cases h⟩
  | _, _, .cons ⟨c, e, h⟩ t => by
    obtain ⟨r, e1, e2, e3⟩ := paired_vals t
    exact ⟨c :: r, by rw [e, e1]; rfl, congrArg (· + 1) e2, fun x hx => by
      rcases List.mem_cons.mp hx with rfl | hx
      · exact h
      · exact e3 x hx⟩
end Ls

namespace Ls
open PySem PySem.Spec PyProof.Rows L2
/-! ### a def by its name -/
def Has (P : Program) (w : World) (K : PySem.W.Frag) (mg : Str → Option Value) (base : Heap) (k : Nat) (x : Str) (ps : List Str) (sp : Sp) : Prop :=
  ∃ f fd, FnOk P w K mg base (L2.CX P w) k f fd ps sp ∧ mg x = some (.ref f) ∧ PySem.W.keepIn K (.ref f) = true ∧ Binds K fd ps []
/-- a method of the class at C -/
def HasM (P : Program) (w : World) (K : PySem.W.Frag) (mg : Str → Option Value) (base : Heap) (k : Nat) (C : Addr) (x : Str) (ps : List Str) (sp : Sp) : Prop :=
  ∃ f fd, FnOk P w K mg base (L2.CX P w) k f fd ps sp ∧ Meth K C x f ∧ Binds K fd ps []
/-- a class's maker -/
def HasI (P : Program) (w : World) (K : PySem.W.Frag) (mg : Str → Option Value) (base : Heap) (k : Nat) (C : Addr) (x : Str) (ps : List Str) (sp : Sp) : Prop :=
  ∃ f fd, FnOk P w K mg base (L2.CX P w) k f fd ps sp ∧ mg x = some (.ref C) ∧ Mk K C f ∧ Binds K fd ps []
section
variable {P : Program} {w : World} {K : PySem.W.Frag} {mg : Str → Option Value} {base : Heap} {k j : Nat} {C : Addr} {x : Str} {ps : List Str} {sp : Sp}
theorem Has.mono (h : Has P w K mg base k x ps sp) (q : k ≤ j) : Has P w K mg base j x ps sp := by
  obtain ⟨f, fd, a, b⟩ := h
  exact ⟨f, fd, a.mono q, b⟩
theorem HasM.mono (h : HasM P w K mg base k C x ps sp) (q : k ≤ j) : HasM P w K mg base j C x ps sp := by
  obtain ⟨f, fd, a, b⟩ := h
  exact ⟨f, fd, a.mono q, b⟩
theorem HasI.mono (h : HasI P w K mg base k C x ps sp) (q : k ≤ j) : HasI P w K mg base j C x ps sp := by
  obtain ⟨f, fd, a, b⟩ := h
  exact ⟨f, fd, a.mono q, b⟩
end
section
variable {X : Cx} {k : Nat} {C : Addr} {ps : List Str} {sp : Sp} {x m : Str} {p pos apos : Pos} {e o : Expr} {es : List Expr} {ta : TE} {t : TA} {W : WX}
theorem pe_fn (G : Has X.prog X.w X.K X.mg X.base k x ps sp) (hr : Room k X.A) (hg : Gl X x) (ha : PA X (e :: es) t) (hdb : (x == ("__debug__" : Str)) = false := by decide)
    (he : starEach (e :: es) X.env = (false, eval e X.env) :: starEach es X.env := by rfl) (hpl : (backTo pos (starEach es X.env)).any (·.1) = false := by rfl) : PE X (.Call (.Name x p) (e :: es) [] pos) (tCall sp [] E0 t) := by
  obtain ⟨f, fd, F, hm, hk, hb⟩ := G
  exact pe_call F hr hg hm hk hb .nil passL ha hdb he hpl
theorem pe_fnX (G : Has X.prog X.w X.K X.mg X.base k x ps sp) (hr : Room k X.A) (hg : Gl X x) (tk : Takes X W) (ha : PA X (e :: es) t) (hdb : (x == ("__debug__" : Str)) = false := by decide)
    (he : starEach (e :: es) X.env = (false, eval e X.env) :: starEach es X.env := by rfl) (hpl : (backTo pos (starEach es X.env)).any (·.1) = false := by rfl) : PE X (.Call (.Name x p) (e :: es) [] pos) (tCallS sp (WE W) t) := by
  obtain ⟨f, fd, F, hm, hk, hb⟩ := G
  exact pe_callS F hr hg hm hk hb (fun σ => passAt tk σ) ha hdb he hpl
theorem pe_me {pl : Sem Bool} (he : PE X o ta) (c : Cls X.K C) (G : HasM X.prog X.w X.K X.mg X.base k C m ps sp) (hr : Room k X.A) (ha : PA X (e :: es) t)
    (hst : starEach (e :: es) X.env = (false, eval e X.env) :: starEach es X.env := by rfl) (hpl : (backTo pos (starEach es X.env)).any (·.1) = false := by rfl)
    (ht : eval (.Call (.Attribute o m apos) (e :: es) [] pos) X.env = (do
      let ov ← eval o X.env
      standAt apos.atName
      let (f, first) ← holding [ov] (getMethod ov m pl)
      callWith pos f first (backTo pos (starEach (e :: es) X.env)) (backToKw pos (keywordEach [] X.env))) := by rfl) :
    PE X (.Call (.Attribute o m apos) (e :: es) [] pos) (tMeth C m sp [] E0 ta t) := by
  obtain ⟨f, fd, F, hm, hb⟩ := G
  exact pe_meth he c hm F hr hb .nil passL ha hst hpl ht
theorem pe_me0 {pl : Sem Bool} (he : PE X o ta) (c : Cls X.K C) (G : HasM X.prog X.w X.K X.mg X.base k C m ps sp) (hr : Room k X.A)
    (ht : eval (.Call (.Attribute o m apos) [] [] pos) X.env = (do
      let ov ← eval o X.env
      standAt apos.atName
      let (f, first) ← holding [ov] (getMethod ov m pl)
      callWith pos f first (backTo pos (starEach [] X.env)) (backToKw pos (keywordEach [] X.env))) := by rfl) :
    PE X (.Call (.Attribute o m apos) [] [] pos) (tMeth C m sp [] E0 ta tNil) := by
  obtain ⟨f, fd, F, hm, hb⟩ := G
  exact pe_meth0 he c hm F hr hb .nil passL ht
theorem pe_mkI (G : HasI X.prog X.w X.K X.mg X.base k C x ps sp) (hr : Room (k + 1) X.A) (hg : Gl X x) (ha : PA X (e :: es) t) (hdb : (x == ("__debug__" : Str)) = false := by decide)
    (he : starEach (e :: es) X.env = (false, eval e X.env) :: starEach es X.env := by rfl) (hpl : (backTo pos (starEach es X.env)).any (·.1) = false := by rfl) : PE X (.Call (.Name x p) (e :: es) [] pos) (tMake C sp [] E0 t) := by
  obtain ⟨f, fd, F, hm, M, hb⟩ := G
  exact pe_make M F hr hg hm hb .nil passL ha hdb he hpl
theorem hu_room {A : Around} {k : Nat} (hr : Room k A) : A.units + 1 < cLine := Nat.lt_of_le_of_lt (Nat.add_le_add_left (by decide : 1 ≤ 64) _) hr.units
end
end Ls
namespace Ls
open PySem PySem.Spec PyProof.Rows L2
theorem FnOk.cx {P : Program} {w : World} {K : PySem.W.Frag} {mg : Str → Option Value} {base : Heap} {CX CX' : CXT} {k : Nat} {f : Addr} {fd : FuncData} {ps : List Str} {sp : Sp} (F : FnOk P w K mg base CX k f fd ps sp)
    (h : ∀ a b c d e g, CX a b c d e g → CX' a b c d e g) : L2.FnOk P w K mg base CX' k f fd ps sp :=
  ⟨F.len, fun A outer s H args us vs Q E hr he hb hv hs => codeAny_mono (F.run A outer s H args us vs Q E hr he hb hv hs) fun r s' hq => by
    cases r with
    | ok fl => cases fl <;> exact hq
    | error e => exact h _ _ _ _ _ _ hq⟩
end Ls

namespace Ls
open PySem PySem.Spec PyProof.Rows L2
/-! ### small heaps' facts -/
theorem sql_of {K : PySem.W.Frag} {H : Hp} {a : Addr} {xs : List V} (h : H a = some (.lst xs)) : SqL K H a xs := .inl (.inl h)
theorem sqt_of {K : PySem.W.Frag} {H : Hp} {a : Addr} {xs : List V} (h : H a = some (.tup xs)) : SqT K H a xs := .inl (.inl h)
theorem atI_of {A : Type} {xs : List A} {i : Nat} {x : A} (h : xs[i]? = some x) : atI xs ((i : Nat) : Int) = some x := atI_nat h
theorem atI_ofI {A : Type} {xs : List A} {i : Int} {x : A} (h0 : 0 ≤ i) (h : xs[i.toNat]? = some x) : atI xs i = some x := by
  have e : i = ((i.toNat : Nat) : Int) := by omega
  rw [e]
  exact atI_nat h
theorem map_get {A B : Type} {f : A → B} {xs : List A} {i : Nat} {x : A} (h : xs[i]? = some x) : (xs.map f)[i]? = some (f x) := by
  rw [List.getElem?_map, h]
  rfl
theorem map_get_inv {A B : Type} {f : A → B} {xs : List A} {i : Nat} {y : B} (h : (xs.map f)[i]? = some y) : ∃ x, xs[i]? = some x ∧ y = f x := by
  rw [List.getElem?_map] at h
  cases e : xs[i]? with
  | none =>
    rw [e] at h
    cases h
  | some x =>
    rw [e] at h
    exact ⟨x, rfl, (Option.some.inj h).symm⟩
/-! ### the dice: a list of ints that are not below 0, two at least -/
def DiceL (ns : List Int) : Prop := 2 ≤ ns.length ∧ ns.length ≤ 100 ∧ ∀ x ∈ ns, 0 ≤ x
def Dice (H : Hp) (d : Addr) : Prop := ∃ ns : List Int, H d = some (.lst (ns.map V.int)) ∧ DiceL ns
def mD (d : Addr) : Mo := ⟨fun b => b = d, fun H => Dice H d, fun _ _ h e => by
  obtain ⟨ns, h1, _⟩ := h
  subst e
  exact ⟨_, h1⟩, fun _ _ h k => by
  obtain ⟨ns, h1, h2⟩ := h
  exact ⟨ns, k d _ rfl h1, h2⟩⟩
theorem gr_dice {F H : Hp} {d : Addr} {ns : List Int} (w : Wd (mD d) F H) (h : DiceL ns) : Gr (mD d) F H F (upd H d (.lst (ns.map V.int))) := by
  have fd : F d = none := w.n d rfl
  refine ⟨Same.refl F, fun b o e => ?_, fun b o q e => ?_, fun _ _ _ e => e, ⟨ns, upd_same, h⟩⟩
  · rw [upd_ne (ne_of_none e fd)]
    exact w.s b o e
  · rw [upd_ne (show b ≠ d from q)]
    exact e
/-! ### pictures -/
def IsPic (m : List (List Int)) : Prop := 1 ≤ m.length ∧ m.length ≤ 16 ∧ ∀ r ∈ m, (1 ≤ r.length ∧ r.length ≤ 16) ∧ r.length = (m.headD []).length ∧ ∀ c ∈ r, 0 ≤ c ∧ c ≤ 255
/-- h rows of w cells, each a cell -/
structure PicP (P : Int → Prop) (h w : Nat) (m : List (List Int)) : Prop where
  hi : m.length = h
  wi : ∀ r ∈ m, r.length = w
  ce : ∀ r ∈ m, ∀ c ∈ r, P c
abbrev PicHW (h w : Nat) (m : List (List Int)) : Prop := PicP (fun c => 0 ≤ c ∧ c ≤ 255) h w m
theorem PicP.pic {h w : Nat} {m : List (List Int)} (p : PicHW h w m) (h1 : 1 ≤ h) (h2 : h ≤ 16) (w1 : 1 ≤ w) (w2 : w ≤ 16) : IsPic m := by
  refine ⟨by rw [p.hi]; exact h1, by rw [p.hi]; exact h2, fun r hr => ⟨⟨by rw [p.wi r hr]; exact w1, by rw [p.wi r hr]; exact w2⟩, ?_, p.ce r hr⟩⟩
  cases m with
  | nil => cases hr
  | cons a t =>
    show r.length = a.length
    rw [p.wi r hr, p.wi a List.mem_cons_self]
theorem IsPic.hw {m : List (List Int)} (p : IsPic m) : PicHW m.length (m.headD []).length m := ⟨rfl, fun r hr => (p.2.2 r hr).2.1, fun r hr => (p.2.2 r hr).2.2⟩
theorem IsPic.w1 {m : List (List Int)} (p : IsPic m) : 1 ≤ (m.headD []).length ∧ (m.headD []).length ≤ 16 := by
  cases m with
  | nil => exact absurd p.1 (by decide)
  | cons a t => exact (p.2.2 a List.mem_cons_self).1
/-! ### a matrix that is new since H, all its rows apart -/
structure MatF (H H' : Hp) (p : Addr) (rs : List Addr) (m : List (List Int)) : Prop where
  top : H' p = some (.lst (rs.map V.ref))
  len : rs.length = m.length
  row : ∀ (i : Nat) (r : List Int) (a : Addr), m[i]? = some r → rs[i]? = some a → H' a = some (.lst (r.map V.int))
  nd : (p :: rs).Nodup
  new : ∀ a ∈ p :: rs, H a = none
theorem MatF.same {H H' H'' : Hp} {p : Addr} {rs : List Addr} {m : List (List Int)} (f : MatF H H' p rs m) (s : Same H' H'') : MatF H H'' p rs m :=
  ⟨s _ _ f.top, f.len, fun i r a h1 h2 => s _ _ (f.row i r a h1 h2), f.nd, f.new⟩
theorem dtAll_rows {K : PySem.W.Frag} {H : Hp} : ∀ (rs : List Addr) (m : List (List Int)), rs.length = m.length → (∀ (i : Nat) (r : List Int) (a : Addr), m[i]? = some r → rs[i]? = some a → H a = some (.lst (r.map V.int))) → DtAll K H (rs.map V.ref) (m.map dRow)
  | [], [], _, _ => .nil
  | [], _ :: _, h, _ => by cases h
  | _ :: _, [], h, _ => by cases h
  | a :: rs, r :: m, h, f => .cons (dt_row_mk (f 0 r a rfl rfl)) (dtAll_rows rs m (Nat.succ.inj h) fun i r' a' h1 h2 => f (i + 1) r' a' h1 h2)
theorem MatF.dp {K : PySem.W.Frag} {H H' : Hp} {p : Addr} {rs : List Addr} {m : List (List Int)} (f : MatF H H' p rs m) : Dt K H' (.ref p) (dMat m) :=
  .lst f.top (dtAll_rows rs m f.len f.row)
/-- frozen: all that is new -/
def frzAll (F H' : Hp) (as : List Addr) : Hp := fun b => if b ∈ as then H' b else F b
theorem frz_in {F H' : Hp} {as : List Addr} {b : Addr} (h : b ∈ as) : frzAll F H' as b = H' b := if_pos h
theorem frz_out {F H' : Hp} {as : List Addr} {b : Addr} (h : b ∉ as) : frzAll F H' as b = F b := if_neg h
theorem gr_all {m : Mo} {F H F' H' : Hp} {as : List Addr} (w : Wd m F H) (g : Gr m F H F' H') (new : ∀ a ∈ as, H a = none) (fr : ∀ a ∈ as, F' a = none) : Gr m F H (frzAll F' H' as) H' := by
  refine ⟨fun b o e => ?_, fun b o e => ?_, g.h, fun b o e z => ?_, g.j⟩
  · have hb : b ∉ as := fun q => by
      have := new b q
      rw [w.s b o e] at this
      cases this
    rw [frz_out hb]
    exact g.f b o e
  · by_cases hb : b ∈ as
    · rw [frz_in hb] at e
      exact e
    · rw [frz_out hb] at e
      exact g.s b o e
  · have hb : b ∉ as := fun q => by
      have := new b q
      rw [e] at this
      cases this
    rw [frz_out hb]
    exact g.n b o e z
theorem MatF.frz {K : PySem.W.Frag} {F H' : Hp} {H : Hp} {p : Addr} {rs : List Addr} {m : List (List Int)} (f : MatF H H' p rs m) : Dt K (frzAll F H' (p :: rs)) (.ref p) (dMat m) := by
  refine .lst ?_ (dtAll_rows rs m f.len fun i r a h1 h2 => ?_)
  · rw [frz_in List.mem_cons_self]
    exact f.top
  · rw [frz_in (List.mem_cons_of_mem _ (List.mem_of_getElem? h2))]
    exact f.row i r a h1 h2
end Ls
namespace Ls
open PySem PySem.Spec PyProof.Rows L2
theorem ixN_of {n j : Nat} (h : j < n) : ixN n ((j : Nat) : Int) = some j := by
  unfold ixN
  rw [if_pos (by omega), if_pos (by omega)]
  simp
theorem seqIx_of {n j : Nat} (h : j < n) : PySem.seqIndex? ((j : Nat) : Int) n = some j := (ixN_seq (ixN_of h)).1
end Ls
namespace Ls
open PySem PySem.Spec PyProof.Rows L2
/-- a <= b <= c, written c -/
theorem le_le {a b c : Int} {σ : L2.St} {H : Hp} {Q : VK} (q : Q (.bl (decide (a ≤ b ∧ b ≤ c))) H) :
    rI0 (fun i j => V.bl (decide (i ≤ j))) (.int a) (.int b) H fun z H3 => ∃ k, z = .bl k ∧ (if k = true then tC (.int c) σ H3 fun w' H4 => rI0 (fun i j => V.bl (decide (i ≤ j))) (.int b) w' H4 Q else Q (.bl false) H3) := by
  refine ⟨a, b, rfl, rfl, _, rfl, ?_⟩
  by_cases h : a ≤ b
  · rw [if_pos (decide_eq_true h)]
    refine ⟨b, c, rfl, rfl, ?_⟩
    show Q (.bl (decide (b ≤ c))) H
    rw [show decide (b ≤ c) = decide (a ≤ b ∧ b ≤ c) by simp [h]]
    exact q
  · rw [if_neg (by simp [h])]
    rw [show decide (a ≤ b ∧ b ≤ c) = false by simp [h]] at q
    exact q
/-- a row as need_picture wants it -/
def RowOk (n : Nat) (r : List Int) : Prop := (1 ≤ r.length ∧ r.length ≤ 16) ∧ r.length = n ∧ ∀ c ∈ r, 0 ≤ c ∧ c ≤ 255
theorem isPic_iff {m : List (List Int)} : IsPic m ↔ (1 ≤ m.length ∧ m.length ≤ 16) ∧ ∀ r ∈ m, RowOk (m.headD []).length r :=
  ⟨fun h => ⟨⟨h.1, h.2.1⟩, h.2.2⟩, fun h => ⟨h.1.1, h.1.2, h.2⟩⟩
end Ls
namespace Ls
open PySem PySem.Spec PyProof.Rows L2
theorem isum_app : ∀ (xs ys : List Int), (xs ++ ys).sum = xs.sum + ys.sum
  | [], ys => by simp
  | x :: xs, ys => by
    rw [List.cons_append, List.sum_cons, List.sum_cons, isum_app xs ys]
    omega
theorem isum_more {l : List Int} {i : Nat} {x : Int} (h : l[i]? = some x) : (l.take (i + 1)).sum = (l.take i).sum + x := by
  rw [take_more h, isum_app]
  simp
theorem range_map_succ {A : Type} (f : Nat → A) (n : Nat) : (List.range (n + 1)).map f = (List.range n).map f ++ [f n] := by
  rw [List.range_succ, List.map_append]
  rfl
theorem range_map_get {A : Type} (f : Nat → A) {n i : Nat} (h : i < n) : ((List.range n).map f)[i]? = some (f i) := by
  rw [List.getElem?_map, List.getElem?_range h]
  rfl
theorem MatF.more {H H' : Hp} {p q : Addr} {rs : List Addr} {m : List (List Int)} {row : List Int} (f : MatF H H' p rs m) (hq : H' q = some (.lst (row.map V.int))) (nq : q ∉ p :: rs) (zq : H q = none) :
    MatF H (upd H' p (.lst ((rs ++ [q]).map V.ref))) p (rs ++ [q]) (m ++ [row]) := by
  have np : ∀ a ∈ rs, a ≠ p := fun a ha e => by
    have := (List.nodup_cons.mp f.nd).1
    rw [e] at ha
    exact this ha
  have nqp : q ≠ p := fun e => nq (by rw [e]; exact List.mem_cons_self)
  refine ⟨upd_same, by rw [List.length_append, List.length_append, f.len]; rfl, fun i r a h1 h2 => ?_, ?_, fun a ha => ?_⟩
  · by_cases hi : i < m.length
    · rw [List.getElem?_append_left hi] at h1
      rw [List.getElem?_append_left (by rw [f.len]; exact hi)] at h2
      rw [upd_ne (np a (List.mem_of_getElem? h2))]
      exact f.row i r a h1 h2
    · have e : i = m.length := by
        have := (List.getElem?_eq_some_iff.mp h1).1
        rw [List.length_append] at this
        simp at this
        omega
      subst e
      rw [List.getElem?_append_right (Nat.le_refl _), Nat.sub_self] at h1
      rw [← f.len, List.getElem?_append_right (Nat.le_refl _), Nat.sub_self] at h2
      have e1 : row = r := Option.some.inj h1
      have e2 : q = a := Option.some.inj h2
      subst e1 e2
      rw [upd_ne nqp]
      exact hq
  · have h := f.nd
    rw [show p :: (rs ++ [q]) = (p :: rs) ++ [q] from rfl, List.nodup_append]
    refine ⟨h, by simp, fun a ha b hb => ?_⟩
    rw [List.mem_singleton] at hb
    subst hb
    exact fun e => nq (e ▸ ha)
  · rw [show p :: (rs ++ [q]) = (p :: rs) ++ [q] from rfl] at ha
    rcases List.mem_append.mp ha with ha | ha
    · exact f.new a ha
    · rw [List.mem_singleton] at ha
      rw [ha]
      exact zq
end Ls
namespace Ls
open PySem PySem.Spec PyProof.Rows L2
theorem MatF.gr {m : Mo} {F F' H H1 H3 : Hp} {p : Addr} {rs : List Addr} {M : List (List Int)} (f : MatF H H1 p rs M) (nM : ∀ b, H b = none → ¬ m.M b) (g : Gr m F H1 F' H3) : MatF H H3 p rs M :=
  ⟨g.h _ _ (nM _ (f.new p List.mem_cons_self)) f.top, f.len, fun i r a h1 h2 => g.h _ _ (nM _ (f.new a (List.mem_cons_of_mem _ (List.mem_of_getElem? h2)))) (f.row i r a h1 h2), f.nd, f.new⟩
theorem MatF.there {H H' : Hp} {p : Addr} {rs : List Addr} {m : List (List Int)} (f : MatF H H' p rs m) {a : Addr} (h : a ∈ p :: rs) : ∃ o, H' a = some o := by
  rcases List.mem_cons.mp h with rfl | h
  · exact ⟨_, f.top⟩
  · obtain ⟨i, hi⟩ := List.getElem?_of_mem h
    have hl : i < m.length := by
      rw [← f.len]
      exact (List.getElem?_eq_some_iff.mp hi).1
    exact ⟨_, f.row i _ a (List.getElem?_eq_getElem hl) hi⟩
/-- a comprehension whose items are new rows of ints -/
theorem comp_mat {A : Type} {m : Mo} {J : It} {G : Hp → Prop} {Y : Nat → Hp → V → Hp → Prop} {g : TG} {te : TE} {vs : List Nat} {σ : L2.St} {F H : Hp} {Q : VK}
    (wd : Wd m F H) (its : List A) (w : Walk J its.length G Y) (hG : ∀ H', Gr m F H F H' → G H') (f : A → List Int) (hz : its.length ≤ 1000000)
    (turn : ∀ i a x H1 H2, its[i]? = some a → Gr m F H F H1 → Y i H1 x H2 → ∀ Q1 : VK, (∀ b H3, H1 b = none → Gr m F H1 F H3 → H3 b = some (.lst ((f a).map V.int)) → Q1 (.ref b) H3) →
      g x (wipe σ vs) H2 fun σ2 H3 => wipe σ2 vs = wipe σ vs ∧ te σ2 H3 Q1)
    (fin : ∀ D rs H2, Gr m F H F H2 → MatF H H2 D rs (its.map f) → Q (.ref D) H2)
    (gm : ∀ x σ H Q Q', (∀ σ H, Q σ H → Q' σ H) → g x σ H Q → g x σ H Q') : LcIn J g tYes te vs σ H Q := by
  intro D hD
  have nM : ∀ b, H b = none → ¬ m.M b := fun b h => wd.nM h
  refine lc_it w (Qd := fun H' => Q (.ref D) H') (fun i H' => ∃ rs, Gr m F H F H' ∧ MatF H H' D rs ((its.take i).map f)) ?_ ?_ ?_ ?_
  · refine ⟨[], (Gr.refl wd).wr wd hD (wd.s.free hD), upd_same, rfl, fun i r a h1 _ => by simp at h1, by simp, fun a ha => ?_⟩
    rcases List.mem_cons.mp ha with rfl | ha
    · exact hD
    · cases ha
  · rintro i H' _ ⟨rs, gr, _⟩
    exact hG H' gr
  · rintro i x H1 H2 hi ⟨rs, gr, M⟩ hy
    have hit : its[i]? = some its[i] := List.getElem?_eq_getElem hi
    have T := turn i its[i] x H1 H2 hit gr hy (fun y H4 => ∃ acc, H4 D = some (.lst acc) ∧ acc.length < sizeLine ∧ (∃ rs, Gr m F H F (upd H4 D (.lst (acc ++ [y]))) ∧ MatF H (upd H4 D (.lst (acc ++ [y]))) D rs ((its.take (i + 1)).map f))) (fun b H3 zb g3 e3 => by
      have M3 := M.gr nM g3
      have hlen : rs.length ≤ i := by
        rw [M.len, List.length_map, List.length_take]
        exact Nat.min_le_left _ _
      refine ⟨rs.map V.ref, M3.top, by rw [List.length_map]; exact size_lt (by omega), rs ++ [b], (gr.trans wd g3).wr wd hD (wd.s.free hD), ?_⟩
      have nb : b ∉ D :: rs := fun hm => by
        obtain ⟨o, e⟩ := M.there hm
        rw [zb] at e
        cases e
      have M4 := M3.more e3 nb (gr.same wd zb)
      rw [take_more hit, List.map_append]
      have e5 : List.map V.ref rs ++ [V.ref b] = (rs ++ [b]).map V.ref := by simp
      rw [e5]
      exact M4)
    exact gm x _ H2 _ _ (fun σ2 H3 q => ⟨q.1, q.2⟩) T
  · rintro H' ⟨rs, gr, M⟩
    rw [List.take_length] at M
    exact fin D rs H' gr M
theorem gName_mono {k : Nat} : ∀ x σ H Q Q', (∀ σ H, Q σ H → Q' σ H) → gName k x σ H Q → gName k x σ H Q' := fun _ σ H _ _ h q => h _ _ q
/-- .. over a list, one name -/
theorem comp_matL {A : Type} {m : Mo} {K : PySem.W.Frag} {te : TE} {k : Nat} {vs : List Nat} {σ : L2.St} {F H : Hp} {Q : VK} {a : Addr} {xs : List V} (wd : Wd m F H) (its : List A) (hl : its.length = xs.length) (hS : SqL K F a xs) (hn : xs.length ≤ 1000000) (f : A → List Int)
    (hw : ∀ x, wipe ((wipe σ vs).set k (some x)) vs = wipe σ vs)
    (el : ∀ (i : Nat) (b : A) (x : V) (H1 : Hp), its[i]? = some b → xs[i]? = some x → Gr m F H F H1 → ∀ Q1 : VK, (∀ c H3, H1 c = none → Gr m F H1 F H3 → H3 c = some (.lst ((f b).map V.int)) → Q1 (.ref c) H3) → te ((wipe σ vs).set k (some x)) H1 Q1)
    (fin : ∀ D rs H2, Gr m F H F H2 → MatF H H2 D rs (its.map f) → Q (.ref D) H2) : LcIn (Itl K a) (gName k) tYes te vs σ H Q := by
  refine comp_mat (A := A) (G := fun H => SqL K H a xs) (Y := YAt xs) wd its (by rw [hl]; exact walk_list) (fun H' g => g.s.seq hS) f (by rw [hl]; exact hn) ?_ fin gName_mono
  rintro i b x H1 H2 hi gr ⟨rfl, hx⟩ Q1 k1
  exact ⟨hw _, el i b x _ hi hx gr Q1 k1⟩
/-- .. over a range -/
theorem comp_matR {m : Mo} {te : TE} {k : Nat} {vs : List Nat} {σ : L2.St} {F H : Hp} {Q : VK} {lo : Int} {n : Nat} (wd : Wd m F H) (hn : n ≤ 1000000) (f : Nat → List Int)
    (hw : ∀ x, wipe ((wipe σ vs).set k (some x)) vs = wipe σ vs)
    (el : ∀ (i : Nat) (H1 : Hp), i < n → Gr m F H F H1 → ∀ Q1 : VK, (∀ c H3, H1 c = none → Gr m F H1 F H3 → H3 c = some (.lst ((f i).map V.int)) → Q1 (.ref c) H3) → te ((wipe σ vs).set k (some (.int (lo + i)))) H1 Q1)
    (fin : ∀ D rs H2, Gr m F H F H2 → MatF H H2 D rs ((List.range n).map f) → Q (.ref D) H2) : LcIn (Itr lo n) (gName k) tYes te vs σ H Q := by
  refine comp_mat (A := Nat) (G := fun _ => True) (Y := YFn fun i => .int (lo + i)) wd (List.range n) (by rw [List.length_range]; exact walk_range) (fun _ _ => trivial) f (by rw [List.length_range]; exact hn) ?_ fin gName_mono
  rintro i b x H1 H2 hi gr ⟨rfl, rfl⟩ Q1 k1
  have hl : i < n := by
    have := (List.getElem?_eq_some_iff.mp hi).1
    rwa [List.length_range] at this
  have ea : b = i := by
    rw [List.getElem?_range hl] at hi
    exact (Option.some.inj hi).symm
  subst ea
  exact ⟨hw _, el b _ hl gr Q1 k1⟩
end Ls

namespace Ls
open PySem PySem.Spec PyProof.Rows L2
/-! ### isinstance of data -/
def tyN : PyData → String
  | .none => "NoneType"
  | .bool _ => "bool"
  | .int _ => "int"
  | .str _ => "str"
  | .list _ => "list"
  | .tuple _ => "tuple"
  | .dict _ => "dict"
theorem tyx_of {K : PySem.W.Frag} {H : Hp} {v : V} {d : PyData} (h : Dt K H v d) : TyX K H v (.type (tyN d)) := by
  cases h with
  | non => exact .base .non
  | bl b => exact .base (.bl b)
  | int i => exact .base (.int i)
  | str x => exact .base (.str x)
  | lst h _ => exact .base (.lst h)
  | tup h _ =>
    rcases h with (h | ⟨o, h⟩) | ⟨o, its, n, h1, h2, _⟩
    · exact .base (.tup h)
    · exact .fTuple h
    · exact .kTuple h1 h2
  | dic h _ => exact .base (.dK h)
mutual
/-- no dict within, no list longer than 1000 -/
def fine : PyData → Bool
  | .list xs => decide (xs.length ≤ 1000) && fines xs
  | .tuple xs => decide (xs.length ≤ 1000) && fines xs
  | .dict _ => false
  | .none => true
  | .bool _ => true
  | .int _ => true
  | .str x => PyData.strOk x
def fines : List PyData → Bool
  | [] => true
  | x :: xs => fine x && fines xs
end
theorem fines_get : ∀ {ds : List PyData} {i : Nat} {d : PyData}, fines ds = true → ds[i]? = some d → fine d = true
  | [], _, _, _, h => by simp at h
  | a :: r, 0, d, q, h => by
    have e : a = d := Option.some.inj h
    subst e
    rw [fines] at q
    exact (Bool.and_eq_true_iff.mp q).1
  | a :: r, i + 1, d, q, h => by
    rw [fines] at q
    exact fines_get (Bool.and_eq_true_iff.mp q).2 (i := i) (by simpa using h)
theorem fines_of : ∀ {ds : List PyData}, (∀ d ∈ ds, fine d = true) → fines ds = true
  | [], _ => by rw [fines]
  | a :: r, h => by
    rw [fines, h a List.mem_cons_self, fines_of fun d hd => h d (List.mem_cons_of_mem _ hd)]
    rfl
theorem depthAll_of {n : Nat} : ∀ {ds : List PyData}, (∀ d ∈ ds, d.depth ≤ n) → PyData.depthAll ds ≤ n
  | [], _ => by rw [PyData.depthAll]; exact Nat.zero_le _
  | a :: r, h => by
    rw [PyData.depthAll]
    exact Nat.max_le.mpr ⟨h a List.mem_cons_self, depthAll_of fun d hd => h d (List.mem_cons_of_mem _ hd)⟩
theorem fine_row {r : List Int} (h : r.length ≤ 1000) : fine (dRow r) = true := by
  unfold dRow
  rw [fine, List.length_map, decide_eq_true h, fines_of fun d hd => ?_]
  · rfl
  · obtain ⟨x, _, rfl⟩ := List.mem_map.mp hd
    rw [fine]
theorem depth_row (r : List Int) : (dRow r).depth ≤ 1 := by
  unfold dRow
  rw [PyData.depth]
  have : PyData.depthAll (r.map PyData.int) ≤ 0 := depthAll_of fun d hd => by
    obtain ⟨x, _, rfl⟩ := List.mem_map.mp hd
    rw [PyData.depth]
    exact Nat.le_refl 0
  omega
theorem fine_mat {m : List (List Int)} (h : m.length ≤ 1000) (hr : ∀ r ∈ m, r.length ≤ 1000) : fine (dMat m) = true := by
  unfold dMat
  rw [fine, List.length_map, decide_eq_true h, fines_of fun d hd => ?_]
  · rfl
  · obtain ⟨x, hx, rfl⟩ := List.mem_map.mp hd
    exact fine_row (hr x hx)
theorem depth_mat (m : List (List Int)) : (dMat m).depth ≤ 2 := by
  unfold dMat
  rw [PyData.depth]
  have : PyData.depthAll (m.map dRow) ≤ 1 := depthAll_of fun d hd => by
    obtain ⟨x, _, rfl⟩ := List.mem_map.mp hd
    exact depth_row x
  omega
theorem FnOk.vac {P : Program} {w : World} {K : PySem.W.Frag} {mg : Str → Option Value} {base : Heap} {CX : CXT} {k : Nat} {f : Addr} {fd : FuncData} {ps : List Str} {sp : Sp} (h : ∀ vs H Q E, ¬ sp vs H Q E) : L2.FnOk P w K mg base CX k f fd ps sp :=
  ⟨fun vs H Q E z => absurd z (h vs H Q E), fun _ _ _ _ _ _ _ _ _ _ _ _ _ z => absurd z (h _ _ _ _)⟩
theorem depthAll_get : ∀ {ds : List PyData} {i : Nat} {d : PyData}, ds[i]? = some d → d.depth ≤ PyData.depthAll ds
  | [], _, _, h => by simp at h
  | a :: r, 0, d, h => by
    have e : a = d := Option.some.inj h
    subst e
    rw [PyData.depthAll]
    exact Nat.le_max_left _ _
  | a :: r, i + 1, d, h => by
    have ih := depthAll_get (ds := r) (i := i) (d := d) (by simpa using h)
    rw [PyData.depthAll]
    exact Nat.le_trans ih (Nat.le_max_right _ _)
theorem paired_trues {A : Type} : ∀ {its : List A} {ys : List V}, Paired (fun _ y => y = V.bl true) its ys → ys = (its.map fun _ => true).map V.bl
  | _, _, .nil => rfl
  | _, _, .cons h t => by rw [h, paired_trues t]; rfl
theorem all_trues {A : Type} (its : List A) : (its.map fun _ => true).all id = true := by simp
end Ls
namespace Ls
open PySem PySem.Spec PyProof.Rows L2
mutual
theorem canLay_of_fine : ∀ {d : PyData}, fine d = true → d.canLay0 = true
  | .none, _ => rfl
  | .bool _, _ => rfl
  | .int _, _ => rfl
  | .str x, h => by
    rw [fine] at h
    exact h
  | .list xs, h => by
    rw [fine] at h
    exact canLayAll_of_fines (Bool.and_eq_true_iff.mp h).2
  | .tuple xs, h => by
    rw [fine] at h
    exact canLayAll_of_fines (Bool.and_eq_true_iff.mp h).2
  | .dict _, h => by
    rw [fine] at h
    cases h
theorem canLayAll_of_fines : ∀ {ds : List PyData}, fines ds = true → PyData.canLayAll0 ds = true
  | [], _ => rfl
  | x :: xs, h => by
    rw [fines] at h
    obtain ⟨h1, h2⟩ := Bool.and_eq_true_iff.mp h
    rw [PyData.canLayAll0, canLay_of_fine h1, canLayAll_of_fines h2]
    rfl
end
/-- what == and != ask -/
theorem shaped_of {d : PyData} (h : fine d = true) (hd : d.depth ≤ 64) : SeqAt.shaped d = true := by
  unfold SeqAt.shaped
  rw [canLay_of_fine h, decide_eq_true hd]
  rfl
mutual
theorem fine_noDic : ∀ {d : PyData}, fine d = true → noDic d = true
  | .none, _ => by rw [noDic]
  | .bool _, _ => by rw [noDic]
  | .int _, _ => by rw [noDic]
  | .str _, _ => by rw [noDic]
  | .list xs, h => by
    rw [fine] at h
    rw [noDic]
    exact fines_noDics (Bool.and_eq_true_iff.mp h).2
  | .tuple xs, h => by
    rw [fine] at h
    rw [noDic]
    exact fines_noDics (Bool.and_eq_true_iff.mp h).2
  | .dict _, h => by
    rw [fine] at h
    cases h
theorem fines_noDics : ∀ {ds : List PyData}, fines ds = true → noDics ds = true
  | [], _ => by rw [noDics]
  | x :: xs, h => by
    rw [fines] at h
    obtain ⟨h1, h2⟩ := Bool.and_eq_true_iff.mp h
    rw [noDics, fine_noDic h1, fines_noDics h2]
    rfl
end
/-- == of the same data -/
theorem eqD_same {K : PySem.W.Frag} {H : Hp} {x y : V} {d : PyData} {Q : VK} (hx : Dt K H x d) (hy : Dt K H y d) (hf : fine d = true) (hd : d.depth ≤ 64) (q : Q (.bl true) H) : rEqD K x y H Q := by
  refine ⟨d, d, hx.dp (fine_noDic hf), hy.dp (fine_noDic hf), shaped_of hf hd, shaped_of hf hd, ?_⟩
  rw [PySem.SeqAt.eqv_refl d (canLay_of_fine hf)]
  exact q
theorem neD_same {K : PySem.W.Frag} {H : Hp} {x y : V} {d : PyData} {Q : VK} (hx : Dt K H x d) (hy : Dt K H y d) (hf : fine d = true) (hd : d.depth ≤ 64) (q : Q (.bl false) H) : rNeD K x y H Q := by
  refine ⟨d, d, hx.dp (fine_noDic hf), hy.dp (fine_noDic hf), shaped_of hf hd, shaped_of hf hd, ?_⟩
  rw [PySem.SeqAt.eqv_refl d (canLay_of_fine hf)]
  exact q
/-- slices by natural ends -/
theorem cutV_to (xs : List V) (k : Nat) : cutV xs none (some ((k : Nat) : Int)) = xs.take k := by
  unfold cutV
  rw [HT.sIx_none, HT.sIx_nat, List.drop_zero, Nat.sub_zero]
  by_cases h : k ≤ xs.length
  · rw [Nat.min_eq_left h]
  · rw [Nat.min_eq_right (by omega), List.take_length, List.take_of_length_le (by omega)]
theorem cutV_from (xs : List V) (k : Nat) : cutV xs (some ((k : Nat) : Int)) none = xs.drop k := by
  unfold cutV
  rw [HT.sIx_none, HT.sIx_nat]
  by_cases h : k ≤ xs.length
  · rw [Nat.min_eq_left h, List.take_of_length_le (by rw [List.length_drop]; exact Nat.le_refl _)]
  · rw [Nat.min_eq_right (by omega), List.drop_length, List.drop_eq_nil_of_le (by omega)]
    simp
theorem cutV_fromto (xs : List V) (k j : Nat) (h : k ≤ j) : cutV xs (some ((k : Nat) : Int)) (some ((j : Nat) : Int)) = (xs.drop k).take (j - k) := by
  unfold cutV
  rw [HT.sIx_nat, HT.sIx_nat]
  by_cases h1 : k ≤ xs.length
  · rw [Nat.min_eq_left h1]
    by_cases h2 : j ≤ xs.length
    · rw [Nat.min_eq_left h2]
    · rw [Nat.min_eq_right (by omega), List.take_of_length_le (by rw [List.length_drop]; exact Nat.le_refl _), List.take_of_length_le (by rw [List.length_drop]; omega)]
  · rw [Nat.min_eq_right (by omega : xs.length ≤ k), List.drop_length, List.drop_eq_nil_of_le (by omega : xs.length ≤ k)]
    simp
end Ls

namespace Ls
open PySem PySem.Spec PyProof.Rows L2
/-! ### the layer's rules with the written part told (for use within comprehensions) -/
section
variable {X : Cx} {K : PySem.W.Frag}
theorem ixL (h : X.K = K) : IxR X (rIxL K) := by subst h; exact ix_list
theorem ixT (h : X.K = K) : IxR X (rIxT K) := by subst h; exact ix_tup
def rLenQ (K : PySem.W.Frag) : List V → Hp → VK → Prop := fun xs H Q => ∃ p ys, xs = [.ref p] ∧ (SqL K H p ys ∨ SqT K H p ys) ∧ Q (.int ys.length) H
theorem lenQ (h : X.K = K) : CallR X (.builtin "len") (rLenQ K) := by subst h; exact call_len_seq
def rLstQ (K : PySem.W.Frag) : List V → Hp → VK → Prop := fun xs H Q => ∃ p ys, xs = [.ref p] ∧ (SqL K H p ys ∨ SqT K H p ys) ∧ ∀ l, H l = none → Q (.ref l) (upd H l (.lst ys))
theorem lstQ (h : X.K = K) : CallR X (.type "list") (rLstQ K) := by subst h; exact call_list_of
theorem sumQ (h : X.K = K) (hc : X.calm = true) : CallR X (.builtin "sum") (rSum K) := by subst h; exact cr_sum hc
theorem minQ (h : X.K = K) (hc : X.calm = true) : CallR X (.builtin "min") (rMin K) := by subst h; exact cr_min hc
theorem allQ (h : X.K = K) (hc : X.calm = true) : CallR X (.builtin "all") (rAll K) := by subst h; exact cr_all hc
theorem isiQ (h : X.K = K) : CallR X (.builtin "isinstance") (rIsi K) := by subst h; exact call_isi
theorem sorQ (h : X.K = K) : CallR X (.builtin "sorted") (rSortedI K) := by subst h; exact cr_sortedI
theorem sorSQ (h : X.K = K) : CallR X (.builtin "sorted") (rSortedS K) := by subst h; exact cr_sortedS
theorem slL (h : X.K = K) : SlR X (rSlL K) := by subst h; exact sl_list
theorem inQ (h : X.K = K) : OpR X (compareOp .In) (rIn K false) := by subst h; exact op_in_seq
theorem ninQ (h : X.K = K) : OpR X (compareOp .NotIn) (rIn K true) := by subst h; exact op_notIn_seq
theorem eqQ (h : X.K = K) (hu : X.A.units + 64 < cLine) : OpR X (compareOp .Eq) (rEqD K) := by subst h; exact op_eqD hu
theorem neQ (h : X.K = K) (hu : X.A.units + 64 < cLine) : OpR X (compareOp .NotEq) (rNeD K) := by subst h; exact op_neD hu
theorem idxQ (h : X.K = K) : MtR X "list.index" (rIndex K) := by subst h; exact mt_index
end
section
variable {X : Cx} {K : PySem.W.Frag} {o e value : Expr} {f : Str} {pos pos' tpos p cpos apos : Pos} {ta tv tl to te : TE} {t : TA}
theorem pe_fldQ (h : X.K = K) (he : PE X e ta) (hb : attributeBase e f X.env (eval e X.env) = eval e X.env) : PE X (.Attribute e f pos) (tFld K ta f) := by subst h; exact pe_fld he hb
theorem ps_fldQ (h : X.K = K) (ha : PE X o ta) (hv : PE X value tv) (hs : swapsWith value (some (.Attribute o f pos')) pos.line X.env = pure false) : PS X (.Assign [.Attribute o f pos'] value pos) (sFld K ta tv f) := by subst h; exact ps_fld ha hv hs
theorem pi_listQ {tg l : Expr} (h : X.K = K) (hl : PE X l tl) : PI X tg l (iList K tl) := by subst h; exact pi_list hl
theorem pi_tupQ {tg l : Expr} (h : X.K = K) (hl : PE X l tl) : PI X tg l (iTup K tl) := by subst h; exact pi_tup hl
theorem pi_zipQ {e2 : Expr} {elts : List Expr} {kk : Nat} (h : X.K = K) (hg : Gl X "zip") (hm : X.mg "zip" = none) (ha : PA X [e, e2] t)
    (hs : starEach [e, e2] X.env = (false, eval e X.env) :: starEach [e2] X.env := by rfl) (hpl : (backTo pos (starEach [e2] X.env)).any (·.1) = false := by rfl) :
    PI X (.Tuple elts kk tpos) (.Call (.Name "zip" p) [e, e2] [] pos) (iZip K t) := by subst h; exact pi_zip hg hm ha hs hpl
theorem pg_tupQ {es : List Expr} {k n : Nat} {t : TGs} (h : X.K = K) (hc : X.calm = true) (ht : PGs X es t)
    (hn : (assignEach es X.env).length = n := by rfl) (hst : (assignEach es X.env).findIdx? (·.1) = none := by rfl) : PG X (.Tuple es k pos) (gTup K n t) := by subst h; exact pg_tup hc ht hn hst
theorem pe_revLQ {k : Nat} {p1 p2 p3 : Pos} (h : X.K = K) (he : PE X e te) : PE X (.Subscript e (.Slice none none (some (.UnaryOp .USub (.Constant (.int 1) k p1) p2)) p3) pos) (tRevL K te) := by subst h; exact pe_revL he
variable {es : List Expr} {name : Str} {T id : String} {r : V → List V → Hp → VK → Prop}
theorem pe_bm0Q (h : X.K = K) (pa : PlainAttrs T) (slot : Slot T name id) (hty : typeOf (.builtin id) = pure (.type "method_descriptor")) (hm : MtR X id r) (ho : PE X o to)
    (hbase : attributeBase o name X.env (eval o X.env) = eval o X.env := by rfl) (hline : (apos.endLine == cpos.line) = true := by rfl) : PE X (.Call (.Attribute o name apos) [] [] cpos) (tBM0 K T r to) := by
  subst h
  exact pe_bm0 pa slot hty hm ho hbase hline
theorem pe_bmQ (h : X.K = K) (pa : PlainAttrs T) (slot : Slot T name id) (hty : typeOf (.builtin id) = pure (.type "method_descriptor")) (hm : MtR X id r) (ho : PE X o to) (ha : PA X (e :: es) t)
    (hbase : attributeBase o name X.env (eval o X.env) = eval o X.env := by rfl)
    (hfew : ((backTo cpos (starEach (e :: es) X.env)).all (fun x => !x.1) && (backToKw cpos (keywordEach [] X.env)).all (fun x => x.1.isSome)
      && decide ((e :: es).length + ([] : List Keyword).length + (if ([] : List Keyword).isEmpty then 0 else 1) < 30)) = true := by rfl)
    (hline : (apos.endLine == cpos.line) = true := by rfl) (hs : starEach (e :: es) X.env = (false, eval e X.env) :: starEach es X.env := by rfl) (hplain : (backTo cpos (starEach es X.env)).any (·.1) = false := by rfl) :
    PE X (.Call (.Attribute o name apos) (e :: es) [] cpos) (tBM K T r to t) := by
  subst h
  exact pe_bm pa slot hty hm ho ha hbase hfew hline hs hplain
end
end Ls

namespace Ls
open PySem PySem.Spec PyProof.Rows L2 RT
/-! ### list(reversed(a list)) -/
section
variable {prog : Program} {w : World} {A : Around} {E : Value → Shared → Prop} {s : Shared}
theorem extend_revit {it l S : Addr} {items : Array Value} {c0 : Nat} {res : Value} {R : Result → Shared → Prop} (hh : A.handled = none) (hit : s.heap.IsRevIter it l ((items.size : Int) - 1)) (hl : s.heap.IsList l items) (hne : l ≠ it) (hn : items.size ≤ sizeLine)
    (hSi : S ≠ it) (hSl : S ≠ l) (hS : s.heap.get? S = some { cls := .type "list", data := .seq #[] c0 })
    (hR : ∀ h' tk acc' c', (∀ b o, b ≠ S → b ≠ it → s.heap.get? b = some o → h'.get? b = some o) → h'.get? S = some { cls := .type "list", dict := none, data := .seq acc' c', slots := #[] } → ItemsOf (fun i v => items[items.size - 1 - i]? = some v) acc' items.size → R (.ok (.ret res)) { s with heap := h', toks := tk }) :
    wpAny (model prog w) A.in1 (Builtin.List.listExtendWith (.ref S) (.ref it) res)
      (fun fin s' => match fin with | .done f => R (.ok f) s' | .again c' => c'.quiet = true ∧ codeAny (model prog w) A c' R s') (fun e s' => R (.error e) s') s := by
  have W := (Walks.listRev (prog := prog) (w := w) (A := A.in1) hh it l hne items).toS
  have hSf : S ∉ [it, l] := by simp only [List.mem_cons, List.not_mem_nil, or_false, not_or]; exact ⟨hSi, hSl⟩
  have hT : s.TypeIs (.ref it) "list_reverseiterator" := hit.typeIs
  have h1 : Builtin.List.listSameRef (.ref S) (.ref it) = false := by simp [Builtin.List.listSameRef, hSi]
  unfold Builtin.List.listExtendWith
  refine wpAny_bind (wpAny_typeOf hT ?_)
  rw [if_neg (by rw [h1]; decide)]
  refine wpAny_bind (wpAny_pyIter_revIter hit ?_)
  refine wpAny_bind (wpAny_holding ?_)
  unfold Builtin.List.listLengthHint
  refine wpAny_bind (wpAny_specialOf hT nolen_lri ?_)
  show wpAny _ A.in1 (specialOf (Value.ref it) (Str.ofString "__length_hint__") >>= _) _ _ _
  refine wpAny_bind (wpAny_specialOf hT hint_lri ?_)
  generalize hid : ("list_reverseiterator.__length_hint__" : String) = id0
  wp_delta
  rw [show splitId id0 = some ("list_reverseiterator", "__length_hint__") from by subst hid; decide +kernel]
  subst hid
  refine wpAny_bind (wpAny_isInstance (b := true) hT (by rw [isSubtype_type]; kernel_rfl) ?_)
  refine wpAny_pure ?_
  rw [if_neg (by decide)]
  have e0 : ((items.size : Nat) : Int) - 1 - ((0 : Nat) : Int) = (items.size : Int) - 1 := by omega
  refine wpAny_pure ⟨plainId_quiet PySem.F.plain_extend_loop _, codeAny_extend_loopS W hn S hSf res items.size 0 _ _ _ rfl (Nat.zero_le _) ⟨Nat.zero_le _, by rw [e0]; exact hit, hl⟩ hS (ItemsOf.nil _) fun s' acc' c' hm hS' hacc => ?_⟩
  rw [Moved.eq_with hm]
  refine hR s'.heap s'.toks acc' c' (fun b o hb hb2 e => hm.heap b o (fun hmem => ?_) e) hS' hacc
  rcases List.mem_cons.mp hmem with e' | hmem
  · exact hb e'
  · exact hb2 (List.mem_singleton.mp hmem)
theorem init_revit {it l S : Addr} {items : Array Value} {R : Result → Shared → Prop} (hh : A.handled = none) (hit : s.heap.IsRevIter it l ((items.size : Int) - 1)) (hl : s.heap.IsList l items) (hne : l ≠ it) (hn : items.size ≤ sizeLine)
    (hSi : S ≠ it) (hSl : S ≠ l) (hS : s.heap.get? S = some { cls := .type "list", data := .seq #[] })
    (hR : ∀ h' tk acc' c', (∀ b o, b ≠ S → b ≠ it → s.heap.get? b = some o → h'.get? b = some o) → h'.get? S = some { cls := .type "list", dict := none, data := .seq acc' c', slots := #[] } → ItemsOf (fun i v => items[items.size - 1 - i]? = some v) acc' items.size → R (.ok (.ret .none)) { s with heap := h', toks := tk }) :
    wpAny (model prog w) A.in1 (Builtin.«list.__init__» ⟨[.ref S, .ref it], []⟩)
      (fun fin s' => match fin with | .done f => R (.ok f) s' | .again c' => c'.quiet = true ∧ codeAny (model prog w) A c' R s') (fun e s' => R (.error e) s') s := by
  show wpAny _ _ (do let old ← Builtin.List.listItems (.ref S); Builtin.List.listUpdate (.ref S) (fun _ => #[]); letGo old.toList.reverse; Builtin.List.listExtendWith (.ref S) (.ref it) .none) _ _ s
  refine wpAny_bind ?_
  unfold Builtin.List.listItems
  refine wpAny_bind (wpAny_seqItems hS rfl (wpAny_pure ?_))
  show wpAny _ _ (updateSeq S (fun _ => #[]) >>= fun _ => letGo (#[] : Array Value).toList.reverse >>= fun _ => Builtin.List.listExtendWith (.ref S) (.ref it) .none) _ _ s
  refine wpAny_bind (wpAny_updateSeq hS rfl ?_)
  have hS₂ := Heap.get?_update_self (Obj.mapSeq (fun _ => (#[] : Array Value))) hS rfl
  have oth : ∀ b o, b ≠ S → s.heap.get? b = some o → (s.heap.update S (Obj.mapSeq (fun _ => (#[] : Array Value)))).get? b = some o :=
    fun b o hb e => (Heap.get?_update_other _ _ (Ne.symm hb)).trans e
  refine wpAny_bind (wpAny_letGo ?_)
  refine extend_revit (c0 := _) hh (hit.at fun o e => oth it o (Ne.symm hSi) e) ?_ hne hn hSi hSl hS₂ (fun h' tk acc' c' hk hS' hacc => ?_)
  · obtain ⟨o, ho, x⟩ := hl
    exact ⟨o, oth l o (Ne.symm hSl) ho, x⟩
  · exact hR h' tk acc' c' (fun b o hb hb2 e => hk b o hb hb2 (oth b o hb e)) hS' hacc
theorem call_list_revit {it l : Addr} {items : Array Value} {Q : Value → Shared → Prop} (hh : A.handled = none) (hit : s.heap.IsRevIter it l ((items.size : Int) - 1)) (hl : s.heap.IsList l items) (hne : l ≠ it) (hn : items.size ≤ sizeLine)
    (hQ : ∀ h' tk acc' c', (∀ b o, b ≠ it → s.heap.get? b = some o → h'.get? b = some o) → h'.get? s.heap.objs.size = some { cls := .type "list", dict := none, data := .seq acc' c', slots := #[] } → ItemsOf (fun i v => items[items.size - 1 - i]? = some v) acc' items.size →
      Q (.ref s.heap.objs.size) { s with heap := h', toks := tk }) :
    wpAny (model prog w) A (call (.type "list") [.ref it]) Q E s := by
  refine callType_codes (Q₁ := fun obj s₁ => obj = .ref s.heap.objs.size ∧ s₁ = { s with heap := s.heap.push { cls := .type "list", data := .seq #[] } }) PySem.F.called_list (PySem.F.typeCall_list_1 _) PySem.F.entry_list_init
    (code_list_new _ ⟨rfl, rfl⟩) fun obj s₁ h₁ => ?_
  obtain ⟨rfl, rfl⟩ := h₁
  have hS : (s.heap.push { cls := .type "list", data := .seq #[] }).get? s.heap.objs.size = some { cls := .type "list", data := .seq #[] } := Heap.get?_push_size _ rfl
  obtain ⟨oi, hoi, _⟩ := id hit
  obtain ⟨ol, hol, _⟩ := id hl
  refine ⟨⟨_, hS, rfl⟩, PySem.F.args_list_init_2 _ _, init_revit (A := A.in1) hh (hit.at fun o e => Heap.get?_push_of_some _ e) (hl.push _) hne hn (Nat.ne_of_gt (Heap.lt_size hoi)) (Nat.ne_of_gt (Heap.lt_size hol)) hS (fun h' tk acc' c' hk hS' hacc => ?_)⟩
  exact ⟨rfl, hQ h' tk acc' c' (fun b o hb e => hk b o (Nat.ne_of_lt (Heap.lt_size e)) hb (Heap.get?_push_of_some _ e)) hS' hacc⟩
end
def tLstRev (K : PySem.W.Frag) (te : TE) : TE := fun σ H Q => te σ H fun v H1 => ∃ (a : Addr) (xs : List V), v = .ref a ∧ SqL K H1 a xs ∧ ∀ q, H1 q = none → Q (.ref q) (upd H1 q (.lst xs.reverse))
theorem pe_lstRev {X : Cx} {K : PySem.W.Frag} {e : Expr} {te : TE} {p p2 pos pos2 : Pos} (hK : X.K = K) (hc : X.calm = true) (hg : Gl X "list") (hm : X.mg "list" = none) (hg2 : Gl X "reversed") (hm2 : X.mg "reversed" = none) (he : PE X e te)
    (hs : starEach [e] X.env = (false, eval e X.env) :: starEach [] X.env := by rfl)
    (hs2 : starEach [.Call (.Name "reversed" p2) [e] [] pos2] X.env = (false, eval (.Call (.Name "reversed" p2) [e] [] pos2) X.env) :: starEach [] X.env := by rfl) :
    PE X (.Call (.Name "list" p) [.Call (.Name "reversed" p2) [e] [] pos2] [] pos) (tLstRev K te) := by
  subst hK
  refine ⟨fun pins s σ H Q I h => ?_⟩
  refine Call_ (ld_blt I hg hm boot_list (PyProof.Rows.callWith_type1 (args_cons (Call_ (ld_blt I hg2 hm2 PyProof.Rows.boot_reversed (PyProof.Rows.callWith_type1 (args_cons (thn (he.run pins s σ H _ I h) fun u s1 ⟨v, H1, I1, r1, q1⟩ => args_nil ?_) hs) hs rfl))) hs2) hs2 rfl))
  obtain ⟨a, xs, ev, hq, q⟩ := q1
  subst ev
  obtain rfl : u = Value.ref a := r1
  obtain ⟨its, rv, p', hz⟩ := I1.list hq
  refine call_reversed_list p'.isList (args_nil ?_)
  have k0 : ∀ b o, s1.heap.get? b = some o → (s1.heap.push (revObj a ((its.toArray.size : Int) - 1))).get? b = some o := fun b o e => Heap.get?_push_of_some _ e
  have I2 : Inv X pins σ H1 { s1 with heap := s1.heap.push (revObj a ((its.toArray.size : Int) - 1)) } := I1.kept (t' := s1.toks) k0
  obtain ⟨f0, f1, f2, f3, f4, f5⟩ := I1.fpOk (H' := H1) (b := s1.heap.objs.size) (Nat.le_refl _) (I1.hok.fresh (Nat.le_refl _))
  have hl := p'.isList
  obtain ⟨ol, hol, _⟩ := id hl
  have hne : a ≠ s1.heap.objs.size := Nat.ne_of_lt (Heap.lt_size hol)
  have hn : its.toArray.size ≤ sizeLine := by rw [List.size_toArray, ← rv.length]; exact hz
  refine call_list_revit (s := { s1 with heap := s1.heap.push (revObj a ((its.toArray.size : Int) - 1)) }) (I1.ok.hd hc) ⟨_, Heap.get?_push_size _ rfl, rfl, rfl⟩ (hl.push _) hne hn fun h' tk acc c' hk hS hi => ?_
  have hS2 : h'.get? (s1.heap.push (revObj a ((its.toArray.size : Int) - 1))).objs.size = some { cls := .type "list", dict := none, data := .seq acc c', slots := #[] } := hS
  generalize hD : (s1.heap.push (revObj a ((its.toArray.size : Int) - 1))).objs.size = D at hS2
  have hle : s1.heap.objs.size ≤ D := by
    rw [← hD, Heap.size_push]
    exact Nat.le_succ _
  have hDn : H1 D = none := I1.hok.fresh hle
  have J : Inv X pins σ (upd H1 D (.lst xs.reverse)) { s1 with heap := h', toks := tk } := by
    refine I1.laid (t' := tk) (fun b o e => hk b o (Nat.ne_of_lt (Heap.lt_size e)) (k0 b o e)) hle ⟨by rw [List.length_reverse]; exact hz, acc.toList, c', vals_rev rv hi, ?_⟩
    rw [Array.toArray_toList]
    exact hS2
  exact ⟨.ref D, _, J, by rw [← hD]; rfl, q D hDn⟩
end Ls

namespace Ls
open PySem PySem.Spec PyProof.Rows L2
/-! ### pictures moved: the plain law -/
def mirT (m : List (List Int)) : List (List Int) := m.map List.reverse
def turnT (m : List (List Int)) : List (List Int) := (List.range (m.headD []).length).map fun k => m.map fun r => r.getD ((m.headD []).length - 1 - k) 0
def turnsT : Nat → List (List Int) → List (List Int)
  | 0, m => m
  | n + 1, m => turnT (turnsT n m)
def moveT (m : List (List Int)) (t s : Nat) : List (List Int) := turnsT t (if s = 1 then mirT m else m)
def cellAt (m : List (List Int)) (i j : Nat) : Int := (m.getD i []).getD j 0
theorem PicP.head {P : Int → Prop} {h w : Nat} {m : List (List Int)} (p : PicP P h w m) (h1 : 1 ≤ h) : (m.headD []).length = w := by
  cases m with
  | nil =>
    have := p.hi
    simp at this
    omega
  | cons a t => exact p.wi a List.mem_cons_self
theorem getD_get {A : Type} {l : List A} {i : Nat} {d x : A} (h : l[i]? = some x) : l.getD i d = x := by
  rw [List.getD_eq_getElem?_getD, h]
  rfl
theorem PicP.row {P : Int → Prop} {h w : Nat} {m : List (List Int)} (p : PicP P h w m) {i : Nat} (hi : i < h) : ∃ r, m[i]? = some r ∧ r.length = w ∧ m.getD i [] = r := by
  have h1 : i < m.length := by rw [p.hi]; exact hi
  exact ⟨m[i], List.getElem?_eq_getElem h1, p.wi _ (List.getElem_mem h1), getD_get (List.getElem?_eq_getElem h1)⟩
theorem PicP.cell {P : Int → Prop} {h w : Nat} {m : List (List Int)} (p : PicP P h w m) {i j : Nat} (hi : i < h) (hj : j < w) : P (cellAt m i j) := by
  obtain ⟨r, e1, e2, e3⟩ := p.row hi
  have hj2 : j < r.length := by omega
  have e4 : r.getD j 0 = r[j] := getD_get (List.getElem?_eq_getElem hj2)
  unfold cellAt
  rw [e3, e4]
  exact p.ce r (List.mem_of_getElem? e1) _ (List.getElem_mem hj2)
theorem PicP.ext {P : Int → Prop} {h w : Nat} {m m' : List (List Int)} (p : PicP P h w m) (p' : PicP P h w m') (e : ∀ i j, i < h → j < w → cellAt m i j = cellAt m' i j) : m = m' := by
  apply List.ext_getElem?
  intro i
  by_cases hi : i < h
  · obtain ⟨r, e1, e2, e3⟩ := p.row hi
    obtain ⟨r', g1, g2, g3⟩ := p'.row hi
    rw [e1, g1]
    congr 1
    apply List.ext_getElem?
    intro j
    by_cases hj : j < w
    · have z := e i j hi hj
      unfold cellAt at z
      rw [e3, g3] at z
      have a1 : r[j]? = some r[j] := List.getElem?_eq_getElem (by omega)
      have a2 : r'[j]? = some r'[j] := List.getElem?_eq_getElem (by omega)
      rw [getD_get a1, getD_get a2] at z
      rw [a1, a2, z]
    · rw [List.getElem?_eq_none (by omega), List.getElem?_eq_none (by omega)]
  · rw [List.getElem?_eq_none (by rw [p.hi]; omega), List.getElem?_eq_none (by rw [p'.hi]; omega)]
theorem mir_hw {P : Int → Prop} {h w : Nat} {m : List (List Int)} (p : PicP P h w m) : PicP P h w (mirT m) := by
  refine ⟨by unfold mirT; rw [List.length_map, p.hi], fun r hr => ?_, fun r hr c hc => ?_⟩
  · unfold mirT at hr
    obtain ⟨z, hz, rfl⟩ := List.mem_map.mp hr
    rw [List.length_reverse, p.wi z hz]
  · unfold mirT at hr
    obtain ⟨z, hz, rfl⟩ := List.mem_map.mp hr
    exact p.ce z hz c (List.mem_reverse.mp hc)
theorem mir_at {P : Int → Prop} {h w : Nat} {m : List (List Int)} (p : PicP P h w m) {i j : Nat} (hi : i < h) (hj : j < w) : cellAt (mirT m) i j = cellAt m i (w - 1 - j) := by
  obtain ⟨r, e1, e2, e3⟩ := p.row hi
  have e4 : (mirT m)[i]? = some r.reverse := by
    unfold mirT
    rw [List.getElem?_map, e1]
    rfl
  unfold cellAt
  rw [getD_get e4, e3, List.getD_eq_getElem?_getD, List.getD_eq_getElem?_getD, List.getElem?_reverse (by omega), e2]
theorem turn_hw {P : Int → Prop} {h w : Nat} {m : List (List Int)} (p : PicP P h w m) (h1 : 1 ≤ h) : PicP P w h (turnT m) := by
  have hh := p.head h1
  refine ⟨by unfold turnT; rw [List.length_map, List.length_range, hh], fun r hr => ?_, fun r hr c hc => ?_⟩
  · unfold turnT at hr
    obtain ⟨k, hk, rfl⟩ := List.mem_map.mp hr
    rw [List.length_map, p.hi]
  · unfold turnT at hr
    obtain ⟨k, hk, rfl⟩ := List.mem_map.mp hr
    obtain ⟨z, hz, rfl⟩ := List.mem_map.mp hc
    rw [List.mem_range, hh] at hk
    rw [hh]
    have hl : w - 1 - k < z.length := by
      rw [p.wi z hz]
      omega
    rw [getD_get (List.getElem?_eq_getElem hl)]
    exact p.ce z hz _ (List.getElem_mem hl)
theorem turn_at {P : Int → Prop} {h w : Nat} {m : List (List Int)} (p : PicP P h w m) {k a : Nat} (hk : k < w) (ha : a < h) : cellAt (turnT m) k a = cellAt m a (w - 1 - k) := by
  have hh := p.head (by omega)
  obtain ⟨r, e1, e2, e3⟩ := p.row ha
  have e4 : (turnT m)[k]? = some (m.map fun r => r.getD (w - 1 - k) 0) := by
    unfold turnT
    rw [hh]
    exact range_map_get _ hk
  unfold cellAt
  rw [getD_get e4, e3, List.getD_eq_getElem?_getD, List.getElem?_map, e1]
  rfl
theorem turns_hw {P : Int → Prop} {h w : Nat} {m : List (List Int)} (p : PicP P h w m) (h1 : 1 ≤ h) (w1 : 1 ≤ w) : ∀ n, (n % 2 = 0 → PicP P h w (turnsT n m)) ∧ (n % 2 = 1 → PicP P w h (turnsT n m))
  | 0 => ⟨fun _ => p, fun z => by simp at z⟩
  | n + 1 => ⟨fun z => turn_hw ((turns_hw p h1 w1 n).2 (by omega)) w1, fun z => turn_hw ((turns_hw p h1 w1 n).1 (by omega)) h1⟩
theorem move_hw {P : Int → Prop} {h w : Nat} {m : List (List Int)} (p : PicP P h w m) (h1 : 1 ≤ h) (w1 : 1 ≤ w) (t s : Nat) : (t % 2 = 0 → PicP P h w (moveT m t s)) ∧ (t % 2 = 1 → PicP P w h (moveT m t s)) := by
  unfold moveT
  refine turns_hw ?_ h1 w1 t
  by_cases e : s = 1
  · rw [if_pos e]
    exact mir_hw p
  · rw [if_neg e]
    exact p
theorem turn4 {P : Int → Prop} {h w : Nat} {m : List (List Int)} (p : PicP P h w m) (h1 : 1 ≤ h) (w1 : 1 ≤ w) : turnT (turnT (turnT (turnT m))) = m := by
  have p1 := turn_hw p h1
  have p2 := turn_hw p1 w1
  have p3 := turn_hw p2 h1
  have p4 := turn_hw p3 w1
  refine p4.ext p fun i j hi hj => ?_
  rw [turn_at p3 hi hj, turn_at p2 hj (by omega), turn_at p1 (by omega) (by omega), turn_at p (by omega) (by omega)]
  rw [show h - 1 - (h - 1 - i) = i by omega, show w - 1 - (w - 1 - j) = j by omega]
end Ls
namespace Ls
open PySem PySem.Spec PyProof.Rows L2
theorem MatF.back {H H1 H2 : Hp} {p : Addr} {rs : List Addr} {m : List (List Int)} (s : Same H H1) (f : MatF H1 H2 p rs m) : MatF H H2 p rs m := ⟨f.top, f.len, f.row, f.nd, fun a ha => s.free (f.new a ha)⟩
theorem range_getD {A B : Type} (f : A → B) (d : A) (m : List A) : (List.range m.length).map (fun i => f (m.getD i d)) = m.map f := by
  apply List.ext_getElem?
  intro i
  by_cases hi : i < m.length
  · rw [range_map_get _ hi, List.getElem?_map, List.getElem?_eq_getElem hi, getD_get (List.getElem?_eq_getElem hi)]
    rfl
  · rw [List.getElem?_eq_none (by simp; omega), List.getElem?_eq_none (by simp; omega)]
end Ls
namespace Ls
open PySem PySem.Spec PyProof.Rows L2
theorem fine_pic {P : Int → Prop} {h w : Nat} {m : List (List Int)} (p : PicP P h w m) (h1 : h ≤ 1000) (w1 : w ≤ 1000) : fine (dMat m) = true := fine_mat (by rw [p.hi]; exact h1) fun r hr => by rw [p.wi r hr]; exact w1
theorem fine_move {P : Int → Prop} {h w : Nat} {m : List (List Int)} (p : PicP P h w m) (h0 : 1 ≤ h) (w0 : 1 ≤ w) (h1 : h ≤ 1000) (w1 : w ≤ 1000) (t s : Nat) : fine (dMat (moveT m t s)) = true := by
  by_cases e : t % 2 = 0
  · exact fine_pic ((move_hw p h0 w0 t s).1 e) h1 w1
  · exact fine_pic ((move_hw p h0 w0 t s).2 (by omega)) w1 h1
theorem len_move {P : Int → Prop} {h w : Nat} {m : List (List Int)} (p : PicP P h w m) (h0 : 1 ≤ h) (w0 : 1 ≤ w) (h1 : h ≤ 1000) (w1 : w ≤ 1000) (t s : Nat) : 1 ≤ (moveT m t s).length ∧ (moveT m t s).length ≤ 1000 ∧ ∀ r ∈ moveT m t s, 1 ≤ r.length ∧ r.length ≤ 1000 := by
  by_cases e : t % 2 = 0
  · have q := (move_hw p h0 w0 t s).1 e
    exact ⟨by rw [q.hi]; exact h0, by rw [q.hi]; exact h1, fun r hr => by rw [q.wi r hr]; exact ⟨w0, w1⟩⟩
  · have q := (move_hw p h0 w0 t s).2 (by omega)
    exact ⟨by rw [q.hi]; exact w0, by rw [q.hi]; exact w1, fun r hr => by rw [q.wi r hr]; exact ⟨h0, h1⟩⟩
end Ls

namespace Ls
open PySem PySem.Spec PyProof.Rows L2
/-! ### the kinds of likeness: the module's table -/
def kindsTab : List (Str × List (Nat × Nat)) := [("plain", [(0, 0)]), ("half", [(0, 0), (2, 0)]), ("turn", [(0, 0), (1, 0), (2, 0), (3, 0)]), ("mirror", [(0, 0), (0, 1)]), ("both", [(0, 0), (2, 0), (0, 1), (2, 1)]),
  ("all", [(0, 0), (1, 0), (2, 0), (3, 0), (0, 1), (1, 1), (2, 1), (3, 1)])]
def waysT (kind : Str) : List (Nat × Nat) := (kindsTab.lookup kind).getD []
def IsKind (kind : Str) : Prop := kind ∈ kindsTab.map (·.1)
def dWay (w : Nat × Nat) : PyData := .tuple [.int w.1, .int w.2]
def dWays (ws : List (Nat × Nat)) : PyData := .tuple (ws.map dWay)
def vWay (w : Nat × Nat) : List V := [.int w.1, .int w.2]
def tupIs (K : PySem.W.Frag) (a : Addr) (vs : List V) : Bool := match K.lookup a with
  | some ⟨.type c, _, .seq its _, _⟩ => decide (c = "tuple") && (decide (its.size ≤ sizeLine) && He.relAll vs its.toList)
  | _ => false
theorem tupIs_ok {K : PySem.W.Frag} {a : Addr} {vs : List V} (h : tupIs K a vs = true) (H : Hp) : SqT K H a vs := by
  unfold tupIs at h
  cases q : K.lookup a with
  | none =>
    rw [q] at h
    cases h
  | some o =>
    obtain ⟨oc, od, dt, osl⟩ := o
    rw [q] at h
    cases oc with
    | type c =>
      cases dt with
      | seq its n =>
        obtain ⟨h1, h2⟩ := He.ba h
        obtain ⟨h3, h4⟩ := He.ba h2
        exact .inr ⟨_, its, n, q, congrArg Value.type (of_decide_eq_true h1), rfl, of_decide_eq_true h3, He.relAll_ok h4⟩
      | _ => cases h
    | _ => cases dt <;> cases h
/-- the addresses of a written tuple's items -/
def refsAt (K : PySem.W.Frag) (a : Addr) : List V := match K.lookup a with
  | some ⟨_, _, .seq its _, _⟩ => its.toList.map fun v => match v with
    | .ref b => V.ref b
    | _ => .non
  | _ => []
def waysAt (K : PySem.W.Frag) : List V → List (Nat × Nat) → Bool
  | [], [] => true
  | .ref b :: vs, w :: ws => tupIs K b (vWay w) && waysAt K vs ws
  | _, _ => false
theorem waysAt_ok {K : PySem.W.Frag} {H : Hp} : ∀ {vs : List V} {ws : List (Nat × Nat)}, waysAt K vs ws = true → DtAll K H vs (ws.map dWay)
  | [], [], _ => .nil
  | [], _ :: _, h => by cases h
  | v :: _, [], h => by cases v <;> cases h
  | .ref b :: vs, w :: ws, h => by
    obtain ⟨h1, h2⟩ := He.ba (show (tupIs K b (vWay w) && waysAt K vs ws) = true from h)
    exact .cons (.tup (tupIs_ok h1 H) (.cons (.int _) (.cons (.int _) .nil))) (waysAt_ok h2)
  | .non :: _, _ :: _, h => by cases h
  | .bl _ :: _, _ :: _, h => by cases h
  | .int _ :: _, _ :: _, h => by cases h
  | .str _ :: _, _ :: _, h => by cases h
  | .byt _ :: _, _ :: _, h => by cases h
  | .flt _ :: _, _ :: _, h => by cases h
  | .ty _ :: _, _ :: _, h => by cases h
def kindB (K : PySem.W.Frag) (q : Str × List (Nat × Nat)) : Bool := match PySem.W.nsIn K (He.ga K "KINDS") q.1 with
  | some (some (.ref T)) => tupIs K T (refsAt K T) && waysAt K (refsAt K T) q.2
  | _ => false
def kindsB (K : PySem.W.Frag) : Bool := kindsTab.all fun q => kindB K q
def kindsB2 (K : PySem.W.Frag) : Bool := kindsB K && He.tupB K "SQUARE" [.str "turn", .str "all"]
theorem kind_ok {K : PySem.W.Frag} {q : Str × List (Nat × Nat)} (h : kindB K q = true) : ∃ T, PySem.W.nsIn K (He.ga K "KINDS") q.1 = some (some (.ref T)) ∧ ∀ F, Dt K F (.ref T) (dWays q.2) := by
  unfold kindB at h
  cases e : PySem.W.nsIn K (He.ga K "KINDS") q.1 with
  | none =>
    rw [e] at h
    cases h
  | some r =>
    rw [e] at h
    cases r with
    | none => cases h
    | some v =>
      cases v with
      | ref T =>
        obtain ⟨h1, h2⟩ := He.ba h
        exact ⟨T, rfl, fun F => .tup (tupIs_ok h1 F) (waysAt_ok h2)⟩
      | _ => cases h
theorem kinds_ok {K : PySem.W.Frag} {w : World} {es : Array DictEntry} {n : Nat} (D : KDict K w (He.ga K "KINDS") es n) (h : kindsB K = true) : ∀ q ∈ kindsTab, ∃ T, KDct K w (He.ga K "KINDS") q.1 (.ref T) ∧ ∀ F, Dt K F (.ref T) (dWays q.2) := fun q hq => by
  obtain ⟨T, h1, h2⟩ := kind_ok (List.all_eq_true.mp h q hq)
  exact ⟨T, ⟨es, n, _, D.at_, D.lit, h1, rfl⟩, h2⟩
theorem ixKD {X : Cx} {K : PySem.W.Frag} {w : World} (h : X.K = K) (hw : X.w = w) : IxR X (rIxD K w) := by subst h hw; exact ix_kdict
theorem lookup_tab : ∀ {l : List (Str × List (Nat × Nat))} {k : Str}, k ∈ l.map (·.1) → (k, (l.lookup k).getD []) ∈ l
  | [], _, h => by cases h
  | (a, b) :: r, k, h => by
    by_cases e : k = a
    · subst e
      rw [List.lookup_cons_self]
      exact List.mem_cons_self
    · have e2 : (k == a) = false := by simpa using e
      rw [List.lookup_cons, e2]
      rcases List.mem_cons.mp h with h | h
      · exact absurd h e
      · exact List.mem_cons_of_mem _ (lookup_tab h)
theorem kind_mem {k : Str} (h : IsKind k) : (k, waysT k) ∈ kindsTab := lookup_tab h
theorem ways_ne {k : Str} (h : IsKind k) : ∃ r, waysT k = (0, 0) :: r := by
  have h2 := kind_mem h
  generalize waysT k = ws at h2
  simp only [kindsTab, List.mem_cons, Prod.mk.injEq, List.not_mem_nil, or_false] at h2
  rcases h2 with ⟨_, rfl⟩ | ⟨_, rfl⟩ | ⟨_, rfl⟩ | ⟨_, rfl⟩ | ⟨_, rfl⟩ | ⟨_, rfl⟩ <;> exact ⟨_, rfl⟩
theorem ways_lt {k : Str} (h : IsKind k) : ∀ w ∈ waysT k, w.1 ≤ 3 ∧ w.2 ≤ 1 := by
  have h2 := kind_mem h
  generalize waysT k = ws at h2
  simp only [kindsTab, List.mem_cons, Prod.mk.injEq, List.not_mem_nil, or_false] at h2
  rcases h2 with ⟨_, rfl⟩ | ⟨_, rfl⟩ | ⟨_, rfl⟩ | ⟨_, rfl⟩ | ⟨_, rfl⟩ | ⟨_, rfl⟩ <;> (intro w hw; simp only [List.mem_cons, List.not_mem_nil, or_false] at hw; rcases hw with h | h | h | h | h | h | h | h) <;> simp_all
end Ls

namespace Ls
open PySem PySem.Spec PyProof.Rows L2
/-! ### how far two are apart -/
def iabs (x : Int) : Int := if x < 0 then -x else x
def diffR (r s : List Int) : Int := ((r.zip s).map fun q => iabs (q.1 - q.2)).sum
def diffT (a b : List (List Int)) : Int := ((a.zip b).map fun p => diffR p.1 p.2).sum
/-- the least one, the first such -/
def bestT {A : Type} : List (Int × A) → Option (Int × A)
  | [] => none
  | x :: r => match bestT r with
    | none => some x
    | some y => if y.1 < x.1 then some y else some x
def stepB {A : Type} (b : Option (Int × A)) (x : Int × A) : Option (Int × A) := match b with
  | none => some x
  | some y => if x.1 < y.1 then some x else some y
theorem bestT_cons {A : Type} (x : Int × A) (r : List (Int × A)) : bestT (x :: r) = match bestT r with
    | none => some x
    | some y => if y.1 < x.1 then some y else some x := rfl
theorem stepB_fold {A : Type} : ∀ (l : List (Int × A)) (b : Option (Int × A)), l.foldl stepB b = match b, bestT l with
    | none, o => o
    | some x, none => some x
    | some x, some y => if y.1 < x.1 then some y else some x
  | [], none => rfl
  | [], some x => rfl
  | x :: r, none => by
    rw [List.foldl_cons, show stepB none x = some x from rfl, stepB_fold r (some x), bestT_cons]
    cases bestT r <;> rfl
  | x :: r, some b => by
    rw [List.foldl_cons]
    show r.foldl stepB (if x.1 < b.1 then some x else some b) = _
    rw [bestT_cons]
    by_cases h : x.1 < b.1
    · rw [if_pos h, stepB_fold r (some x)]
      cases e : bestT r with
      | none =>
        show some x = if x.1 < b.1 then some x else some b
        rw [if_pos h]
      | some y =>
        show (if y.1 < x.1 then some y else some x) = (match (some b : Option (Int × A)), (if y.1 < x.1 then some y else some x) with | none, o => o | some x, none => some x | some x, some y => if y.1 < x.1 then some y else some x)
        by_cases h2 : y.1 < x.1
        · rw [if_pos h2]
          show some y = if y.1 < b.1 then some y else some b
          rw [if_pos (by omega)]
        · rw [if_neg h2]
          show some x = if x.1 < b.1 then some x else some b
          rw [if_pos h]
    · rw [if_neg h, stepB_fold r (some b)]
      cases e : bestT r with
      | none =>
        show some b = if x.1 < b.1 then some x else some b
        rw [if_neg h]
      | some y =>
        show (if y.1 < b.1 then some y else some b) = (match (some b : Option (Int × A)), (if y.1 < x.1 then some y else some x) with | none, o => o | some x, none => some x | some x, some y => if y.1 < x.1 then some y else some x)
        by_cases h2 : y.1 < x.1
        · rw [if_pos h2]
        · rw [if_neg h2]
          show (if y.1 < b.1 then some y else some b) = if x.1 < b.1 then some x else some b
          rw [if_neg h, if_neg (by omega)]
theorem best_fold {A : Type} (l : List (Int × A)) : l.foldl stepB none = bestT l := stepB_fold l none
theorem bestT_some {A : Type} : ∀ {l : List (Int × A)}, l ≠ [] → ∃ y, bestT l = some y
  | [], h => absurd rfl h
  | x :: r, _ => by
    rw [bestT_cons]
    cases bestT r with
    | none => exact ⟨_, rfl⟩
    | some y =>
      show ∃ z, (if y.1 < x.1 then some y else some x) = some z
      by_cases h : y.1 < x.1
      · exact ⟨y, if_pos h⟩
      · exact ⟨x, if_neg h⟩
theorem bestT_mem {A : Type} : ∀ {l : List (Int × A)} {y : Int × A}, bestT l = some y → y ∈ l ∧ ∀ x ∈ l, y.1 ≤ x.1
  | [], _, h => by cases h
  | x :: r, y, h => by
    rw [bestT_cons] at h
    cases e : bestT r with
    | none =>
      rw [e] at h
      cases h
      have hr : r = [] := by
        cases r with
        | nil => rfl
        | cons a b =>
          obtain ⟨z, hz⟩ := bestT_some (l := a :: b) (List.cons_ne_nil _ _)
          rw [hz] at e
          cases e
      subst hr
      exact ⟨List.mem_cons_self, fun z hz => by
        rcases List.mem_cons.mp hz with rfl | hz
        · exact Int.le_refl _
        · cases hz⟩
    | some z =>
      rw [e] at h
      obtain ⟨h1, h2⟩ := bestT_mem e
      have h' : (if z.1 < x.1 then some z else some x) = some y := h
      by_cases c : z.1 < x.1
      · rw [if_pos c] at h'
        cases h'
        exact ⟨List.mem_cons_of_mem _ h1, fun u hu => by
          rcases List.mem_cons.mp hu with rfl | hu
          · omega
          · exact h2 u hu⟩
      · rw [if_neg c] at h'
        cases h'
        exact ⟨List.mem_cons_self, fun u hu => by
          rcases List.mem_cons.mp hu with rfl | hu
          · exact Int.le_refl _
          · have := h2 u hu
            omega⟩
/-- the first of those that are the least -/
theorem bestT_first {A : Type} : ∀ {l : List (Int × A)} {y : Int × A} {n : Int}, bestT l = some y → y.1 = n → (l.filter fun x => decide (x.1 = n)).head? = some y
  | [], _, _, h, _ => by cases h
  | x :: r, y, n, h, hn => by
    have hm := bestT_mem h
    rw [bestT_cons] at h
    cases e : bestT r with
    | none =>
      rw [e] at h
      cases h
      rw [List.filter_cons, if_pos (by rw [hn]; exact decide_eq_true rfl)]
      rfl
    | some z =>
      rw [e] at h
      have h' : (if z.1 < x.1 then some z else some x) = some y := h
      by_cases c : z.1 < x.1
      · rw [if_pos c] at h'
        cases h'
        rw [List.filter_cons, if_neg (by simp; omega)]
        exact bestT_first e hn
      · rw [if_neg c] at h'
        cases h'
        rw [List.filter_cons, if_pos (by rw [hn]; exact decide_eq_true rfl)]
        rfl
def farsT (m1 m2 : List (List Int)) (kind : Str) : List (Int × (Nat × Nat)) := (waysT kind).map fun w => (diffT m1 (moveT m2 w.1 w.2), w)
def apartT (m1 m2 : List (List Int)) (kind : Str) : Int × (Nat × Nat) := (bestT (farsT m1 m2 kind)).getD (0, (0, 0))
def farT (m1 m2 : List (List Int)) (kind : Str) : Int := (apartT m1 m2 kind).1
def dFar (x : Int × (Nat × Nat)) : PyData := .tuple [.int x.1, dWay x.2]
theorem apart_some {m1 m2 : List (List Int)} {kind : Str} (h : IsKind kind) : bestT (farsT m1 m2 kind) = some (apartT m1 m2 kind) := by
  obtain ⟨r, e⟩ := ways_ne h
  obtain ⟨y, hy⟩ := bestT_some (l := farsT m1 m2 kind) (by unfold farsT; rw [e]; simp)
  unfold apartT
  rw [hy]
  rfl
theorem paired_zip_sum {A B : Type} (f : A → B → Int) : ∀ (xs : List A) (ys : List B), ((List.range (min xs.length ys.length)).map fun i => match xs[i]?, ys[i]? with | some x, some y => f x y | _, _ => 0) = (xs.zip ys).map fun q => f q.1 q.2
  | [], ys => by simp
  | x :: xs, [] => by simp
  | x :: xs, y :: ys => by
    have ih := paired_zip_sum f xs ys
    rw [List.zip_cons_cons, List.map_cons, ← ih, List.length_cons, List.length_cons, Nat.succ_min_succ, List.range_succ_eq_map, List.map_cons, List.map_map]
    rfl
end Ls
namespace Ls
open PySem PySem.Spec PyProof.Rows L2
theorem forin_it {J : It} {n : Nat} {G : Hp → Prop} {Y : Nat → Hp → V → Hp → Prop} (w : Walk J n G Y) {g : TG} {tb : TS} {D : Ends} {σ : L2.St} {H : Hp} (Pv : Nat → L2.St → Hp → Prop) (h0 : Pv 0 σ H) (hG : ∀ i σ H, i ≤ n → Pv i σ H → G H)
    (hs : ∀ i x σ H H', i < n → Pv i σ H → Y i H x H' → g x σ H' fun σ2 H2 => tb { D with nx := Pv (i + 1), ct := Pv (i + 1), bk := D.nx } σ2 H2) (hd : ∀ σ H, Pv n σ H → D.nx σ H) : ForIn J g tb D σ H := for_it w Pv h0 hG hs hd
theorem zip_get {A B : Type} {xs : List A} {ys : List B} {i : Nat} {a : A × B} (h : (xs.zip ys)[i]? = some a) : xs[i]? = some a.1 ∧ ys[i]? = some a.2 := by
  rw [List.getElem?_zip_eq_some] at h
  exact h
theorem zip_get_of {A B : Type} {xs : List A} {ys : List B} {i : Nat} {a : A} {b : B} (h1 : xs[i]? = some a) (h2 : ys[i]? = some b) : (xs.zip ys)[i]? = some (a, b) := by
  rw [List.getElem?_zip_eq_some]
  exact ⟨h1, h2⟩
end Ls

namespace Ls
open PySem PySem.Spec PyProof.Rows L2
/-! ### ways written out -/
def wayTE (w : Nat × Nat) : TE := tTup (tCons (tC (.int w.1)) (tCons (tC (.int w.2)) tNil))
def waysTA : List (Nat × Nat) → TA
  | [] => tNil
  | w :: r => tCons (wayTE w) (waysTA r)
theorem ways_ta {K : PySem.W.Frag} {m : Mo} {σ : L2.St} : ∀ (ws : List (Nat × Nat)) {F H : Hp} {Q : List V → Hp → Prop}, Wd m F H → (∀ ys F' H', Gr m F H F' H' → DtAll K F' ys (ws.map dWay) → Q ys H') → waysTA ws σ H Q
  | [], F, H, _, wd, q => q [] F H (Gr.refl wd) .nil
  | w :: r, F, H, Q, wd, q => by
    refine ⟨by show 2 ≤ sizeLine; decide, fun p hp => ?_⟩
    have g := (Gr.refl wd).new (o := .tup [.int w.1, .int w.2]) wd hp
    exact ways_ta (K := K) r (g.wd wd) fun ys F' H' g' h => q _ F' H' (g.trans wd g') (.cons (.tup (sqt_of (g'.f _ _ upd_same)) (.cons (.int _) (.cons (.int _) .nil))) h)
theorem ways_lst {K : PySem.W.Frag} {m : Mo} {σ : L2.St} {F H : Hp} {Q : VK} (ws : List (Nat × Nat)) (hl : ws.length ≤ 1000) (wd : Wd m F H) (q : ∀ D ys F' H', Gr m F H F' H' → F' D = some (.lst ys) → DtAll K F' ys (ws.map dWay) → Q (.ref D) H') : tLst (waysTA ws) σ H Q :=
  ways_ta (K := K) ws wd fun ys F1 H1 g h => by
    have hl2 := dtAll_len h
    rw [List.length_map] at hl2
    exact ⟨size_le (by omega), fun D hD => q D ys _ _ (g.new wd hD) upd_same (h.up (same_new (g.s.free hD)))⟩
theorem ways_pair {x : Str} {ws : List (Nat × Nat)} {r : List (TE × TE)} {σ : L2.St} {H : Hp} {Q : List (V × V) → Hp → Prop} (h : tLst (waysTA ws) σ H fun y H2 => tPairs r σ H2 fun ps H3 => Q ((.str x, y) :: ps) H3) : tPairs ((tC (.str x), tLst (waysTA ws)) :: r) σ H Q := h
theorem ways_put {td ty : TE} {ws : List (Nat × Nat)} {D : Ends} {σ : L2.St} {H : Hp} (h : tLst (waysTA ws) σ H fun v H1 => td σ H1 fun x H2 => ty σ H2 fun y H3 => ∃ a H4, x = .ref a ∧ DPut H3 a y v H4 ∧ D.nx σ H4) : sDPut td ty (tLst (waysTA ws)) D σ H := h
/-- a kind that pictures of this size may have -/
def KFit (kind : Str) (h w : Nat) : Prop := IsKind kind ∧ ∀ q ∈ waysT kind, q.1 % 2 = 1 → h = w
theorem KFit.pic {P : Int → Prop} {kind : Str} {h w : Nat} {m : List (List Int)} (f : KFit kind h w) (p : PicP P h w m) (h1 : 1 ≤ h) (w1 : 1 ≤ w) {q : Nat × Nat} (hq : q ∈ waysT kind) : PicP P h w (moveT m q.1 q.2) := by
  obtain ⟨a, b⟩ := move_hw p h1 w1 q.1 q.2
  by_cases e : q.1 % 2 = 0
  · exact a e
  · have e2 := f.2 q hq (by omega)
    subst e2
    exact b (by omega)
theorem dt_way {K : PySem.W.Frag} {F : Hp} {v : V} {w : Nat × Nat} (h : Dt K F v (dWay w)) : ∃ T, v = .ref T ∧ SqT K F T [.int w.1, .int w.2] := by
  obtain ⟨T, xs, rfl, hT, ha⟩ := dt_tup_inv h
  have e : xs = [.int w.1, .int w.2] := dtAll_int_inv (ns := [(w.1 : Int), (w.2 : Int)]) ha
  subst e
  exact ⟨T, rfl, hT⟩
theorem dt_far {K : PySem.W.Frag} {F : Hp} {v : V} {x : Int × (Nat × Nat)} (h : Dt K F v (dFar x)) : ∃ T y, v = .ref T ∧ SqT K F T [.int x.1, y] ∧ Dt K F y (dWay x.2) := by
  obtain ⟨T, xs, rfl, hT, ha⟩ := dt_tup_inv h
  cases ha with
  | cons a t =>
    cases t with
    | cons b t =>
      cases t
      have := dt_int_inv a
      subst this
      exact ⟨T, _, rfl, hT, b⟩
theorem kind_cases {k : Str} (h : IsKind k) : k = "plain" ∨ k = "half" ∨ k = "turn" ∨ k = "mirror" ∨ k = "both" ∨ k = "all" := by
  have h2 : k ∈ (["plain", "half", "turn", "mirror", "both", "all"] : List Str) := h
  simpa using h2
theorem head?_get {A : Type} {l : List A} {x : A} (h : l.head? = some x) : l[0]? = some x := by
  cases l with
  | nil => cases h
  | cons a r => exact h
theorem MatF.set {H H' : Hp} {p : Addr} {rs : List Addr} {m : List (List Int)} (f : MatF H H' p rs m) {i j : Nat} {r : List Int} {a : Addr} {c : Int} (h1 : m[i]? = some r) (h2 : rs[i]? = some a) :
    MatF H (upd H' a (.lst ((r.set j c).map V.int))) p rs (m.set i (r.set j c)) := by
  have na : p ≠ a := fun e => (List.nodup_cons.mp f.nd).1 (e ▸ List.mem_of_getElem? h2)
  refine ⟨by rw [upd_ne na]; exact f.top, by rw [List.length_set]; exact f.len, fun i' r' a' g1 g2 => ?_, f.nd, f.new⟩
  by_cases e : i = i'
  · subst e
    rw [h2] at g2
    cases g2
    rw [List.getElem?_set_self (List.getElem?_eq_some_iff.mp h1).1] at g1
    cases g1
    rw [upd_same]
  · rw [List.getElem?_set_ne e] at g1
    have n2 : a' ≠ a := fun z => by
      subst z
      exact e (List.getElem?_inj (List.getElem?_eq_some_iff.mp h2).1 (List.nodup_cons.mp f.nd).2 |>.mp (h2.trans g2.symm))
    rw [upd_ne n2]
    exact f.row i' r' a' g1 g2
theorem PicP.set {P : Int → Prop} {h w : Nat} {m : List (List Int)} (p : PicP P h w m) {i j : Nat} {r : List Int} {c : Int} (h1 : m[i]? = some r) (hc : P c) : PicP P h w (m.set i (r.set j c)) := by
  refine ⟨by rw [List.length_set]; exact p.hi, fun r' hr => ?_, fun r' hr x hx => ?_⟩
  · rcases List.mem_or_eq_of_mem_set hr with hr | rfl
    · exact p.wi r' hr
    · rw [List.length_set]
      exact p.wi r (List.mem_of_getElem? h1)
  · rcases List.mem_or_eq_of_mem_set hr with hr | rfl
    · exact p.ce r' hr x hx
    · rcases List.mem_or_eq_of_mem_set hx with hx | rfl
      · exact p.ce r (List.mem_of_getElem? h1) x hx
      · exact hc
end Ls

namespace Ls
open PySem PySem.Spec PyProof.Rows L2
/-! ### sums by a number -/
def isum (f : Nat → Int) : Nat → Int
  | 0 => 0
  | n + 1 => isum f n + f n
theorem isum_congr {f g : Nat → Int} : ∀ {n : Nat}, (∀ i, i < n → f i = g i) → isum f n = isum g n
  | 0, _ => rfl
  | n + 1, h => by
    show isum f n + f n = isum g n + g n
    rw [isum_congr fun i hi => h i (Nat.lt_succ_of_lt hi), h n (Nat.lt_succ_self n)]
theorem isum_add (f g : Nat → Int) : ∀ n : Nat, isum (fun i => f i + g i) n = isum f n + isum g n
  | 0 => rfl
  | n + 1 => by
    show isum (fun i => f i + g i) n + (f n + g n) = (isum f n + f n) + (isum g n + g n)
    rw [isum_add f g n]
    omega
theorem isum_le {f g : Nat → Int} : ∀ {n : Nat}, (∀ i, i < n → f i ≤ g i) → isum f n ≤ isum g n
  | 0, _ => Int.le_refl _
  | n + 1, h => by
    have a := isum_le fun i hi => h i (Nat.lt_succ_of_lt hi)
    have b := h n (Nat.lt_succ_self n)
    show isum f n + f n ≤ isum g n + g n
    omega
theorem isum_zero : ∀ n : Nat, isum (fun _ => 0) n = 0
  | 0 => rfl
  | n + 1 => by
    show isum (fun _ => 0) n + 0 = 0
    rw [isum_zero n]
    rfl
theorem isum_swap (f : Nat → Nat → Int) (w : Nat) : ∀ h : Nat, isum (fun i => isum (fun j => f i j) w) h = isum (fun j => isum (fun i => f i j) h) w
  | 0 => (isum_zero w).symm
  | h + 1 => by
    show isum (fun i => isum (fun j => f i j) w) h + isum (fun j => f h j) w = isum (fun j => isum (fun i => f i j) h + f h j) w
    rw [isum_swap f w h, isum_add]
theorem isum_front (f : Nat → Int) : ∀ n : Nat, isum f (n + 1) = f 0 + isum (fun j => f (j + 1)) n
  | 0 => by
    show (0 : Int) + f 0 = f 0 + 0
    omega
  | n + 1 => by
    show isum f (n + 1) + f (n + 1) = f 0 + (isum (fun j => f (j + 1)) n + f (n + 1))
    rw [isum_front f n]
    omega
theorem isum_rev (f : Nat → Int) : ∀ n : Nat, isum (fun j => f (n - 1 - j)) n = isum f n
  | 0 => rfl
  | n + 1 => by
    rw [isum_front]
    show f (n + 1 - 1 - 0) + isum (fun j => f (n + 1 - 1 - (j + 1))) n = isum f n + f n
    have e : isum (fun j => f (n + 1 - 1 - (j + 1))) n = isum (fun j => f (n - 1 - j)) n := isum_congr fun i hi => by
      rw [show n + 1 - 1 - (i + 1) = n - 1 - i by omega]
    rw [e, isum_rev f n, show n + 1 - 1 - 0 = n by omega]
    omega
theorem sum_isum {f : Nat → Int} {l : List Int} {n : Nat} (hl : l.length = n) (h : ∀ i, i < n → l[i]? = some (f i)) : l.sum = isum f n := by
  have go : ∀ k, k ≤ n → (l.take k).sum = isum f k := by
    intro k
    induction k with
    | zero => exact fun _ => rfl
    | succ k ih =>
      intro hk
      rw [isum_more (h k (by omega)), ih (by omega)]
      rfl
  have e := go n (Nat.le_refl n)
  rw [← hl, List.take_length] at e
  rw [e, hl]
/-! ### how far, cell by cell -/
def gapAt (a b : List (List Int)) (i j : Nat) : Int := iabs (cellAt a i j - cellAt b i j)
theorem iabs_nn (x : Int) : 0 ≤ iabs x := by
  unfold iabs
  split <;> omega
theorem iabs_sub (x y : Int) : iabs (x - y) = iabs (y - x) := by
  unfold iabs
  split <;> split <;> omega
theorem iabs_tri (x y z : Int) : iabs (x - z) ≤ iabs (x - y) + iabs (y - z) := by
  unfold iabs
  split <;> split <;> split <;> omega
section
variable {P : Int → Prop} {h w : Nat} {a b c m : List (List Int)}
theorem diff_isum (p1 : PicP P h w a) (p2 : PicP P h w b) : diffT a b = isum (fun i => isum (fun j => gapAt a b i j) w) h := by
  unfold diffT
  refine sum_isum (by rw [List.length_map, List.length_zip, p1.hi, p2.hi, Nat.min_self]) fun i hi => ?_
  obtain ⟨r, r1, r2, r3⟩ := p1.row hi
  obtain ⟨t, t1, t2, t3⟩ := p2.row hi
  rw [map_get (zip_get_of r1 t1)]
  congr 1
  unfold diffR
  refine sum_isum (by rw [List.length_map, List.length_zip, r2, t2, Nat.min_self]) fun j hj => ?_
  have rj : r[j]? = some (r[j]'(by omega)) := List.getElem?_eq_getElem (by omega)
  have tj : t[j]? = some (t[j]'(by omega)) := List.getElem?_eq_getElem (by omega)
  rw [map_get (zip_get_of rj tj)]
  unfold gapAt cellAt
  rw [r3, t3, getD_get rj, getD_get tj]
theorem diff_self (p : PicP P h w a) : diffT a a = 0 := by
  rw [diff_isum p p]
  have e : ∀ i j, gapAt a a i j = 0 := fun i j => by
    unfold gapAt iabs
    rw [Int.sub_self]
    rfl
  rw [isum_congr (g := fun _ => 0) fun i _ => (isum_congr (g := fun _ => 0) fun j _ => e i j).trans (isum_zero w), isum_zero]
theorem diff_nn (p1 : PicP P h w a) (p2 : PicP P h w b) : 0 ≤ diffT a b := by
  rw [diff_isum p1 p2, ← isum_zero h]
  refine isum_le fun i _ => ?_
  rw [← isum_zero w]
  exact isum_le fun j _ => iabs_nn _
theorem diff_comm (p1 : PicP P h w a) (p2 : PicP P h w b) : diffT a b = diffT b a := by
  rw [diff_isum p1 p2, diff_isum p2 p1]
  exact isum_congr fun i _ => isum_congr fun j _ => iabs_sub _ _
theorem diff_tri (p1 : PicP P h w a) (p2 : PicP P h w b) (p3 : PicP P h w c) : diffT a c ≤ diffT a b + diffT b c := by
  rw [diff_isum p1 p2, diff_isum p2 p3, diff_isum p1 p3, ← isum_add]
  refine isum_le fun i _ => ?_
  rw [← isum_add]
  exact isum_le fun j _ => iabs_tri _ _ _
theorem diff_mir (p1 : PicP P h w a) (p2 : PicP P h w b) : diffT (mirT a) (mirT b) = diffT a b := by
  rw [diff_isum (mir_hw p1) (mir_hw p2), diff_isum p1 p2]
  refine isum_congr fun i hi => ?_
  rw [← isum_rev (fun j => gapAt a b i j)]
  refine isum_congr fun j hj => ?_
  unfold gapAt
  rw [mir_at p1 hi hj, mir_at p2 hi hj]
theorem diff_turn (p1 : PicP P h w a) (p2 : PicP P h w b) (h1 : 1 ≤ h) : diffT (turnT a) (turnT b) = diffT a b := by
  rw [diff_isum (turn_hw p1 h1) (turn_hw p2 h1), diff_isum p1 p2, isum_swap (fun i j => gapAt a b i j) w h, ← isum_rev (fun j => isum (fun i => gapAt a b i j) h) w]
  refine isum_congr fun k hk => isum_congr fun i hi => ?_
  unfold gapAt
  rw [turn_at p1 hk hi, turn_at p2 hk hi]
theorem diff_turns (p1 : PicP P h w a) (p2 : PicP P h w b) (h1 : 1 ≤ h) (w1 : 1 ≤ w) : ∀ n, diffT (turnsT n a) (turnsT n b) = diffT a b
  | 0 => rfl
  | n + 1 => by
    have ih := diff_turns p1 p2 h1 w1 n
    obtain ⟨a1, a2⟩ := turns_hw p1 h1 w1 n
    obtain ⟨b1, b2⟩ := turns_hw p2 h1 w1 n
    show diffT (turnT (turnsT n a)) (turnT (turnsT n b)) = _
    by_cases e : n % 2 = 0
    · rw [diff_turn (a1 e) (b1 e) h1, ih]
    · rw [diff_turn (a2 (by omega)) (b2 (by omega)) w1, ih]
theorem diff_move (p1 : PicP P h w a) (p2 : PicP P h w b) (h1 : 1 ≤ h) (w1 : 1 ≤ w) (t s : Nat) : diffT (moveT a t s) (moveT b t s) = diffT a b := by
  unfold moveT
  by_cases e : s = 1
  · rw [if_pos e, if_pos e, diff_turns (mir_hw p1) (mir_hw p2) h1 w1, diff_mir p1 p2]
  · rw [if_neg e, if_neg e, diff_turns p1 p2 h1 w1]
/-! ### the ways are a group -/
theorem turns_add (x y : Nat) (m : List (List Int)) : turnsT (x + y) m = turnsT x (turnsT y m) := by
  induction x with
  | zero => rw [Nat.zero_add]; rfl
  | succ x ih =>
    rw [Nat.succ_add]
    show turnT (turnsT (x + y) m) = turnT (turnsT x (turnsT y m))
    rw [ih]
theorem turns_four (p : PicP P h w m) (h1 : 1 ≤ h) (w1 : 1 ≤ w) (r : Nat) : ∀ q, turnsT (4 * q + r) m = turnsT r m
  | 0 => by rw [Nat.mul_zero, Nat.zero_add]
  | q + 1 => by
    rw [show 4 * (q + 1) + r = 4 + (4 * q + r) by omega, turns_add, turns_four p h1 w1 r q]
    obtain ⟨a1, a2⟩ := turns_hw p h1 w1 r
    by_cases e : r % 2 = 0
    · exact turn4 (a1 e) h1 w1
    · exact turn4 (a2 (by omega)) w1 h1
theorem turns_mod (p : PicP P h w m) (h1 : 1 ≤ h) (w1 : 1 ≤ w) (n : Nat) : turnsT (n % 4) m = turnsT n m := by
  have e := turns_four p h1 w1 (n % 4) (n / 4)
  rw [show 4 * (n / 4) + n % 4 = n by omega] at e
  exact e.symm
theorem mir_mir (m : List (List Int)) : mirT (mirT m) = m := by
  unfold mirT
  rw [List.map_map]
  conv => rhs; rw [← List.map_id m]
  exact List.map_congr_left fun r _ => List.reverse_reverse r
theorem mir_turn (p : PicP P h w m) (h1 : 1 ≤ h) (w1 : 1 ≤ w) : mirT (turnT m) = turnsT 3 (mirT m) := by
  have q0 := mir_hw p
  have q1 := turn_hw q0 h1
  have q2 := turn_hw q1 w1
  have q3 := turn_hw q2 h1
  refine PicP.ext (mir_hw (turn_hw p h1)) q3 fun k i hk hi => ?_
  show _ = cellAt (turnT (turnT (turnT (mirT m)))) k i
  rw [mir_at (turn_hw p h1) hk hi, turn_at p hk (by omega : h - 1 - i < h), turn_at q2 hk hi, turn_at q1 hi (by omega : w - 1 - k < w), turn_at q0 (by omega : w - 1 - k < w) (by omega : h - 1 - i < h), mir_at p (by omega : h - 1 - i < h) (by omega : w - 1 - (w - 1 - k) < w)]
  congr 1
  omega
theorem mir_turns (p : PicP P h w m) (h1 : 1 ≤ h) (w1 : 1 ≤ w) : ∀ n, mirT (turnsT n m) = turnsT (3 * n) (mirT m)
  | 0 => rfl
  | n + 1 => by
    have ih := mir_turns p h1 w1 n
    obtain ⟨a1, a2⟩ := turns_hw p h1 w1 n
    show mirT (turnT (turnsT n m)) = _
    have e : mirT (turnT (turnsT n m)) = turnsT 3 (mirT (turnsT n m)) := by
      by_cases e : n % 2 = 0
      · exact mir_turn (a1 e) h1 w1
      · exact mir_turn (a2 (by omega)) w1 h1
    rw [e, ih, ← turns_add, show 3 + 3 * n = 3 * (n + 1) by omega]
def mulW (x y : Nat × Nat) : Nat × Nat := if y.2 = 1 then ((y.1 + 3 * x.1) % 4, 1 - x.2) else ((x.1 + y.1) % 4, x.2)
theorem move_mul (p : PicP P h w m) (h1 : 1 ≤ h) (w1 : 1 ≤ w) {x y : Nat × Nat} (hx : x.2 ≤ 1) : moveT (moveT m x.1 x.2) y.1 y.2 = moveT m (mulW x y).1 (mulW x y).2 := by
  have q0 := mir_hw p
  unfold mulW
  by_cases e : y.2 = 1
  · rw [if_pos e]
    show turnsT y.1 (if y.2 = 1 then mirT (moveT m x.1 x.2) else moveT m x.1 x.2) = turnsT ((y.1 + 3 * x.1) % 4) (if 1 - x.2 = 1 then mirT m else m)
    rw [if_pos e]
    unfold moveT
    have hx2 : x.2 = 0 ∨ x.2 = 1 := by omega
    rcases hx2 with hx2 | hx2 <;> rw [hx2]
    · rw [if_neg (by decide), if_pos (by decide), mir_turns p h1 w1, ← turns_add, turns_mod q0 h1 w1]
    · rw [if_pos rfl, if_neg (by decide), mir_turns q0 h1 w1, mir_mir, ← turns_add, turns_mod p h1 w1]
  · rw [if_neg e]
    show turnsT y.1 (if y.2 = 1 then mirT (moveT m x.1 x.2) else moveT m x.1 x.2) = turnsT ((x.1 + y.1) % 4) (if x.2 = 1 then mirT m else m)
    rw [if_neg e]
    unfold moveT
    rw [← turns_add, Nat.add_comm y.1]
    by_cases e2 : x.2 = 1
    · rw [if_pos e2, turns_mod q0 h1 w1]
    · rw [if_neg e2, turns_mod p h1 w1]
end
def groupOk (ws : List (Nat × Nat)) : Bool := (ws.all fun x => ws.all fun y => ws.contains (mulW x y)) && ws.all fun x => ws.any fun y => mulW x y == (0, 0)
theorem group_kind {k : Str} (h : IsKind k) : groupOk (waysT k) = true := by
  rcases kind_cases h with rfl | rfl | rfl | rfl | rfl | rfl <;> decide
theorem ways_mul {k : Str} (h : IsKind k) {x y : Nat × Nat} (hx : x ∈ waysT k) (hy : y ∈ waysT k) : mulW x y ∈ waysT k := by
  have g := (He.ba (group_kind h)).1
  have := List.all_eq_true.mp (List.all_eq_true.mp g x hx) y hy
  exact List.contains_iff_mem.mp this
theorem ways_inv {k : Str} (h : IsKind k) {x : Nat × Nat} (hx : x ∈ waysT k) : ∃ y ∈ waysT k, mulW x y = (0, 0) := by
  have g := (He.ba (group_kind h)).2
  obtain ⟨y, hy, e⟩ := List.any_eq_true.mp (List.all_eq_true.mp g x hx)
  exact ⟨y, hy, by simpa using e⟩
theorem ways_id {k : Str} (h : IsKind k) : (0, 0) ∈ waysT k := by
  obtain ⟨r, e⟩ := ways_ne h
  rw [e]
  exact List.mem_cons_self
theorem move_id (m : List (List Int)) : moveT m 0 0 = m := rfl
section
variable {P : Int → Prop} {h w : Nat} {a b c : List (List Int)} {k : Str}
theorem far_mem (hk : IsKind k) : ∃ q ∈ waysT k, farT a b k = diffT a (moveT b q.1 q.2) := by
  obtain ⟨h1, _⟩ := bestT_mem (apart_some (m1 := a) (m2 := b) hk)
  obtain ⟨q, hq, e⟩ := List.mem_map.mp h1
  exact ⟨q, hq, by unfold farT; rw [← e]⟩
theorem far_le (hk : IsKind k) {q : Nat × Nat} (hq : q ∈ waysT k) : farT a b k ≤ diffT a (moveT b q.1 q.2) :=
  (bestT_mem (apart_some (m1 := a) (m2 := b) hk)).2 _ (List.mem_map.mpr ⟨q, hq, rfl⟩)
theorem far_nn (f : KFit k h w) (p1 : PicP P h w a) (p2 : PicP P h w b) (h1 : 1 ≤ h) (w1 : 1 ≤ w) : 0 ≤ farT a b k := by
  obtain ⟨q, hq, e⟩ := far_mem (a := a) (b := b) f.1
  rw [e]
  exact diff_nn p1 (f.pic p2 h1 w1 hq)
/-- what is undone -/
theorem far_back (f : KFit k h w) (p2 : PicP P h w b) (h1 : 1 ≤ h) (w1 : 1 ≤ w) {q : Nat × Nat} (hq : q ∈ waysT k) : ∃ z ∈ waysT k, moveT (moveT b q.1 q.2) z.1 z.2 = b := by
  obtain ⟨z, hz, e⟩ := ways_inv f.1 hq
  refine ⟨z, hz, ?_⟩
  rw [move_mul p2 h1 w1 (ways_lt f.1 q hq).2, e]
  rfl
theorem far_symm_le (f : KFit k h w) (p1 : PicP P h w a) (p2 : PicP P h w b) (h1 : 1 ≤ h) (w1 : 1 ≤ w) : farT a b k ≤ farT b a k := by
  obtain ⟨q, hq, e⟩ := far_mem (a := b) (b := a) f.1
  obtain ⟨z, hz, e2⟩ := far_back f p1 h1 w1 hq
  have h2 := far_le (a := a) (b := b) f.1 hz
  have p3 := f.pic p1 h1 w1 hq
  rw [e, diff_comm p2 p3]
  have := diff_move p3 p2 h1 w1 z.1 z.2
  rw [e2] at this
  omega
theorem far_symm (f : KFit k h w) (p1 : PicP P h w a) (p2 : PicP P h w b) (h1 : 1 ≤ h) (w1 : 1 ≤ w) : farT a b k = farT b a k := by
  have x := far_symm_le f p1 p2 h1 w1
  have y := far_symm_le f p2 p1 h1 w1
  omega
theorem far_tri (f : KFit k h w) (p1 : PicP P h w a) (p2 : PicP P h w b) (p3 : PicP P h w c) (h1 : 1 ≤ h) (w1 : 1 ≤ w) : farT a c k ≤ farT a b k + farT b c k := by
  obtain ⟨q, hq, e⟩ := far_mem (a := a) (b := b) f.1
  obtain ⟨z, hz, e2⟩ := far_mem (a := b) (b := c) f.1
  have m := ways_mul f.1 hz hq
  have h2 := far_le (a := a) (b := c) f.1 m
  have pz := f.pic p3 h1 w1 hz
  rw [← move_mul p3 h1 w1 (ways_lt f.1 z hz).2] at h2
  have t := diff_tri p1 (f.pic p2 h1 w1 hq) (f.pic pz h1 w1 hq)
  rw [diff_move p2 pz h1 w1] at t
  omega
theorem far_self (f : KFit k h w) (p1 : PicP P h w a) (h1 : 1 ≤ h) (w1 : 1 ≤ w) : farT a a k = 0 := by
  have x := far_le (a := a) (b := a) f.1 (ways_id f.1)
  have y := far_nn f p1 p1 h1 w1
  have z : diffT a (moveT a 0 0) = 0 := diff_self p1
  have x : farT a a k ≤ diffT a (moveT a 0 0) := x
  omega
theorem far_moved (f : KFit k h w) (p1 : PicP P h w a) (h1 : 1 ≤ h) (w1 : 1 ≤ w) {q : Nat × Nat} (hq : q ∈ waysT k) : farT a (moveT a q.1 q.2) k = 0 := by
  obtain ⟨z, hz, e2⟩ := far_back f p1 h1 w1 hq
  have x := far_le (a := a) (b := moveT a q.1 q.2) f.1 hz
  rw [e2, diff_self p1] at x
  have y := far_nn f p1 (f.pic p1 h1 w1 hq) h1 w1
  omega
theorem far_move (f : KFit k h w) (p1 : PicP P h w a) (p2 : PicP P h w b) (h1 : 1 ≤ h) (w1 : 1 ≤ w) {q : Nat × Nat} (hq : q ∈ waysT k) : farT (moveT a q.1 q.2) b k = farT a b k := by
  have p3 := f.pic p1 h1 w1 hq
  have x := far_tri f p3 p1 p2 h1 w1
  have y := far_tri f p1 p3 p2 h1 w1
  have z := far_moved f p1 h1 w1 hq
  have z2 := far_symm f p1 p3 h1 w1
  omega
theorem apart_self (f : KFit k h w) (p1 : PicP P h w a) (h1 : 1 ≤ h) (w1 : 1 ≤ w) : apartT a a k = (0, (0, 0)) := by
  have hf := bestT_first (apart_some (m1 := a) (m2 := a) f.1) (far_self f p1 h1 w1)
  obtain ⟨r, e⟩ := ways_ne f.1
  have e2 : farsT a a k = (0, (0, 0)) :: r.map fun w => (diffT a (moveT a w.1 w.2), w) := by
    unfold farsT
    rw [e, List.map_cons]
    congr 2
    exact diff_self p1
  rw [e2, List.filter_cons, if_pos (by exact decide_eq_true rfl)] at hf
  exact (Option.some.inj hf).symm
end
end Ls

namespace Ls
open PySem PySem.Spec PyProof.Rows L2
/-! ### small ones: the plain law -/
def boxT (s : Nat) (m : List (List Int)) (I J : Nat) : Int := isum (fun i => isum (fun j => cellAt m (I * s + i) (J * s + j)) s) s
def smallT (a b s : Nat) (m : List (List Int)) : List (List Int) := (List.range a).map fun I => (List.range b).map fun J => boxT s m I J
theorem isum_split (f : Nat → Int) (n : Nat) : ∀ m, isum f (n + m) = isum f n + isum (fun i => f (n + i)) m
  | 0 => by
    show isum f n = isum f n + 0
    omega
  | m + 1 => by
    show isum f (n + m) + f (n + m) = isum f n + (isum (fun i => f (n + i)) m + f (n + m))
    rw [isum_split f n m]
    omega
theorem isum_block (f : Nat → Int) (s : Nat) : ∀ k, isum f (k * s) = isum (fun I => isum (fun i => f (I * s + i)) s) k
  | 0 => by
    rw [Nat.zero_mul]
    rfl
  | k + 1 => by
    rw [Nat.succ_mul, isum_split, isum_block f s k]
    rfl
theorem isum_abs (f : Nat → Int) : ∀ n, iabs (isum f n) ≤ isum (fun i => iabs (f i)) n
  | 0 => by
    show iabs 0 ≤ 0
    decide
  | n + 1 => by
    have ih := isum_abs f n
    show iabs (isum f n + f n) ≤ isum (fun i => iabs (f i)) n + iabs (f n)
    have : iabs (isum f n + f n) ≤ iabs (isum f n) + iabs (f n) := by
      unfold iabs
      split <;> split <;> split <;> omega
    omega
theorem isum_sub (f g : Nat → Int) : ∀ n : Nat, isum (fun i => f i - g i) n = isum f n - isum g n
  | 0 => rfl
  | n + 1 => by
    show isum (fun i => f i - g i) n + (f n - g n) = (isum f n + f n) - (isum g n + g n)
    rw [isum_sub f g n]
    omega
abbrev Tru : Int → Prop := fun _ => True
theorem small_hw (a b s : Nat) (m : List (List Int)) : PicP Tru a b (smallT a b s m) := by
  refine ⟨by unfold smallT; rw [List.length_map, List.length_range], fun r hr => ?_, fun _ _ _ _ => trivial⟩
  unfold smallT at hr
  obtain ⟨I, _, rfl⟩ := List.mem_map.mp hr
  rw [List.length_map, List.length_range]
theorem small_at {a b s : Nat} {m : List (List Int)} {I J : Nat} (hI : I < a) (hJ : J < b) : cellAt (smallT a b s m) I J = boxT s m I J := by
  have e4 : (smallT a b s m)[I]? = some ((List.range b).map fun J => boxT s m I J) := range_map_get _ hI
  unfold cellAt
  rw [getD_get e4, getD_get (range_map_get _ hJ)]
theorem mul_lt {I a s i : Nat} (h1 : I < a) (h2 : i < s) : I * s + i < a * s := by
  have : (I + 1) * s ≤ a * s := Nat.mul_le_mul_right s h1
  rw [Nat.succ_mul] at this
  omega
section
variable {P : Int → Prop} {a b s k : Nat} {m m' : List (List Int)}
theorem small_one (p : PicP P a b m) : smallT a b 1 m = m := by
  have p' : PicP Tru a b m := ⟨p.hi, p.wi, fun _ _ _ _ => trivial⟩
  refine PicP.ext (small_hw a b 1 m) p' fun I J hI hJ => ?_
  rw [small_at hI hJ]
  show (0 : Int) + (0 + cellAt m (I * 1 + 0) (J * 1 + 0)) = _
  rw [Nat.mul_one, Nat.mul_one, Nat.add_zero, Nat.add_zero]
  omega
theorem flip_at {b s J j : Nat} (hJ : J < b) (hj : j < s) : b * s - 1 - (J * s + j) = (b - 1 - J) * s + (s - 1 - j) := by
  obtain ⟨c, rfl⟩ : ∃ c, b = J + 1 + c := ⟨b - (J + 1), by omega⟩
  rw [show J + 1 + c - 1 - J = c by omega, Nat.add_mul, Nat.add_mul, Nat.one_mul]
  omega
theorem small_mir (p : PicP P (a * s) (b * s) m) : smallT a b s (mirT m) = mirT (smallT a b s m) := by
  refine PicP.ext (small_hw _ _ _ _) (mir_hw (small_hw a b s m)) fun I J hI hJ => ?_
  rw [small_at hI hJ, mir_at (small_hw a b s m) hI hJ, small_at hI (by omega)]
  unfold boxT
  refine isum_congr fun i hi => ?_
  rw [← isum_rev fun j => cellAt m (I * s + i) ((b - 1 - J) * s + j)]
  refine isum_congr fun j hj => ?_
  rw [mir_at p (mul_lt hI hi) (mul_lt hJ hj), flip_at hJ hj]
theorem small_turn (p : PicP P (a * s) (b * s) m) (h1 : 1 ≤ a) : smallT b a s (turnT m) = turnT (smallT a b s m) := by
  refine PicP.ext (small_hw _ _ _ _) (turn_hw (small_hw a b s m) h1) fun K A hK hA => ?_
  rw [small_at hK hA, turn_at (small_hw a b s m) hK hA, small_at hA (by omega)]
  unfold boxT
  rw [isum_swap]
  refine isum_congr fun i hi => ?_
  rw [← isum_rev fun j => cellAt m (A * s + i) ((b - 1 - K) * s + j)]
  refine isum_congr fun j hj => ?_
  rw [turn_at p (mul_lt hK hj) (mul_lt hA hi), flip_at hK hj]
theorem small_turns (p : PicP P (a * s) (b * s) m) (h1 : 1 ≤ a) (w1 : 1 ≤ b) (s1 : 1 ≤ s) : ∀ n, (n % 2 = 0 → smallT a b s (turnsT n m) = turnsT n (smallT a b s m)) ∧ (n % 2 = 1 → smallT b a s (turnsT n m) = turnsT n (smallT a b s m))
  | 0 => ⟨fun _ => rfl, fun z => by simp at z⟩
  | n + 1 => by
    obtain ⟨x, y⟩ := small_turns p h1 w1 s1 n
    obtain ⟨u, v⟩ := turns_hw p (Nat.mul_pos h1 s1) (Nat.mul_pos w1 s1) n
    refine ⟨fun z => ?_, fun z => ?_⟩
    · show smallT a b s (turnT (turnsT n m)) = turnT (turnsT n (smallT a b s m))
      rw [small_turn (v (by omega)) w1, y (by omega)]
    · show smallT b a s (turnT (turnsT n m)) = turnT (turnsT n (smallT a b s m))
      rw [small_turn (u (by omega)) h1, x (by omega)]
/-- small ones of a moved one: where the way keeps the sides -/
theorem small_move {kind : Str} (p : PicP P (a * s) (b * s) m) (h1 : 1 ≤ a) (w1 : 1 ≤ b) (s1 : 1 ≤ s) (kf : KFit kind a b) {q : Nat × Nat} (hq : q ∈ waysT kind) : smallT a b s (moveT m q.1 q.2) = moveT (smallT a b s m) q.1 q.2 := by
  have key : ∀ x : List (List Int), PicP P (a * s) (b * s) x → smallT a b s (turnsT q.1 x) = turnsT q.1 (smallT a b s x) := by
    intro x px
    obtain ⟨u, v⟩ := small_turns px h1 w1 s1 q.1
    by_cases e : q.1 % 2 = 0
    · exact u e
    · have e2 := kf.2 q hq (by omega)
      subst e2
      exact v (by omega)
  unfold moveT
  by_cases e : q.2 = 1
  · rw [if_pos e, if_pos e, key _ (mir_hw p), small_mir p]
  · rw [if_neg e, if_neg e, key _ p]
theorem small_small (a b s k : Nat) (m : List (List Int)) : smallT a b k (smallT (a * k) (b * k) s m) = smallT a b (k * s) m := by
  refine PicP.ext (small_hw _ _ _ _) (small_hw _ _ _ _) fun I J hI hJ => ?_
  rw [small_at hI hJ, small_at hI hJ]
  unfold boxT
  rw [isum_block _ s k]
  refine isum_congr fun i hi => ?_
  have e1 : ∀ j, j < k → cellAt (smallT (a * k) (b * k) s m) (I * k + i) (J * k + j) = isum (fun x => isum (fun y => cellAt m ((I * k + i) * s + x) ((J * k + j) * s + y)) s) s := fun j hj => small_at (mul_lt hI hi) (mul_lt hJ hj)
  rw [isum_congr e1, isum_swap]
  refine isum_congr fun x hx => ?_
  rw [isum_block _ s k]
  refine isum_congr fun j hj => isum_congr fun y hy => ?_
  have e2 : I * (k * s) + (i * s + x) = (I * k + i) * s + x := by rw [Nat.add_mul, Nat.mul_assoc]; omega
  have e3 : J * (k * s) + (j * s + y) = (J * k + j) * s + y := by rw [Nat.add_mul, Nat.mul_assoc]; omega
  rw [e2, e3]
/-- small ones are no farther apart -/
theorem small_near (p : PicP P (a * s) (b * s) m) (p' : PicP P (a * s) (b * s) m') : diffT (smallT a b s m) (smallT a b s m') ≤ diffT m m' := by
  rw [diff_isum (small_hw a b s m) (small_hw a b s m'), diff_isum p p', isum_block _ s a]
  refine isum_le fun I hI => ?_
  have e : isum (fun i => isum (fun j => gapAt m m' (I * s + i) j) (b * s)) s = isum (fun J => isum (fun i => isum (fun j => gapAt m m' (I * s + i) (J * s + j)) s) s) b :=
    (isum_congr fun i _ => isum_block (fun j => gapAt m m' (I * s + i) j) s b).trans (isum_swap (fun i J => isum (fun j => gapAt m m' (I * s + i) (J * s + j)) s) b s)
  rw [e]
  have e0 : isum (fun j => gapAt (smallT a b s m) (smallT a b s m') I j) b = isum (fun J => iabs (boxT s m I J - boxT s m' I J)) b := isum_congr fun J hJ => by
    unfold gapAt
    rw [small_at hI hJ, small_at hI hJ]
  rw [e0]
  refine isum_le fun J hJ => ?_
  unfold boxT
  rw [← isum_sub]
  refine Int.le_trans (isum_abs _ s) (isum_le fun i hi => ?_)
  rw [← isum_sub]
  exact isum_abs _ s
/-- the bound of a size is no greater than that of a size which divides it -/
theorem bound_le {kind : Str} (p : PicP P (a * k * s) (b * k * s) m) (p' : PicP P (a * k * s) (b * k * s) m') (h1 : 1 ≤ a) (w1 : 1 ≤ b) (s1 : 1 ≤ s) (k1 : 1 ≤ k) (kf : KFit kind a b) :
    farT (smallT a b (k * s) m) (smallT a b (k * s) m') kind ≤ farT (smallT (a * k) (b * k) s m) (smallT (a * k) (b * k) s m') kind := by
  obtain ⟨q, hq, e⟩ := far_mem (a := smallT (a * k) (b * k) s m) (b := smallT (a * k) (b * k) s m') kf.1
  rw [e]
  refine Int.le_trans (far_le kf.1 hq) ?_
  have kf2 : KFit kind (a * k) (b * k) := ⟨kf.1, fun q hq ho => by rw [kf.2 q hq ho]⟩
  have pb := small_hw (a * k) (b * k) s m'
  rw [← small_small a b s k m, ← small_small a b s k m', ← small_move pb h1 w1 k1 kf hq]
  exact small_near (small_hw (a * k) (b * k) s m) (kf2.pic pb (Nat.mul_pos h1 k1) (Nat.mul_pos w1 k1) hq)
end
end Ls

namespace Ls
open PySem PySem.Spec PyProof.Rows L2
theorem size_up {a s : Nat} (hs : 1 ≤ s) : Builtin.Range.rangeSize 0 ((a * s : Nat) : Int) s = a := by
  rw [rangeSize_pos (by omega) (by omega)]
  have e : ((a * s : Nat) : Int) + s - 1 = ((s - 1 : Nat) : Int) + (a : Int) * s := by
    rw [Int.natCast_mul, Int.natCast_sub hs]
    omega
  rw [e, Int.add_mul_ediv_right _ _ (by omega), Int.ediv_eq_zero_of_lt (by omega) (by omega)]
  omega
theorem rgC_up {a s : Nat} (hs : 1 ≤ s) (h1 : s ≤ 1000000) (h2 : a * s ≤ 1000000) : RgC 0 ((a * s : Nat) : Int) s a := by
  refine ⟨by omega, by omega, ?_, size_up hs⟩
  unfold Builtin.Range.small
  rw [size_up hs]
  simp only [Builtin.Range.rangeFitsLong, Bool.and_eq_true, Bool.or_eq_true, decide_eq_true_eq, beq_iff_eq]
  have : a ≤ a * s := Nat.le_mul_of_pos_right a hs
  generalize a * s = z at *
  rw [if_pos (by omega)]
  simp only [Bool.and_eq_true, decide_eq_true_eq]
  omega
theorem forin_rangeC {lo c : Int} {n : Nat} {g : TG} {tb : TS} {D : Ends} {σ : L2.St} {H : Hp} (Pv : Nat → L2.St → Hp → Prop) (h0 : Pv 0 σ H)
    (hs : ∀ i σ H, i < n → Pv i σ H → g (.int (lo + (i : Nat) * c)) σ H fun σ2 H2 => tb { D with nx := Pv (i + 1), ct := Pv (i + 1), bk := D.nx } σ2 H2) (hd : ∀ σ H, Pv n σ H → D.nx σ H) : ForIn (Itc lo c n) g tb D σ H :=
  forin_it walk_rangeC Pv h0 (fun _ _ _ _ _ => trivial) (fun i x σ H H' hi hp hy => by
    obtain ⟨rfl, rfl⟩ := hy
    exact hs i σ _ hi hp) hd
/-- the box's sum, as the program sums it -/
theorem box_sum {P : Int → Prop} {a b s I J : Nat} {m : List (List Int)} (p : PicP P (a * s) (b * s) m) (hI : I < a) (hJ : J < b) :
    ((((m.drop (I * s)).take s).map fun r => ((r.drop (J * s)).take s).sum)).sum = boxT s m I J := by
  have hl : ((m.drop (I * s)).take s).length = s := by
    rw [List.length_take, List.length_drop, p.hi]
    have : (I + 1) * s ≤ a * s := Nat.mul_le_mul_right s hI
    rw [Nat.succ_mul] at this
    omega
  unfold boxT
  refine sum_isum (by rw [List.length_map, hl]) fun i hi => ?_
  obtain ⟨r, r1, r2, r3⟩ := p.row (mul_lt hI hi)
  have e : ((m.drop (I * s)).take s)[i]? = some r := by
    rw [List.getElem?_take_of_lt hi, List.getElem?_drop]
    exact r1
  rw [map_get e]
  congr 1
  refine sum_isum ?_ fun j hj => ?_
  · rw [List.length_take, List.length_drop, r2]
    have : (J + 1) * s ≤ b * s := Nat.mul_le_mul_right s hJ
    rw [Nat.succ_mul] at this
    omega
  · rw [List.getElem?_take_of_lt hj, List.getElem?_drop]
    have hjj : J * s + j < r.length := by
      rw [r2]
      exact mul_lt hJ hj
    unfold cellAt
    rw [r3, getD_get (List.getElem?_eq_getElem hjj), List.getElem?_eq_getElem hjj]
end Ls
namespace Ls
open PySem PySem.Spec PyProof.Rows L2
theorem MatF.nil {H : Hp} {p : Addr} (h : H p = none) : MatF H (upd H p (.lst [])) p [] [] :=
  ⟨upd_same, rfl, fun i r a h1 _ => by simp at h1, by simp, fun a ha => by
    rcases List.mem_cons.mp ha with rfl | ha
    · exact h
    · cases ha⟩
theorem mod_mul {a z : Nat} : ((a * z : Nat) : Int) % (z : Int) = 0 := by
  rw [Int.natCast_mul]
  exact Int.mul_emod_left _ _
end Ls
namespace Ls
open PySem PySem.Spec PyProof.Rows L2
theorem vne_eq {x y : V} (h : x = y) : V.bl (!decide (x = y)) = V.bl false := by
  rw [decide_eq_true h]
  rfl
theorem vne_ne {x y : V} (h : x ≠ y) : V.bl (!decide (x = y)) = V.bl true := by
  rw [decide_eq_false h]
  rfl
theorem veq_eq {x y : V} (h : x = y) : V.bl (decide (x = y)) = V.bl true := congrArg V.bl (decide_eq_true h)
theorem veq_ne {x y : V} (h : x ≠ y) : V.bl (decide (x = y)) = V.bl false := congrArg V.bl (decide_eq_false h)
end Ls
namespace Ls
open PySem PySem.Spec PyProof.Rows L2
theorem MatF.other {H H' : Hp} {p q : Addr} {o : HO} {rs : List Addr} {m : List (List Int)} (f : MatF H H' p rs m) (h : q ∉ p :: rs) : MatF H (upd H' q o) p rs m := by
  have n : ∀ a ∈ p :: rs, a ≠ q := fun a ha e => h (e ▸ ha)
  exact ⟨by rw [upd_ne (n p List.mem_cons_self)]; exact f.top, f.len, fun i r a h1 h2 => by
    rw [upd_ne (n a (List.mem_cons_of_mem _ (List.mem_of_getElem? h2)))]
    exact f.row i r a h1 h2, f.nd, f.new⟩
end Ls

namespace Ls
open PySem PySem.Spec PyProof.Rows L2
/-! ### sizes that divide, bounds -/
def downT : Nat → List Nat
  | 0 => []
  | n + 1 => (n + 1) :: downT n
theorem down_len : ∀ n, (downT n).length = n
  | 0 => rfl
  | n + 1 => congrArg (· + 1) (down_len n)
theorem down_get : ∀ {n i : Nat}, i < n → (downT n)[i]? = some (n - i)
  | 0, _, h => absurd h (Nat.not_lt_zero _)
  | n + 1, 0, _ => rfl
  | n + 1, i + 1, h => by
    show (downT n)[i]? = _
    rw [down_get (by omega : i < n)]
    congr 1
    omega
theorem down_mem : ∀ {n s : Nat}, s ∈ downT n → 1 ≤ s ∧ s ≤ n
  | 0, _, h => by cases h
  | n + 1, s, h => by
    rcases List.mem_cons.mp h with rfl | h
    · omega
    · have := down_mem h
      omega
def divB (h w s : Nat) : Bool := decide (h % s = 0) && decide (w % s = 0)
def sizesT (h w n : Nat) : List Nat := (downT n).filter (divB h w)
theorem sizes_more {h w n : Nat} (h1 : 1 ≤ h) (w1 : 1 ≤ w) (hn : min h w ≤ n) : sizesT h w n = sizesT h w (min h w) := by
  obtain ⟨k, rfl⟩ : ∃ k, n = min h w + k := ⟨n - min h w, by omega⟩
  clear hn
  induction k with
  | zero => rfl
  | succ k ih =>
    rw [← ih]
    show (downT (min h w + k + 1)).filter (divB h w) = _
    show ((min h w + k + 1) :: downT (min h w + k)).filter (divB h w) = _
    rw [List.filter_cons, if_neg ?_]
    · rfl
    unfold divB
    intro z
    rw [Bool.and_eq_true, decide_eq_true_eq, decide_eq_true_eq] at z
    by_cases e : h ≤ w
    · rw [Nat.min_eq_left e, Nat.mod_eq_of_lt (by omega)] at z
      omega
    · rw [Nat.min_eq_right (by omega), Nat.mod_eq_of_lt (a := w) (by omega)] at z
      omega
theorem sizes_last (h w : Nat) : ∀ n, ∃ l, sizesT h w (n + 1) = l ++ [1]
  | 0 => ⟨[], by unfold sizesT; simp [downT, divB]; omega⟩
  | n + 1 => by
    obtain ⟨l, e⟩ := sizes_last h w n
    have : sizesT h w (n + 1 + 1) = if divB h w (n + 1 + 1) = true then (n + 1 + 1) :: sizesT h w (n + 1) else sizesT h w (n + 1) := by
      show ((n + 1 + 1) :: downT (n + 1)).filter (divB h w) = _
      rw [List.filter_cons]
      rfl
    rw [this, e]
    by_cases z : divB h w (n + 1 + 1) = true
    · exact ⟨(n + 1 + 1) :: l, by rw [if_pos z]; rfl⟩
    · exact ⟨l, by rw [if_neg z]⟩
theorem sizes_div {h w n s : Nat} (hs : s ∈ sizesT h w n) : 1 ≤ s ∧ s ≤ n ∧ h = h / s * s ∧ w = w / s * s := by
  obtain ⟨a, b⟩ := List.mem_filter.mp hs
  have c := down_mem a
  unfold divB at b
  rw [Bool.and_eq_true, decide_eq_true_eq, decide_eq_true_eq] at b
  refine ⟨c.1, c.2, ?_, ?_⟩
  · have := Nat.div_add_mod h s
    rw [b.1, Nat.mul_comm] at this
    omega
  · have := Nat.div_add_mod w s
    rw [b.2, Nat.mul_comm] at this
    omega
/-- how far the small ones are apart -/
def boundT (h w : Nat) (m1 m2 : List (List Int)) (kind : Str) (s : Nat) : Int := farT (smallT (h / s) (w / s) s m1) (smallT (h / s) (w / s) s m2) kind
def dB (x : Int × Int) : PyData := .tuple [.int x.1, .int x.2]
def boundsT (h w : Nat) (m1 m2 : List (List Int)) (kind : Str) : List (Int × Int) := (sizesT h w (min h w)).map fun (s : Nat) => (((s : Nat) : Int), boundT h w m1 m2 kind s)
theorem dt_B {K : PySem.W.Frag} {F : Hp} {v : V} {x : Int × Int} (h : Dt K F v (dB x)) : ∃ T, v = .ref T ∧ SqT K F T [.int x.1, .int x.2] := by
  obtain ⟨T, xs, rfl, hT, ha⟩ := dt_tup_inv h
  have e : xs = [.int x.1, .int x.2] := dtAll_int_inv (ns := [x.1, x.2]) ha
  subst e
  exact ⟨T, rfl, hT⟩
theorem KFit.div {kind : Str} {h w s : Nat} (f : KFit kind h w) : KFit kind (h / s) (w / s) := ⟨f.1, fun q hq ho => by rw [f.2 q hq ho]⟩
theorem div_pos' {h s : Nat} (h1 : 1 ≤ h) (e : h = h / s * s) : 1 ≤ h / s := by
  rcases Nat.eq_zero_or_pos (h / s) with z | z
  · rw [z, Nat.zero_mul] at e
    omega
  · exact z
theorem bounds_le {P : Int → Prop} {h w : Nat} {m1 m2 : List (List Int)} {kind : Str} (p1 : PicP P h w m1) (p2 : PicP P h w m2) (h1 : 1 ≤ h) (w1 : 1 ≤ w) (kf : KFit kind h w) {n S s : Nat} (hS : S ∈ sizesT h w n) (hs : s ∈ sizesT h w n) (e : S % s = 0) :
    boundT h w m1 m2 kind S ≤ boundT h w m1 m2 kind s := by
  obtain ⟨S1, _, Sh, Sw⟩ := sizes_div hS
  obtain ⟨s1, _, sh, sw⟩ := sizes_div hs
  have a1 := div_pos' h1 Sh
  have b1 := div_pos' w1 Sw
  have kd : KFit kind (h / S) (w / S) := kf.div
  obtain ⟨k, rfl⟩ : ∃ k, S = k * s := ⟨S / s, by
    have := Nat.div_add_mod S s
    rw [e, Nat.mul_comm] at this
    omega⟩
  have k1 : 1 ≤ k := by
    rcases Nat.eq_zero_or_pos k with z | z
    · subst z
      rw [Nat.zero_mul] at S1
      omega
    · exact z
  unfold boundT
  have eh : h / s = h / (k * s) * k := by
    conv => lhs; rw [Sh, ← Nat.mul_assoc]
    exact Nat.mul_div_cancel _ s1
  have ew : w / s = w / (k * s) * k := by
    conv => lhs; rw [Sw, ← Nat.mul_assoc]
    exact Nat.mul_div_cancel _ s1
  rw [eh, ew]
  refine bound_le (P := P) ?_ ?_ a1 b1 s1 k1 kd
  · rw [Nat.mul_assoc, Nat.mul_assoc, ← Sh, ← Sw]
    exact p1
  · rw [Nat.mul_assoc, Nat.mul_assoc, ← Sh, ← Sw]
    exact p2
end Ls
namespace Ls
open PySem PySem.Spec PyProof.Rows L2
theorem atI_last {A : Type} {xs : List A} {n : Nat} {x : A} (hl : xs.length = n + 1) (h : xs[n]? = some x) : atI xs (-1) = some x := by
  have e : ixN xs.length (-1) = some n := by
    unfold ixN
    rw [if_neg (by decide), if_pos (by omega)]
    congr 1
    omega
  unfold atI
  rw [e]
  exact h
theorem bounds_last (h w : Nat) (h1 : 1 ≤ h) (w1 : 1 ≤ w) (m1 m2 : List (List Int)) (kind : Str) : ∃ l, boundsT h w m1 m2 kind = l ++ [(1, boundT h w m1 m2 kind 1)] := by
  obtain ⟨n, hn⟩ : ∃ n, min h w = n + 1 := ⟨min h w - 1, by omega⟩
  obtain ⟨l, e⟩ := sizes_last h w n
  unfold boundsT
  rw [hn, e, List.map_append]
  exact ⟨_, rfl⟩
theorem bound_one {P : Int → Prop} {h w : Nat} {m1 m2 : List (List Int)} {kind : Str} (p1 : PicP P h w m1) (p2 : PicP P h w m2) : boundT h w m1 m2 kind 1 = farT m1 m2 kind := by
  unfold boundT
  rw [Nat.div_one, Nat.div_one, small_one p1, small_one p2]
theorem bounds_get {h w : Nat} {m1 m2 : List (List Int)} {kind : Str} {i : Nat} {x : Int × Int} (e : (boundsT h w m1 m2 kind)[i]? = some x) : ∃ s, s ∈ sizesT h w (min h w) ∧ x = (((s : Nat) : Int), boundT h w m1 m2 kind s) := by
  unfold boundsT at e
  obtain ⟨s, hs, rfl⟩ := map_get_inv e
  exact ⟨s, List.mem_of_getElem? hs, rfl⟩
end Ls
namespace Ls
open PySem PySem.Spec PyProof.Rows L2
def top (i : Nat) : Stmt := PySem.Challenge.pw_likeshelf_k06_whole_small_ones_bound.main.body.getD i (.Pass ⟨0, 0, 0, 0⟩)
abbrev s_copied : Stmt := top 4
abbrev s_mirrored : Stmt := top 5
abbrev s_turned : Stmt := top 6
abbrev s_moved : Stmt := top 7
abbrev s_small : Stmt := top 8
abbrev s_difference : Stmt := top 9
abbrev s_apart : Stmt := top 12
abbrev s_distance : Stmt := top 13
abbrev s_sizes_of : Stmt := top 14
abbrev s_bounds : Stmt := top 15
abbrev s__law_cell : Stmt := top 17
abbrev s__law_dice : Stmt := top 18
abbrev s__law_off : Stmt := top 19
abbrev s__law_cells : Stmt := top 20
abbrev s__law_frame : Stmt := top 21
abbrev s__law_ways : Stmt := top 22
abbrev s__law_moved : Stmt := top 23
abbrev s__law_sum_apart : Stmt := top 24
abbrev s__law_apart : Stmt := top 25
abbrev s__law_far : Stmt := top 26
abbrev s__law_near : Stmt := top 27
abbrev s__law_alike : Stmt := top 28
abbrev s__law_small : Stmt := top 29
abbrev s_law : Stmt := top 30
structure Tx (w : World) (K : PySem.W.Frag) (mg : Str → Option Value) : Prop where
  g_copied : mg "copied" = some (.ref (He.ga K "copied"))
  g_mirrored : mg "mirrored" = some (.ref (He.ga K "mirrored"))
  g_turned : mg "turned" = some (.ref (He.ga K "turned"))
  g_moved : mg "moved" = some (.ref (He.ga K "moved"))
  g_small : mg "small" = some (.ref (He.ga K "small"))
  g_difference : mg "difference" = some (.ref (He.ga K "difference"))
  g_apart : mg "apart" = some (.ref (He.ga K "apart"))
  g_distance : mg "distance" = some (.ref (He.ga K "distance"))
  g_sizes_of : mg "sizes_of" = some (.ref (He.ga K "sizes_of"))
  g_bounds : mg "bounds" = some (.ref (He.ga K "bounds"))
  g__law_cell : mg "_law_cell" = some (.ref (He.ga K "_law_cell"))
  g__law_dice : mg "_law_dice" = some (.ref (He.ga K "_law_dice"))
  g__law_off : mg "_law_off" = some (.ref (He.ga K "_law_off"))
  g__law_cells : mg "_law_cells" = some (.ref (He.ga K "_law_cells"))
  g__law_frame : mg "_law_frame" = some (.ref (He.ga K "_law_frame"))
  g__law_ways : mg "_law_ways" = some (.ref (He.ga K "_law_ways"))
  g__law_moved : mg "_law_moved" = some (.ref (He.ga K "_law_moved"))
  g__law_sum_apart : mg "_law_sum_apart" = some (.ref (He.ga K "_law_sum_apart"))
  g__law_apart : mg "_law_apart" = some (.ref (He.ga K "_law_apart"))
  g__law_far : mg "_law_far" = some (.ref (He.ga K "_law_far"))
  g__law_near : mg "_law_near" = some (.ref (He.ga K "_law_near"))
  g__law_alike : mg "_law_alike" = some (.ref (He.ga K "_law_alike"))
  g__law_small : mg "_law_small" = some (.ref (He.ga K "_law_small"))
  g_law : mg "law" = some (.ref (He.ga K "law"))
  g_LikeError : mg "LikeError" = some (.ref (He.ga K "LikeError"))
  g_BadPicture : mg "BadPicture" = some (.ref (He.ga K "BadPicture"))
  z_len : mg "len" = none
  z_range : mg "range" = none
  z_sum : mg "sum" = none
  z_list : mg "list" = none
  z_zip : mg "zip" = none
  z_abs : mg "abs" = none
  z_isinstance : mg "isinstance" = none
  z_min : mg "min" = none
  z_max : mg "max" = none
  z_all : mg "all" = none
  z_reversed : mg "reversed" = none
  z_int : mg "int" = none
  z_str : mg "str" = none
  z_bool : mg "bool" = none
  z_tuple : mg "tuple" = none
  z_dict : mg "dict" = none
  g_KINDS : mg "KINDS" = some (.ref (He.ga K "KINDS"))
  ex_BadPicture : PySem.W.excIn K (He.ga K "BadPicture") He.veBase "ValueError.__new__" = true ∧ PySem.W.keepIn K (.ref (He.ga K "BadPicture")) = true ∧ PySem.W.subIn K (.ref (He.ga K "BadPicture")) (.type "BaseException") = some true ∧ PySem.W.typeIn K (.ref (He.ga K "BadPicture")) = some (.type "type")
  em_BadPicture : PySem.W.exmOne K (.ref (He.ga K "BadPicture")) (.ref (He.ga K "LikeError")) = some true
  d_copied : ∃ fd, FunD K "copied" "copied" (defArgs s_copied) (defBody s_copied) (defScope s_copied) [] [] (He.fAd K ("copied", none)) fd
  d_mirrored : ∃ fd, FunD K "mirrored" "mirrored" (defArgs s_mirrored) (defBody s_mirrored) (defScope s_mirrored) [] [] (He.fAd K ("mirrored", none)) fd
  d_turned : ∃ fd, FunD K "turned" "turned" (defArgs s_turned) (defBody s_turned) (defScope s_turned) [] [] (He.fAd K ("turned", none)) fd
  d_moved : ∃ fd, FunD K "moved" "moved" (defArgs s_moved) (defBody s_moved) (defScope s_moved) [] [] (He.fAd K ("moved", none)) fd
  d_small : ∃ fd, FunD K "small" "small" (defArgs s_small) (defBody s_small) (defScope s_small) [] [] (He.fAd K ("small", none)) fd
  d_difference : ∃ fd, FunD K "difference" "difference" (defArgs s_difference) (defBody s_difference) (defScope s_difference) [] [] (He.fAd K ("difference", none)) fd
  d_apart : ∃ fd, FunD K "apart" "apart" (defArgs s_apart) (defBody s_apart) (defScope s_apart) [] [] (He.fAd K ("apart", none)) fd
  d_distance : ∃ fd, FunD K "distance" "distance" (defArgs s_distance) (defBody s_distance) (defScope s_distance) [] [] (He.fAd K ("distance", none)) fd
  d_sizes_of : ∃ fd, FunD K "sizes_of" "sizes_of" (defArgs s_sizes_of) (defBody s_sizes_of) (defScope s_sizes_of) [] [] (He.fAd K ("sizes_of", none)) fd
  d_bounds : ∃ fd, FunD K "bounds" "bounds" (defArgs s_bounds) (defBody s_bounds) (defScope s_bounds) [] [] (He.fAd K ("bounds", none)) fd
  d__law_cell : ∃ fd, FunD K "_law_cell" "_law_cell" (defArgs s__law_cell) (defBody s__law_cell) (defScope s__law_cell) [] [] (He.fAd K ("_law_cell", none)) fd
  d__law_dice : ∃ fd, FunD K "_law_dice" "_law_dice" (defArgs s__law_dice) (defBody s__law_dice) (defScope s__law_dice) [] [] (He.fAd K ("_law_dice", none)) fd
  d__law_off : ∃ fd, FunD K "_law_off" "_law_off" (defArgs s__law_off) (defBody s__law_off) (defScope s__law_off) [] [] (He.fAd K ("_law_off", none)) fd
  d__law_cells : ∃ fd, FunD K "_law_cells" "_law_cells" (defArgs s__law_cells) (defBody s__law_cells) (defScope s__law_cells) [] [] (He.fAd K ("_law_cells", none)) fd
  d__law_frame : ∃ fd, FunD K "_law_frame" "_law_frame" (defArgs s__law_frame) (defBody s__law_frame) (defScope s__law_frame) [] [] (He.fAd K ("_law_frame", none)) fd
  d__law_ways : ∃ fd, FunD K "_law_ways" "_law_ways" (defArgs s__law_ways) (defBody s__law_ways) (defScope s__law_ways) [] [] (He.fAd K ("_law_ways", none)) fd
  d__law_moved : ∃ fd, FunD K "_law_moved" "_law_moved" (defArgs s__law_moved) (defBody s__law_moved) (defScope s__law_moved) [] [] (He.fAd K ("_law_moved", none)) fd
  d__law_sum_apart : ∃ fd, FunD K "_law_sum_apart" "_law_sum_apart" (defArgs s__law_sum_apart) (defBody s__law_sum_apart) (defScope s__law_sum_apart) [] [] (He.fAd K ("_law_sum_apart", none)) fd
  d__law_apart : ∃ fd, FunD K "_law_apart" "_law_apart" (defArgs s__law_apart) (defBody s__law_apart) (defScope s__law_apart) [] [] (He.fAd K ("_law_apart", none)) fd
  d__law_far : ∃ fd, FunD K "_law_far" "_law_far" (defArgs s__law_far) (defBody s__law_far) (defScope s__law_far) [] [] (He.fAd K ("_law_far", none)) fd
  d__law_near : ∃ fd, FunD K "_law_near" "_law_near" (defArgs s__law_near) (defBody s__law_near) (defScope s__law_near) [] [] (He.fAd K ("_law_near", none)) fd
  d__law_alike : ∃ fd, FunD K "_law_alike" "_law_alike" (defArgs s__law_alike) (defBody s__law_alike) (defScope s__law_alike) [] [] (He.fAd K ("_law_alike", none)) fd
  d__law_small : ∃ fd, FunD K "_law_small" "_law_small" (defArgs s__law_small) (defBody s__law_small) (defScope s__law_small) [] [] (He.fAd K ("_law_small", none)) fd
  d_law : ∃ fd, FunD K "law" "law" (defArgs s_law) (defBody s_law) (defScope s_law) [] [] (He.fAd K ("law", none)) fd
  kd : ∀ q ∈ kindsTab, ∃ T, KDct K w (He.ga K "KINDS") q.1 (.ref T) ∧ ∀ F, Dt K F (.ref T) (dWays q.2)
/-! ### copied -/
def sp_copied (K : PySem.W.Frag) : Sp := fun vs H Q _ => ∃ (v : V) (m : List (List Int)), vs = [v] ∧ Dt K H v (dMat m) ∧ m.length ≤ 1000 ∧ ∀ p rs H', Same H H' → MatF H H' p rs m → Q (.ref p) H'
/-! ### mirrored -/
def sp_mirrored (K : PySem.W.Frag) : Sp := fun vs H Q _ => ∃ (v : V) (m : List (List Int)), vs = [v] ∧ Dt K H v (dMat m) ∧ m.length ≤ 1000 ∧ ∀ p rs H', Same H H' → MatF H H' p rs (mirT m) → Q (.ref p) H'
/-! ### turned -/
def sp_turned (K : PySem.W.Frag) : Sp := fun vs H Q _ => ∃ (v : V) (m : List (List Int)) (P : Int → Prop) (h w : Nat), vs = [v] ∧ Dt K H v (dMat m) ∧ PicP P h w m ∧ 1 ≤ h ∧ 1 ≤ w ∧ h ≤ 1000 ∧ w ≤ 1000 ∧ ∀ p rs H', Same H H' → MatF H H' p rs (turnT m) → Q (.ref p) H'
/-! ### moved -/
def sp_moved (K : PySem.W.Frag) : Sp := fun vs H Q _ => ∃ (v : V) (m : List (List Int)) (P : Int → Prop) (h w : Nat) (t s : Nat) (wy : Addr), vs = [v, .ref wy] ∧ SqT K H wy [.int t, .int s] ∧ Dt K H v (dMat m) ∧ PicP P h w m ∧ 1 ≤ h ∧ 1 ≤ w ∧ h ≤ 1000 ∧ w ≤ 1000 ∧ t ≤ 100 ∧
  ∀ p rs H', Same H H' → MatF H H' p rs (moveT m t s) → Q (.ref p) H'
/-! ### small -/
def sp_small (K : PySem.W.Frag) : Sp := fun vs H Q _ => ∃ (v : V) (m : List (List Int)) (P : Int → Prop) (a b s : Nat), vs = [v, .int s] ∧ Dt K H v (dMat m) ∧ PicP P (a * s) (b * s) m ∧ 1 ≤ a ∧ 1 ≤ b ∧ 1 ≤ s ∧ a * s ≤ 1000 ∧ b * s ≤ 1000 ∧
  ∀ p rs H', Same H H' → MatF H H' p rs (smallT a b s m) → Q (.ref p) H'
/-! ### difference -/
def sp_difference (K : PySem.W.Frag) : Sp := fun vs H Q _ => ∃ (v u : V) (m1 m2 : List (List Int)), vs = [v, u] ∧ Dt K H v (dMat m1) ∧ Dt K H u (dMat m2) ∧ m1.length ≤ 1000 ∧ (∀ r ∈ m1, r.length ≤ 1000) ∧ ∀ H', Same H H' → Q (.int (diffT m1 m2)) H'
/-! ### apart -/
def sp_apart (K : PySem.W.Frag) : Sp := fun vs H Q _ => ∃ (F : Hp) (v u : V) (m1 m2 : List (List Int)) (P : Int → Prop) (h w : Nat) (kind : Str), vs = [v, u, .str kind] ∧ Wd m0 F H ∧ Dt K F v (dMat m1) ∧ Dt K F u (dMat m2) ∧ PicP P h w m1 ∧ PicP P h w m2 ∧ 1 ≤ h ∧ 1 ≤ w ∧ h ≤ 1000 ∧ w ≤ 1000 ∧ KFit kind h w ∧
  ∀ y F' H', Gr m0 F H F' H' → Dt K F' y (dFar (apartT m1 m2 kind)) → Q y H'
/-! ### distance -/
def sp_distance (K : PySem.W.Frag) : Sp := fun vs H Q _ => ∃ (F : Hp) (v u : V) (m1 m2 : List (List Int)) (P : Int → Prop) (h w : Nat) (kind : Str), vs = [v, u, .str kind] ∧ Wd m0 F H ∧ Dt K F v (dMat m1) ∧ Dt K F u (dMat m2) ∧ PicP P h w m1 ∧ PicP P h w m2 ∧ 1 ≤ h ∧ 1 ≤ w ∧ h ≤ 1000 ∧ w ≤ 1000 ∧ KFit kind h w ∧
  ∀ H', Same H H' → Q (.int (farT m1 m2 kind)) H'
/-! ### sizes_of -/
def sp_sizes_of (K : PySem.W.Frag) : Sp := fun vs H Q _ => ∃ (F : Hp) (v : V) (m : List (List Int)) (P : Int → Prop) (h w : Nat), vs = [v] ∧ Wd m0 F H ∧ Dt K F v (dMat m) ∧ PicP P h w m ∧ 1 ≤ h ∧ 1 ≤ w ∧ h ≤ 1000 ∧ w ≤ 1000 ∧
  ∀ l F' H', Gr m0 F H F' H' → F' l = some (.lst ((sizesT h w (min h w)).map fun (s : Nat) => V.int s)) → Q (.ref l) H'
/-! ### bounds -/
def sp_bounds (K : PySem.W.Frag) : Sp := fun vs H Q _ => ∃ (F : Hp) (v u : V) (m1 m2 : List (List Int)) (P : Int → Prop) (h w : Nat) (kind : Str), vs = [v, u, .str kind] ∧ Wd m0 F H ∧ Dt K F v (dMat m1) ∧ Dt K F u (dMat m2) ∧ PicP P h w m1 ∧ PicP P h w m2 ∧ 1 ≤ h ∧ 1 ≤ w ∧ h ≤ 1000 ∧ w ≤ 1000 ∧ KFit kind h w ∧
  ∀ l F' H', Gr m0 F H F' H' → Dt K F' (.ref l) (.list ((boundsT h w m1 m2 kind).map dB)) → Q (.ref l) H'
/-! ### _law_cell -/
def sp__law_cell (K : PySem.W.Frag) : Sp := fun vs H Q _ => ∃ (a : Addr) (ns : List Int) (k : Nat), vs = [.ref a, .int k] ∧ SqL K H a (ns.map V.int) ∧ ∀ i : Int, Q (.int i) H
/-! ### _law_dice -/
def sp__law_dice (K : PySem.W.Frag) : Sp := fun vs H Q _ => ∃ (a : Addr) (ns : List Int), vs = [.ref a, .int 0] ∧ SqL K H a (ns.map V.int) ∧ ns.length ≤ 63 ∧ ∀ p ms H', Same H H' → H p = none → H' p = some (.lst (ms.map V.int)) → DiceL ms → Q (.ref p) H'
/-! ### _law_off -/
def sp__law_off (K : PySem.W.Frag) : Sp := fun vs H Q _ => ∃ (d : Addr) (n : Int), vs = [.ref d, .int n] ∧ Dice H d ∧ 1 ≤ n ∧ n ≤ 1000000 ∧ ∀ (i : Int) (ms : List Int), 0 ≤ i → i < n → DiceL ms → Q (.int i) (upd H d (.lst (ms.map V.int)))
/-- the draw behind the first step -/
theorem dice_set {ms : List Int} {i : Nat} {x : Int} (h : DiceL ms) (hx : 0 ≤ x) : DiceL (ms.set i x) := by
  refine ⟨by rw [List.length_set]; exact h.1, by rw [List.length_set]; exact h.2.1, fun y hy => ?_⟩
  rcases List.mem_or_eq_of_mem_set hy with hy | rfl
  · exact h.2.2 y hy
  · exact hx
theorem dice_pop {a b c : Int} {r : List Int} (h : DiceL (a :: b :: c :: r)) : DiceL (a :: c :: r) := by
  refine ⟨?_, ?_, fun y hy => h.2.2 y ?_⟩
  · show 2 ≤ (a :: c :: r).length
    rw [List.length_cons, List.length_cons]
    omega
  · have := h.2.1
    simp only [List.length_cons] at *
    omega
  · rcases List.mem_cons.mp hy with rfl | hy
    · exact List.mem_cons_self
    · exact List.mem_cons_of_mem _ (List.mem_cons_of_mem _ hy)
/-- the rest of a draw -/
theorem off_two {x0 x1 : Int} {r : List Int} (h : DiceL (x0 :: x1 :: r)) : 0 ≤ x0 ∧ 0 ≤ x1 := ⟨h.2.2 _ List.mem_cons_self, h.2.2 _ (List.mem_cons_of_mem _ List.mem_cons_self)⟩
theorem dice_cases {ms : List Int} (h : DiceL ms) : ∃ x0 x1 r, ms = x0 :: x1 :: r := by
  match ms, h with
  | x0 :: x1 :: r, _ => exact ⟨x0, x1, r, rfl⟩
  | [_], h => exact absurd h.1 (by simp)
  | [], h => exact absurd h.1 (by simp)
/-! ### _law_cells -/
def sp__law_cells (K : PySem.W.Frag) : Sp := fun vs H Q _ => ∃ (F : Hp) (d : Addr) (h w : Nat), vs = [.ref d, .int h, .int w] ∧ Wd (mD d) F H ∧ h ≤ 100 ∧ w ≤ 100 ∧ ∀ v m F' H', Gr (mD d) F H F' H' → PicHW h w m → Dt K F' v (dMat m) → Q v H'
/-! ### _law_frame -/
def sp__law_frame (K : PySem.W.Frag) : Sp := fun vs H Q _ => ∃ (F : Hp) (d : Addr), vs = [.ref d] ∧ Wd (mD d) F H ∧ ∀ T F' H' (h w : Nat) (kind : Str), Gr (mD d) F H F' H' → SqT K F' T [.int h, .int w, .str kind] → 1 ≤ h → h ≤ 16 → 1 ≤ w → w ≤ 16 → KFit kind h w → Q (.ref T) H'
/-! ### _law_ways -/
def sp__law_ways (K : PySem.W.Frag) : Sp := fun vs H Q _ => ∃ (F : Hp) (kind : Str), vs = [.str kind] ∧ Wd m0 F H ∧ IsKind kind ∧ ∀ a ys F' H', Gr m0 F H F' H' → F' a = some (.lst ys) → DtAll K F' ys ((waysT kind).map dWay) → Q (.ref a) H'
/-! ### _law_moved -/
def sp__law_moved (K : PySem.W.Frag) : Sp := fun vs H Q _ => ∃ (v : V) (m : List (List Int)) (P : Int → Prop) (h w : Nat) (t s : Nat) (wy : Addr), vs = [v, .ref wy] ∧ SqT K H wy [.int t, .int s] ∧ Dt K H v (dMat m) ∧ PicP P h w m ∧ 1 ≤ h ∧ 1 ≤ w ∧ h ≤ 1000 ∧ w ≤ 1000 ∧ t ≤ 100 ∧
  ∀ p rs H', Same H H' → MatF H H' p rs (moveT m t s) → Q (.ref p) H'
/-! ### _law_sum_apart -/
def sp__law_sum_apart (K : PySem.W.Frag) : Sp := fun vs H Q _ => ∃ (v u : V) (m1 m2 : List (List Int)) (P : Int → Prop) (h w : Nat), vs = [v, u] ∧ Dt K H v (dMat m1) ∧ Dt K H u (dMat m2) ∧ PicP P h w m1 ∧ PicP P h w m2 ∧ h ≤ 1000 ∧ w ≤ 1000 ∧ ∀ H', Same H H' → Q (.int (diffT m1 m2)) H'
/-! ### _law_apart -/
def sp__law_apart (K : PySem.W.Frag) : Sp := fun vs H Q _ => ∃ (F : Hp) (v u : V) (m1 m2 : List (List Int)) (P : Int → Prop) (h w : Nat) (kind : Str), vs = [v, u, .str kind] ∧ Wd m0 F H ∧ Dt K F v (dMat m1) ∧ Dt K F u (dMat m2) ∧ PicP P h w m1 ∧ PicP P h w m2 ∧ 1 ≤ h ∧ 1 ≤ w ∧ h ≤ 1000 ∧ w ≤ 1000 ∧ KFit kind h w ∧
  ∀ y F' H', Gr m0 F H F' H' → Dt K F' y (dFar (apartT m1 m2 kind)) → Q y H'
/-! ### _law_far -/
def sp__law_far (K : PySem.W.Frag) : Sp := fun vs H Q _ => ∃ (F : Hp) (v u : V) (m1 m2 : List (List Int)) (P : Int → Prop) (h w : Nat) (kind : Str), vs = [v, u, .str kind] ∧ Wd m0 F H ∧ Dt K F v (dMat m1) ∧ Dt K F u (dMat m2) ∧ PicP P h w m1 ∧ PicP P h w m2 ∧ 1 ≤ h ∧ 1 ≤ w ∧ h ≤ 1000 ∧ w ≤ 1000 ∧ KFit kind h w ∧
  ∀ H', Same H H' → Q (.int (farT m1 m2 kind)) H'
/-! ### _law_near -/
def sp__law_near (K : PySem.W.Frag) : Sp := fun vs H Q _ => ∃ (F : Hp) (d : Addr) (v : V) (m : List (List Int)) (h w : Nat) (kind : Str), vs = [.ref d, v, .str kind] ∧ Wd (mD d) F H ∧ Dt K F v (dMat m) ∧ PicHW h w m ∧ 1 ≤ h ∧ 1 ≤ w ∧ h ≤ 100 ∧ w ≤ 100 ∧ KFit kind h w ∧
  ∀ y m' F' H', Gr (mD d) F H F' H' → PicHW h w m' → Dt K F' y (dMat m') → Q y H'
/-! ### _law_alike -/
def sp_alikeN (K : PySem.W.Frag) (n : Nat) : Sp := fun vs H Q _ => ∃ (v u : V) (d : PyData), vs = [v, u] ∧ Dt K H v d ∧ Dt K H u d ∧ fine d = true ∧ d.depth < n ∧ ∀ H', Same H H' → Q (.bl true) H'
abbrev sp__law_alike (K : PySem.W.Frag) : Sp := sp_alikeN K 200
/-- the last two statements -/
theorem alike_seq {K : PySem.W.Frag} {n : Nat} {H : Hp} {Q : VK} {a b : Addr} {xs ys : List V} {ds : List PyData} (hx : SqL K H a xs ∨ SqT K H a xs) (hy : SqL K H b ys ∨ SqT K H b ys) (dx : DtAll K H xs ds) (dy : DtAll K H ys ds) (nd : (decide (ds.length ≤ 1000) && fines ds) = true) (hd : PyData.depthAll ds < n)
    (q : ∀ H', Same H H' → Q (.bl true) H') :
    tSeq (tIfS (tTest (tOp rNe (tCB (rLenQ K) (tCons (tVar 0) tNil)) (tCB (rLenQ K) (tCons (tVar 1) tNil)))) (tRet (tC (V.bl false))) tNext)
      (tRet (tCB (rAll K) (tCons (tLc (iRng1 (tCons (tCB (rLenQ K) (tCons (tVar 1) tNil)) tNil)) (gName 3) tYes
        (tCall (sp_alikeN K n) [] E0 (tCons (tOp (fun x y H Q => rIxL K x y H Q ∨ rIxT K x y H Q) (tVar 0) (tVar 3)) (tCons (tOp (fun x y H Q => rIxL K x y H Q ∨ rIxT K x y H Q) (tVar 1) (tVar 3)) tNil))) [3]) tNil)))
      { nx := fun x H' => Q V.non H', rt := Q } [some (.ref a), some (.ref b), none, none] H := by
  obtain ⟨nl, nd⟩ := Bool.and_eq_true_iff.mp nd
  have hz := of_decide_eq_true nl
  have lx := dtAll_len dx
  have ly := dtAll_len dy
  refine ⟨.ref a, rfl, a, xs, rfl, hx, .ref b, rfl, b, ys, rfl, hy, rfl, _, rfl, ?_⟩
  rw [show decide (V.int (xs.length : Int) = V.int (ys.length : Int)) = true by rw [lx, ly]; exact decide_eq_true rfl]
  refine iteF ?_
  dsimp only [tRet, tCB, tCons, tNext]
  refine lc_of ?_
  refine ⟨.ref b, rfl, b, ys, rfl, hy, _, rfl, by omega, by omega, ?_⟩
  have e1 : ((ys.length : Nat) : Int).toNat = ys.length := by omega
  rw [e1]
  refine comp_range (m := m0) (F := H) (wd0 (Same.refl H)) (by omega) (fun _ y _ => y = .bl true) (fun _ _ _ _ _ h => h) (by exact fun _ => rfl) ?_ ?_
  · intro i F1 H1 hi g Q1 k1
    have ei : (0 : Int) + (i : Int) = ((i : Nat) : Int) := by omega
    rw [ei]
    have s : Same H H1 := fun b o z => g.h b o (fun y => y) z
    have gd : ds[i]? = some (ds[i]'(by omega)) := List.getElem?_eq_getElem (by omega)
    generalize ds[i]'(by omega) = d at gd
    obtain ⟨x, x1, x2⟩ := dtAll_get dx gd
    obtain ⟨y, y1, y2⟩ := dtAll_get dy gd
    have ix : ∀ (zs : List V) (c : Addr) (z : V) (Qz : VK), (SqL K H c zs ∨ SqT K H c zs) → zs[i]? = some z → Qz z H1 → rIxL K (.ref c) (.int i) H1 Qz ∨ rIxT K (.ref c) (.int i) H1 Qz := by
      intro zs c z Qz h1 h2 h3
      rcases h1 with h1 | h1
      · exact .inl ⟨c, zs, i, z, rfl, rfl, s.seq h1, atI_of h2, h3⟩
      · exact .inr ⟨c, zs, i, z, rfl, rfl, Evl.ex_t s h1, atI_of h2, h3⟩
    refine ⟨.ref a, rfl, _, rfl, ix xs a x _ hx x1 ⟨.ref b, rfl, _, rfl, ix ys b y _ hy y1 ⟨x, y, d, rfl, x2.up s, y2.up s, fines_get nd gd, Nat.lt_of_le_of_lt (depthAll_get gd) hd, fun H2 s2 => ?_⟩⟩⟩
    exact k1 _ F1 H2 (Gr.pure (g.wd (wd0 (Same.refl H))) s2) rfl
  · intro D zs F2 H2 hD g e pr
    have ez := paired_trues pr
    have e2 := g.s D _ e
    rw [ez] at e2
    refine ⟨D, _, rfl, sql_of e2, ?_⟩
    rw [all_trues]
    exact q H2 fun b o z => g.h b o (fun y => y) z
/-! ### _law_small -/
def sp__law_small (K : PySem.W.Frag) : Sp := fun vs H Q _ => ∃ (v : V) (m : List (List Int)) (P : Int → Prop) (a b s : Nat), vs = [v, .int s] ∧ Dt K H v (dMat m) ∧ PicP P (a * s) (b * s) m ∧ 1 ≤ a ∧ 1 ≤ b ∧ 1 ≤ s ∧ a * s ≤ 1000 ∧ b * s ≤ 1000 ∧
  ∀ p rs H', Same H H' → MatF H H' p rs (smallT a b s m) → Q (.ref p) H'
/-! ### law -/
def sp_law (K : PySem.W.Frag) : Sp := fun vs H Q _ => ∃ (a : Addr) (ns : List Int), vs = [.ref a] ∧ SqL K H a (ns.map V.int) ∧ ns.length ≤ 63 ∧ ∀ H', Q (.bl true) H'
theorem sc_copied : FnScope ["rows", "row"] ["rows"] (defScope s_copied) := ⟨rfl, rfl, rfl, by decide +kernel, rfl, by decide +kernel, by decide +kernel⟩
theorem has_copied {P : Program} {w : World} {K : PySem.W.Frag} {mg : Str → Option Value} {base : Heap} {k : Nat} (T : Tx w K mg)  : Has P w K mg base (k + 1) "copied" ["rows"] (sp_copied K) := by
  obtain ⟨fd, F⟩ := T.d_copied
  refine ⟨_, fd, ?_, T.g_copied, F.kp, F.bindsN fun _ _ _ _ _ _ us hl => match us, hl with | [_], _ => rfl⟩
  refine F.ok sc_copied (fun vs H Q E h => ?_) (fun cdv A outer s H vs Q E hr h => ?_)
  ·
    repeat first | (obtain ⟨rfl, _⟩ := h; rfl) | (obtain ⟨_, h⟩ := h)
  · have hu := hu_room hr
    refine ⟨_, PSs.nox ((pss_one (ps_ret (pe_lc (own := [("row", 1)]) (by rfl) sc_copied.nd (pi_listQ (K := K) rfl (pv 0)) (blkOk_by (N := ["rows", "row"]) (sc := defScope s_copied) (by decide +kernel)) (fun _ _ _ _ _ => (pg_name (i := 1) sc_copied.nd rfl (by first | exact Or.inl rfl | exact Or.inr rfl))) (fun _ _ _ _ _ => pts_nil) (fun _ _ _ _ _ => (pe_callTy (lstQ (K := K) rfl) (by rfl) T.z_list (by decide +kernel) (pa_cons (pv 1) pa_nil))))))), ?_⟩
    obtain ⟨v, m, rfl, hd, hm, q⟩ := h
    obtain ⟨a, xs, rfl, hS, hl, hrow⟩ := dt_mat hd
    dsimp only [tRet]
    refine lc_of ?_
    refine ⟨.ref a, rfl, a, rfl, ⟨_, sql_of hS⟩, comp_matL (m := m0) (F := H) (wd0 (Same.refl H)) m hl.symm (sql_of hS) (by omega) (fun r => r) (by exact fun _ => rfl) ?_ ?_⟩
    · intro i r x H1 hi hx g Q1 k1
      obtain ⟨b, hb1, hb2⟩ := hrow i r hi
      rw [hx] at hb1
      cases hb1
      have w1 := g.wd (wd0 (Same.refl H))
      exact ⟨.ref b, rfl, b, _, rfl, .inl (sql_of (g.s _ _ hb2)), fun l hl => k1 l _ hl (Gr.pure w1 (same_new hl)) upd_same⟩
    · intro D rs H2 g M
      rw [List.map_id'] at M
      exact q D rs H2 g.s M
theorem sc_mirrored : FnScope ["rows", "row"] ["rows"] (defScope s_mirrored) := ⟨rfl, rfl, rfl, by decide +kernel, rfl, by decide +kernel, by decide +kernel⟩
theorem has_mirrored {P : Program} {w : World} {K : PySem.W.Frag} {mg : Str → Option Value} {base : Heap} {k : Nat} (T : Tx w K mg)  : Has P w K mg base (k + 1) "mirrored" ["rows"] (sp_mirrored K) := by
  obtain ⟨fd, F⟩ := T.d_mirrored
  refine ⟨_, fd, ?_, T.g_mirrored, F.kp, F.bindsN fun _ _ _ _ _ _ us hl => match us, hl with | [_], _ => rfl⟩
  refine F.ok sc_mirrored (fun vs H Q E h => ?_) (fun cdv A outer s H vs Q E hr h => ?_)
  ·
    repeat first | (obtain ⟨rfl, _⟩ := h; rfl) | (obtain ⟨_, h⟩ := h)
  · have hu := hu_room hr
    refine ⟨_, PSs.nox ((pss_one (ps_ret (pe_lc (own := [("row", 1)]) (by rfl) sc_mirrored.nd (pi_listQ (K := K) rfl (pv 0)) (blkOk_by (N := ["rows", "row"]) (sc := defScope s_mirrored) (by decide +kernel)) (fun _ _ _ _ _ => (pg_name (i := 1) sc_mirrored.nd rfl (by first | exact Or.inl rfl | exact Or.inr rfl))) (fun _ _ _ _ _ => pts_nil) (fun _ _ _ _ _ => (pe_lstRev (K := K) rfl rfl (by rfl) T.z_list (by rfl) T.z_reversed (pv 1))))))), ?_⟩
    obtain ⟨v, m, rfl, hd, hm, q⟩ := h
    obtain ⟨a, xs, rfl, hS, hl, hrow⟩ := dt_mat hd
    dsimp only [tRet]
    refine lc_of ?_
    refine ⟨.ref a, rfl, a, rfl, ⟨_, sql_of hS⟩, comp_matL (m := m0) (F := H) (wd0 (Same.refl H)) m hl.symm (sql_of hS) (by omega) List.reverse (by exact fun _ => rfl) ?_ ?_⟩
    · intro i r x H1 hi hx g Q1 k1
      obtain ⟨b, hb1, hb2⟩ := hrow i r hi
      rw [hx] at hb1
      cases hb1
      have w1 := g.wd (wd0 (Same.refl H))
      exact ⟨.ref b, rfl, b, _, rfl, sql_of (g.s _ _ hb2), fun l hl => k1 l _ hl (Gr.pure w1 (same_new hl)) (by rw [upd_same, List.map_reverse])⟩
    · intro D rs H2 g M
      exact q D rs H2 g.s M
theorem sc_turned : FnScope ["rows", "wide", "row", "k"] ["rows"] (defScope s_turned) := ⟨rfl, rfl, rfl, by decide +kernel, rfl, by decide +kernel, by decide +kernel⟩
theorem has_turned {P : Program} {w : World} {K : PySem.W.Frag} {mg : Str → Option Value} {base : Heap} {k : Nat} (T : Tx w K mg)  : Has P w K mg base (k + 1) "turned" ["rows"] (sp_turned K) := by
  obtain ⟨fd, F⟩ := T.d_turned
  refine ⟨_, fd, ?_, T.g_turned, F.kp, F.bindsN fun _ _ _ _ _ _ us hl => match us, hl with | [_], _ => rfl⟩
  refine F.ok sc_turned (fun vs H Q E h => ?_) (fun cdv A outer s H vs Q E hr h => ?_)
  ·
    repeat first | (obtain ⟨rfl, _⟩ := h; rfl) | (obtain ⟨_, h⟩ := h)
  · have hu := hu_room hr
    refine ⟨_, PSs.nox ((pss_cons (ps_set (i := 1) sc_turned.nd rfl (by first | exact Or.inl rfl | exact Or.inr rfl) (pe_callB (lenQ (K := K) rfl) (by rfl) T.z_len (by decide +kernel) (pa_cons (pe_ix (ixL (K := K) rfl) (pv 0) pe_int (fun _ _ => rfl)) pa_nil)))
    (pss_one (ps_ret (pe_lc (own := [("k", 3)]) (by rfl) sc_turned.nd (pi_range1 (by rfl) T.z_range (pa_cons (pv 1) pa_nil)) (blkOk_by (N := ["rows", "wide", "row", "k"]) (sc := defScope s_turned) (by decide +kernel)) (fun _ _ _ _ _ => (pg_name (i := 3) sc_turned.nd rfl (by first | exact Or.inl rfl | exact Or.inr rfl))) (fun _ _ _ _ _ => pts_nil) (fun _ _ _ _ _ => (pe_lc (own := [("row", 2)]) (by rfl) sc_turned.nd (pi_listQ (K := K) rfl (pv 0)) (blkOk_by (by kernel_rfl)) (fun _ _ _ _ _ => (pg_name (i := 2) sc_turned.nd rfl (by first | exact Or.inl rfl | exact Or.inr rfl))) (fun _ _ _ _ _ => pts_nil) (fun _ _ _ _ _ => (pe_ix (ixL (K := K) rfl) (pv 2) (pe_op op_sub (pe_op op_sub (pv 1) pe_int) (pv 3)) (fun _ _ => rfl)))))))))), ?_⟩
    obtain ⟨v, m, Pc, hh, ww, rfl, hd, hp, h1, w1, h2, w2, q⟩ := h
    obtain ⟨a, xs, rfl, hS, hl, hrow⟩ := dt_mat hd
    have hml := hp.hi
    have hhead := hp.head h1
    have hm0 : m[0]? = some (m[0]'(by omega)) := List.getElem?_eq_getElem (by omega)
    obtain ⟨b0, hc1, hc2⟩ := hrow 0 _ hm0
    have hw0 : (m[0]'(by omega)).length = ww := hp.wi _ (List.getElem_mem _)
    refine ⟨.ref a, rfl, a, _, 0, _, rfl, rfl, sql_of hS, atI_nat (j := 0) hc1, b0, _, rfl, .inl (sql_of hc2), ?_⟩
    rw [List.length_map, hw0]
    dsimp only [gName, tRet]
    refine lc_of ?_
    refine ⟨_, rfl, ww, rfl, by omega, by omega, comp_matR (m := m0) (F := H) (n := ww) (wd0 (Same.refl H)) (by omega) (fun k => m.map fun r => r.getD (ww - 1 - k) 0) (by exact fun _ => rfl) ?_ ?_⟩
    · intro k H1 hk g Q1 k1
      have ek : (0 : Int) + (k : Int) = ((k : Nat) : Int) := by omega
      rw [ek]
      have wd1 := g.wd (wd0 (Same.refl H))
      refine lc_of ?_
      refine ⟨.ref a, rfl, a, rfl, ⟨_, sql_of (g.s _ _ hS)⟩, comp_list (m := m0) (F := H) wd1 m hl.symm (sql_of hS) (by omega) (fun r y _ => y = .int (r.getD (ww - 1 - k) 0)) (fun _ _ _ _ _ h => h) (by exact fun _ => rfl) ?_ ?_⟩
      · intro i r x F2 H2 hi hx g2 Q2 k2
        obtain ⟨b, hb1, hb2⟩ := hrow i r hi
        rw [hx] at hb1
        cases hb1
        have hrl := hp.wi r (List.mem_of_getElem? hi)
        have hk2 : ww - 1 - k < r.length := by omega
        refine ⟨.ref b, rfl, .int ww, rfl, ww, 1, rfl, rfl, .int k, rfl, _, k, rfl, rfl, b, _, ((ww - 1 - k : Nat) : Int), _, rfl, ?_, sql_of (g2.s _ _ (g2.f _ _ hb2)), atI_of (map_get (List.getElem?_eq_getElem hk2)), ?_⟩
        · show V.int ((ww : Int) - 1 - (k : Int)) = V.int ((ww - 1 - k : Nat) : Int)
          congr 1
          omega
        · refine k2 _ F2 H2 (Gr.refl (g2.wd wd1)) ?_
          rw [getD_get (List.getElem?_eq_getElem hk2)]
      · intro D ys F2 H2 hD g2 e pr
        have ey := paired_eq (f := fun r : List Int => V.int (r.getD (ww - 1 - k) 0)) pr
        refine k1 D H2 hD (Gr.pure wd1 fun b o z => g2.h b o (fun y => y) z) ?_
        rw [g2.s _ _ e, ey, List.map_map]
        rfl
    · intro D rs H2 g M
      refine q D rs H2 g.s ?_
      unfold turnT
      rw [hhead]
      exact M
theorem sc_moved : FnScope ["rows", "way", "turns", "is_mirrored", "found", "turn"] ["rows", "way"] (defScope s_moved) := ⟨rfl, rfl, rfl, by decide +kernel, rfl, by decide +kernel, by decide +kernel⟩
theorem has_moved {P : Program} {w : World} {K : PySem.W.Frag} {mg : Str → Option Value} {base : Heap} {k : Nat} (T : Tx w K mg) (G_turned : Has P w K mg base (k) "turned" ["rows"] (sp_turned K)) (G_mirrored : Has P w K mg base (k) "mirrored" ["rows"] (sp_mirrored K)) (G_copied : Has P w K mg base (k) "copied" ["rows"] (sp_copied K)) : Has P w K mg base (k + 1) "moved" ["rows", "way"] (sp_moved K) := by
  obtain ⟨fd, F⟩ := T.d_moved
  refine ⟨_, fd, ?_, T.g_moved, F.kp, F.bindsN fun _ _ _ _ _ _ us hl => match us, hl with | [_, _], _ => rfl⟩
  refine F.ok sc_moved (fun vs H Q E h => ?_) (fun cdv A outer s H vs Q E hr h => ?_)
  ·
    repeat first | (obtain ⟨rfl, _⟩ := h; rfl) | (obtain ⟨_, h⟩ := h)
  · have hu := hu_room hr
    refine ⟨_, PSs.nox ((pss_cons (ps_asg (pv 1) (pg_tupQ (K := K) (n := 2) rfl rfl (pgs_cons (pg_name (i := 2) sc_moved.nd rfl (by first | exact Or.inl rfl | exact Or.inr rfl)) (pgs_cons (pg_name (i := 3) sc_moved.nd rfl (by first | exact Or.inl rfl | exact Or.inr rfl)) pgs_nil))))
    (pss_cons (ps_set (i := 4) sc_moved.nd rfl (by first | exact Or.inl rfl | exact Or.inr rfl) (pe_ifExp (pt_cmpR op_eq (pv 3) pe_int (nomark _)) (pe_fn G_mirrored hr (by rfl) (pa_cons (pv 0) pa_nil)) (pe_fn G_copied hr (by rfl) (pa_cons (pv 0) pa_nil))))
    (pss_cons (ps_for PassesOwn.never rfl (pi_range1 (by rfl) T.z_range (pa_cons (pv 2) pa_nil)) (pg_name (i := 5) sc_moved.nd rfl (by first | exact Or.inl rfl | exact Or.inr rfl)) (pss_one (ps_set (i := 4) sc_moved.nd rfl (by first | exact Or.inl rfl | exact Or.inr rfl) (pe_fn G_turned hr (by rfl) (pa_cons (pv 4) pa_nil)))))
    (pss_one (ps_ret (pv 4))))))), ?_⟩
    obtain ⟨v, m, Pc, hh, ww, t, s, wy, rfl, hT, hd, hp, h1, w1, h2, w2, t2, q⟩ := h
    refine ⟨.ref wy, rfl, wy, _, rfl, hT, rfl, _, _, rfl, _, _, rfl, rfl, ?_⟩
    have hml := hp.hi
    -- behind the first copy
    have rest : ∀ (p : Addr) (rs : List Addr) (H1 : Hp) (b : List (List Int)), Same H H1 → MatF H H1 p rs b → (∀ n, (n % 2 = 0 → PicP Pc hh ww (turnsT n b)) ∧ (n % 2 = 1 → PicP Pc ww hh (turnsT n b))) → turnsT t b = moveT m t s →
        tSeq (tFor (iRng1 (tCons (tVar 2) tNil)) (gName 5) (tAsg (tCall (sp_turned K) [] E0 (tCons (tVar 4) tNil)) (gName 4))) (tRet (tVar 4)) { nx := fun x H' => Q V.non H', rt := Q } [some v, some (.ref wy), some (.int t), some (.int s), some (.ref p), none] H1 := by
      intro p rs H1 b s1 M hb et
      try dsimp only [tSeq]
      refine for_of ?_
      refine ⟨_, rfl, t, rfl, by omega, by omega, ?_⟩
      have e1 : ((t : Nat) : Int).toNat = t := by omega
      rw [e1]
      refine forin_range (fun i σ H' => ∃ y p rs, σ = [some v, some (.ref wy), some (.int t), some (.int s), some (.ref p), y] ∧ Same H H' ∧ MatF H H' p rs (turnsT i b)) ⟨_, p, rs, rfl, s1, M⟩ ?_ ?_
      · rintro i σ H' hi ⟨y, p, rs, rfl, s2, M2⟩
        have hcase : ∃ h w, PicP Pc h w (turnsT i b) ∧ 1 ≤ h ∧ 1 ≤ w ∧ h ≤ 1000 ∧ w ≤ 1000 := by
          by_cases e : i % 2 = 0
          · exact ⟨hh, ww, (hb i).1 e, h1, w1, h2, w2⟩
          · exact ⟨ww, hh, (hb i).2 (by omega), w1, h1, w2, h2⟩
        obtain ⟨h', w', hp', a1, a2, a3, a4⟩ := hcase
        exact ⟨_, rfl, _, _, Pc, h', w', rfl, M2.dp, hp', a1, a2, a3, a4, fun p2 rs2 H2 s3 M3 => ⟨_, p2, rs2, rfl, s2.trans s3, M3.back s2⟩⟩
      · rintro σ H' ⟨y, p, rs, rfl, s2, M2⟩
        refine ⟨_, rfl, q p rs H' s2 ?_⟩
        rw [← et]
        exact M2
    refine ⟨.int s, rfl, rfl, _, rfl, ite2 (fun e => ?_) (fun e => ?_)⟩
    · have e1 : s = 1 := by
        have := V.int.inj (of_decide_eq_true e)
        omega
      refine ⟨v, rfl, v, m, rfl, hd, by omega, fun p rs H1 s1 M => ?_⟩
      refine rest p rs H1 (mirT m) s1 M (turns_hw (mir_hw hp) h1 w1) ?_
      unfold moveT
      rw [if_pos e1]
    · have e1 : ¬ s = 1 := fun z => e (decide_eq_true (by rw [z]; rfl))
      refine ⟨v, rfl, v, m, rfl, hd, by omega, fun p rs H1 s1 M => ?_⟩
      refine rest p rs H1 m s1 M (turns_hw hp h1 w1) ?_
      unfold moveT
      rw [if_neg e1]
theorem sc_small : FnScope ["rows", "size", "found", "at", "row", "k", "line"] ["rows", "size"] (defScope s_small) := ⟨rfl, rfl, rfl, by decide +kernel, rfl, by decide +kernel, by decide +kernel⟩
theorem has_small {P : Program} {w : World} {K : PySem.W.Frag} {mg : Str → Option Value} {base : Heap} {k : Nat} (T : Tx w K mg)  : Has P w K mg base (k + 1) "small" ["rows", "size"] (sp_small K) := by
  obtain ⟨fd, F⟩ := T.d_small
  refine ⟨_, fd, ?_, T.g_small, F.kp, F.bindsN fun _ _ _ _ _ _ us hl => match us, hl with | [_, _], _ => rfl⟩
  refine F.ok sc_small (fun vs H Q E h => ?_) (fun cdv A outer s H vs Q E hr h => ?_)
  ·
    repeat first | (obtain ⟨rfl, _⟩ := h; rfl) | (obtain ⟨_, h⟩ := h)
  · have hu := hu_room hr
    refine ⟨_, PSs.nox ((pss_cons (ps_if (PW.pt (pw_or (pt_cmpR op_lt (pv 1) pe_int (nomark _)) (pw_or (pt_cmpR op_ne (pe_op op_mod (pe_callB (lenQ (K := K) rfl) (by rfl) T.z_len (by decide +kernel) (pa_cons (pv 0) pa_nil)) (pv 1)) pe_int (nomark _)) (pw_or1 (pt_cmpR op_ne (pe_op op_mod (pe_callB (lenQ (K := K) rfl) (by rfl) T.z_len (by decide +kernel) (pa_cons (pe_ix (ixL (K := K) rfl) (pv 0) pe_int (fun _ _ => rfl)) pa_nil)) (pv 1)) pe_int (nomark _)))))) (pss_one ps_never) pss_nil)
    (pss_cons (ps_set (i := 2) sc_small.nd rfl (by first | exact Or.inl rfl | exact Or.inr rfl) (pe_lst pa_nil))
    (pss_cons (ps_for PassesOwn.never rfl (pi_range3 (by rfl) T.z_range (pa_cons pe_int (pa_cons (pe_callB (lenQ (K := K) rfl) (by rfl) T.z_len (by decide +kernel) (pa_cons (pv 0) pa_nil)) (pa_cons (pv 1) pa_nil)))) (pg_name (i := 3) sc_small.nd rfl (by first | exact Or.inl rfl | exact Or.inr rfl)) (pss_cons (ps_set (i := 4) sc_small.nd rfl (by first | exact Or.inl rfl | exact Or.inr rfl) (pe_lst pa_nil))
    (pss_cons (ps_for PassesOwn.never rfl (pi_range3 (by rfl) T.z_range (pa_cons pe_int (pa_cons (pe_callB (lenQ (K := K) rfl) (by rfl) T.z_len (by decide +kernel) (pa_cons (pe_ix (ixL (K := K) rfl) (pv 0) pe_int (fun _ _ => rfl)) pa_nil)) (pa_cons (pv 1) pa_nil)))) (pg_name (i := 5) sc_small.nd rfl (by first | exact Or.inl rfl | exact Or.inr rfl)) (pss_one (ps_expr (pe_bmQ (K := K) rfl PySem.F.plainAttrs_list PySem.F.slot_list_append PySem.F.type_list_append mt_append (pv 4) (pa_cons (pe_callB (sumQ (K := K) rfl rfl) (by rfl) T.z_sum (by decide +kernel) (pa_cons (pe_lc (own := [("line", 6)]) (by rfl) sc_small.nd (pi_listQ (K := K) rfl (pe_slice (slL (K := K) rfl) (pv 0) (po_some (pv 3)) (po_some (pe_op op_add (pv 3) (pv 1))))) (blkOk_by (N := ["rows", "size", "found", "at", "row", "k", "line"]) (sc := defScope s_small) (by decide +kernel)) (fun _ _ _ _ _ => (pg_name (i := 6) sc_small.nd rfl (by first | exact Or.inl rfl | exact Or.inr rfl))) (fun _ _ _ _ _ => pts_nil) (fun _ _ _ _ _ => (pe_callB (sumQ (K := K) rfl rfl) (by rfl) T.z_sum (by decide +kernel) (pa_cons (pe_slice (slL (K := K) rfl) (pv 6) (po_some (pv 5)) (po_some (pe_op op_add (pv 5) (pv 1)))) pa_nil)))) pa_nil)) pa_nil)))))
    (pss_one (ps_expr (pe_bmQ (K := K) rfl PySem.F.plainAttrs_list PySem.F.slot_list_append PySem.F.type_list_append mt_append (pv 2) (pa_cons (pv 4) pa_nil)))))))
    (pss_one (ps_ret (pv 2))))))), ?_⟩
    obtain ⟨v, m, Pc, aa, bb, z, rfl, hv, hp, a1, b1, s1, ha, hb, q⟩ := h
    obtain ⟨A0, xs, rfl, hS, hl, hrow⟩ := dt_mat hv
    have hml := hp.hi
    have az : z ≤ aa * z := Nat.le_mul_of_pos_left z a1
    have az2 : aa ≤ aa * z := Nat.le_mul_of_pos_right aa s1
    have bz2 : bb ≤ bb * z := Nat.le_mul_of_pos_right bb s1
    have bz : z ≤ bb * z := Nat.le_mul_of_pos_left z b1
    obtain ⟨r0, f0, l0, _⟩ := hp.row (i := 0) (by omega)
    obtain ⟨R0, hr0, hR0⟩ := hrow 0 r0 f0
    have e1 : ((xs.length : Nat) : Int) % (z : Int) = 0 := by
      rw [hl, hml]
      exact mod_mul
    have e2 : (((r0.map V.int).length : Nat) : Int) % (z : Int) = 0 := by
      rw [List.length_map, l0]
      exact mod_mul
    refine ⟨.int z, rfl, z, 1, rfl, rfl, false, congrArg V.bl (decide_eq_false (by omega)), iteF ?_⟩
    refine ⟨.ref A0, rfl, A0, xs, rfl, .inl (sql_of hS), .int z, rfl, _, z, rfl, rfl, by omega, rfl, false, vne_eq (congrArg V.int e1), iteF ?_⟩
    refine ⟨.ref A0, rfl, A0, xs, 0, .ref R0, rfl, rfl, sql_of hS, atI_nat (j := 0) hr0, R0, _, rfl, .inl (sql_of hR0), .int z, rfl, _, z, rfl, rfl, by omega, rfl, false, vne_eq (congrArg V.int e2), iteF ?_⟩
    refine ⟨Nat.zero_le _, fun p hp0 => ?_⟩
    have M0 := MatF.nil hp0
    have s0 := same_new (o := .lst []) hp0
    generalize upd H p (.lst []) = H1 at M0 s0
    dsimp only [tNext, tSeq]
    refine for_of ?_
    refine ⟨.ref A0, rfl, A0, xs, rfl, .inl (sql_of (s0 _ _ hS)), .int z, rfl, 0, _, z, aa, rfl, by rw [hl, hml]; exact rgC_up s1 (by omega) (by omega), forin_rangeC (fun i σ H' => ∃ y3 y4 y5 y6 rs, σ = [some (.ref A0), some (.int z), some (.ref p), y3, y4, y5, y6] ∧ Same H H' ∧ MatF H H' p rs ((List.range i).map fun I => (List.range bb).map fun J => boxT z m I J)) ⟨_, _, _, _, [], rfl, s0, M0⟩ ?_ ?_⟩
    · rintro i σ H2 hi ⟨y3, y4, y5, y6, rs, rfl, s2, M2⟩
      have ei : (0 : Int) + ((i : Nat) : Int) * (z : Int) = ((i * z : Nat) : Int) := by rw [Int.zero_add, Int.natCast_mul]
      rw [ei]
      refine ⟨Nat.zero_le _, fun q0 hq => ?_⟩
      have nq : q0 ∉ p :: rs := fun hm => by
        obtain ⟨o, e⟩ := M2.there hm
        rw [hq] at e
        cases e
      have zq : H q0 = none := s2.free hq
      have s3 := s2.trans (same_new (o := .lst []) hq)
      have M3 := M2.same (same_new (o := .lst []) hq)
      have hq3 : upd H2 q0 (.lst []) q0 = some (.lst []) := upd_same
      generalize upd H2 q0 (.lst []) = H3 at s3 M3 hq3
      dsimp only [tNext, tSeq]
      refine for_of ?_
      refine ⟨.ref A0, rfl, A0, xs, 0, .ref R0, rfl, rfl, sql_of (s3 _ _ hS), atI_nat (j := 0) hr0, R0, _, rfl, .inl (sql_of (s3 _ _ hR0)), .int z, rfl, 0, _, z, bb, rfl, by rw [List.length_map, l0]; exact rgC_up s1 (by omega) (by omega), forin_rangeC (fun j σ H' => ∃ y5 y6, σ = [some (.ref A0), some (.int z), some (.ref p), some (.int ((i * z : Nat) : Int)), some (.ref q0), y5, y6] ∧ Same H H' ∧ MatF H H' p rs ((List.range i).map fun I => (List.range bb).map fun J => boxT z m I J) ∧ H' q0 = some (.lst (((List.range j).map fun J => boxT z m i J).map V.int))) ⟨_, _, rfl, s3, M3, hq3⟩ ?_ ?_⟩
      · rintro j σ H4 hj ⟨y5, y6, rfl, s4, M4, hq4⟩
        have ej : (0 : Int) + ((j : Nat) : Int) * (z : Int) = ((j * z : Nat) : Int) := by rw [Int.zero_add, Int.natCast_mul]
        rw [ej]
        refine ⟨.ref q0, rfl, .inl ⟨rfl, _, sql_of hq4⟩, ?_⟩
        dsimp only [tCB, tCons, tNil]
        refine lc_of ?_
        refine ⟨.ref A0, rfl, .int ((i * z : Nat) : Int), rfl, _, rfl, .int ((i * z : Nat) : Int), rfl, .int z, rfl, _, _, rfl, rfl, ((i * z + z : Nat) : Int), rfl, A0, xs, rfl, sql_of (s4 _ _ hS), fun L hL => ?_⟩
        rw [cutV_fromto _ _ _ (Nat.le_add_right _ _), Nat.add_sub_cancel_left]
        have s5 := s4.trans (same_new (o := .lst ((xs.drop (i * z)).take z)) hL)
        have M5 := M4.same (same_new (o := .lst ((xs.drop (i * z)).take z)) hL)
        have hq5 := same_new (o := .lst ((xs.drop (i * z)).take z)) hL _ _ hq4
        have eL : upd H4 L (.lst ((xs.drop (i * z)).take z)) L = some (.lst ((xs.drop (i * z)).take z)) := upd_same
        generalize upd H4 L (.lst ((xs.drop (i * z)).take z)) = H5 at s5 M5 hq5 eL
        have hlt : ((m.drop (i * z)).take z).length = ((xs.drop (i * z)).take z).length := by
          rw [List.length_take, List.length_drop, List.length_take, List.length_drop, hl]
        refine ⟨L, rfl, ⟨_, sql_of eL⟩, comp_list (m := m0) (F := H5) (wd0 (Same.refl H5)) ((m.drop (i * z)).take z) hlt (sql_of eL) (by rw [List.length_take]; omega) (fun r y _ => y = .int ((r.drop (j * z)).take z).sum) (fun _ _ _ _ _ h => h) (by exact fun _ => rfl) ?_ ?_⟩
        · intro k r x F6 H6 hk hx g6 Q1 k1
          have kz : k < z := by
            have := (List.getElem?_eq_some_iff.mp hk).1
            rw [List.length_take] at this
            omega
          rw [List.getElem?_take_of_lt kz, List.getElem?_drop] at hk hx
          obtain ⟨b, hb1, hb2⟩ := hrow _ r hk
          rw [hx] at hb1
          cases hb1
          have w6 := g6.wd (wd0 (Same.refl H5))
          have sH : Same H5 H6 := fun b o e => g6.h b o (fun z => z) e
          refine ⟨.ref b, rfl, .int ((j * z : Nat) : Int), rfl, _, rfl, .int ((j * z : Nat) : Int), rfl, .int z, rfl, _, _, rfl, rfl, ((j * z + z : Nat) : Int), rfl, b, _, rfl, sql_of ((s5.trans sH) _ _ hb2), fun L2 hL2 => ?_⟩
          rw [cutV_fromto _ _ _ (Nat.le_add_right _ _), Nat.add_sub_cancel_left]
          refine ⟨L2, (r.drop (j * z)).take z, rfl, sql_of (by rw [upd_same, List.map_take, List.map_drop]), ?_⟩
          exact k1 _ F6 _ (Gr.pure w6 (same_new hL2)) rfl
        intro D ys F6 H6 hD g6 e6 pr
        have ez := paired_eq (f := fun r : List Int => V.int ((r.drop (j * z)).take z).sum) pr
        subst ez
        have sH : Same H5 H6 := fun b o e => g6.h b o (fun z => z) e
        refine ⟨D, ((m.drop (i * z)).take z).map fun r => ((r.drop (j * z)).take z).sum, rfl, sql_of (by rw [g6.s _ _ e6, List.map_map]; rfl), ?_⟩
        rw [box_sum hp hi hj]
        have hq6 := sH _ _ hq5
        have M6 := M5.same sH
        refine ⟨q0, _, _, rfl, rfl, hq6, by rw [List.length_map, List.length_map, List.length_range]; exact size_lt (by omega), some (.int ((j * z : Nat) : Int)), y6, rfl, fun b o e => ?_, M6.other nq, ?_⟩
        · rw [upd_ne (ne_of_none e zq)]
          exact (s5.trans sH) b o e
        · rw [upd_same, range_map_succ, List.map_append]
          rfl
      · rintro σ H4 ⟨y5, y6, rfl, s4, M4, hq4⟩
        refine ⟨.ref p, rfl, .inl ⟨rfl, _, sql_of M4.top⟩, .ref q0, rfl, p, _, _, rfl, rfl, M4.top, ?_, ?_⟩
        · rw [List.length_map, M4.len, List.length_map, List.length_range]
          exact size_lt (by omega)
        have M5 := M4.more hq4 nq zq
        rw [List.map_append] at M5
        refine ⟨_, _, _, _, rs ++ [q0], rfl, fun b o e => ?_, ?_⟩
        · rw [upd_ne (ne_of_none e hp0)]
          exact s4 b o e
        · rw [range_map_succ]
          exact M5
    · rintro σ H2 ⟨y3, y4, y5, y6, rs, rfl, s2, M2⟩
      exact ⟨_, rfl, q p rs H2 s2 M2⟩
theorem sc_difference : FnScope ["one", "other", "found", "row", "beside", "cell", "more"] ["one", "other"] (defScope s_difference) := ⟨rfl, rfl, rfl, by decide +kernel, rfl, by decide +kernel, by decide +kernel⟩
theorem has_difference {P : Program} {w : World} {K : PySem.W.Frag} {mg : Str → Option Value} {base : Heap} {k : Nat} (T : Tx w K mg)  : Has P w K mg base (k + 1) "difference" ["one", "other"] (sp_difference K) := by
  obtain ⟨fd, F⟩ := T.d_difference
  refine ⟨_, fd, ?_, T.g_difference, F.kp, F.bindsN fun _ _ _ _ _ _ us hl => match us, hl with | [_, _], _ => rfl⟩
  refine F.ok sc_difference (fun vs H Q E h => ?_) (fun cdv A outer s H vs Q E hr h => ?_)
  ·
    repeat first | (obtain ⟨rfl, _⟩ := h; rfl) | (obtain ⟨_, h⟩ := h)
  · have hu := hu_room hr
    refine ⟨_, PSs.nox ((pss_cons (ps_set (i := 2) sc_difference.nd rfl (by first | exact Or.inl rfl | exact Or.inr rfl) pe_int)
    (pss_cons (ps_for PassesOwn.never rfl (pi_zipQ (K := K) rfl (by rfl) T.z_zip (pa_cons (pv 0) (pa_cons (pv 1) pa_nil))) (pg_tupQ (K := K) (n := 2) rfl rfl (pgs_cons (pg_name (i := 3) sc_difference.nd rfl (by first | exact Or.inl rfl | exact Or.inr rfl)) (pgs_cons (pg_name (i := 4) sc_difference.nd rfl (by first | exact Or.inl rfl | exact Or.inr rfl)) pgs_nil))) (pss_one (ps_set (i := 2) sc_difference.nd rfl (by first | exact Or.inl rfl | exact Or.inr rfl) (pe_op op_add (pv 2) (pe_callB (sumQ (K := K) rfl rfl) (by rfl) T.z_sum (by decide +kernel) (pa_cons (pe_lc (own := [("cell", 5), ("more", 6)]) (by rfl) sc_difference.nd (pi_zipQ (K := K) rfl (by rfl) T.z_zip (pa_cons (pv 3) (pa_cons (pv 4) pa_nil))) (blkOk_by (N := ["one", "other", "found", "row", "beside", "cell", "more"]) (sc := defScope s_difference) (by decide +kernel)) (fun _ _ _ _ _ => (pg_tupQ (K := K) (n := 2) rfl rfl (pgs_cons (pg_name (i := 5) sc_difference.nd rfl (by first | exact Or.inl rfl | exact Or.inr rfl)) (pgs_cons (pg_name (i := 6) sc_difference.nd rfl (by first | exact Or.inl rfl | exact Or.inr rfl)) pgs_nil)))) (fun _ _ _ _ _ => pts_nil) (fun _ _ _ _ _ => (pe_callB call_abs (by rfl) T.z_abs (by decide +kernel) (pa_cons (pe_op op_sub (pv 5) (pv 6)) pa_nil)))) pa_nil))))))
    (pss_one (ps_ret (pv 2)))))), ?_⟩
    obtain ⟨v, u, m1, m2, rfl, hv, hu1, hm, hr1, q⟩ := h
    obtain ⟨a, xs, rfl, hA, hla, rowA⟩ := dt_mat hv
    obtain ⟨b, ys, rfl, hB, hlb, rowB⟩ := dt_mat hu1
    dsimp only [tSeq, tAsg, gName]
    refine for_of ?_
    refine ⟨_, rfl, _, rfl, a, b, xs, ys, rfl, sql_of hA, sql_of hB, forin_it (walk_zip (K := K) (a := a) (b := b) (xs := xs) (ys := ys) (n := (m1.zip m2).length) (by rw [List.length_zip, hla, hlb]))
      (fun i σ H' => ∃ y3 y4 y5 y6, σ = [some (.ref a), some (.ref b), some (.int (((m1.zip m2).take i).map fun p => diffR p.1 p.2).sum), y3, y4, y5, y6] ∧ Same H H') ⟨_, _, _, _, rfl, Same.refl H⟩ ?_ ?_ ?_⟩
    · rintro i σ H' _ ⟨_, _, _, _, _, s⟩
      exact ⟨sql_of (s _ _ hA), sql_of (s _ _ hB)⟩
    · rintro i x σ H1 H2 hi ⟨y3, y4, y5, y6, rfl, s1⟩ ⟨T, x1, x2, rfl, hT, rfl, e1, e2⟩
      have hz : (m1.zip m2)[i]? = some ((m1.zip m2)[i]) := List.getElem?_eq_getElem hi
      generalize (m1.zip m2)[i] = p at hz
      obtain ⟨z1, z2⟩ := zip_get hz
      obtain ⟨c, hc1, hc2⟩ := rowA i _ z1
      obtain ⟨d, hd1, hd2⟩ := rowB i _ z2
      dsimp only at e1 e2
      rw [hc1] at e1
      rw [hd1] at e2
      cases e1
      cases e2
      refine ⟨T, _, rfl, sqt_of upd_same, rfl, _, _, rfl, _, _, rfl, rfl, ?_⟩
      have s2 : Same H (upd H1 T (.tup [.ref c, .ref d])) := s1.trans (same_new hT)
      have hrl : p.1.length ≤ 1000 := hr1 _ (List.mem_of_getElem? z1)
      generalize upd H1 T (.tup [.ref c, .ref d]) = H2 at s2
      refine ⟨_, rfl, ?_⟩
      dsimp only [tCB, tCons, tNil]
      refine lc_of ?_
      refine ⟨_, rfl, _, rfl, c, d, _, _, rfl, sql_of (s2 _ _ hc2), sql_of (s2 _ _ hd2), comp_core (m := m0) (F := H2) (wd0 (Same.refl H2)) (p.1.zip p.2) (walk_zip (K := K) (a := c) (b := d) (xs := p.1.map V.int) (ys := p.2.map V.int) (by rw [List.length_zip, List.length_map, List.length_map])) (fun F' H' g => ⟨sql_of (g.s _ _ (g.f _ _ (s2 _ _ hc2))), sql_of (g.s _ _ (g.f _ _ (s2 _ _ hd2)))⟩)
        (fun _ => true) (fun q y _ => y = .int (iabs (q.1 - q.2))) (fun _ _ _ _ _ h => h) (by rw [List.length_zip]; omega) ?_ ?_⟩
      · rintro j w x F3 H3 H4 hj g3 ⟨T2, x3, x4, rfl, hT2, rfl, f1, f2⟩ Q1 Qn k1 _
        obtain ⟨j1, j2⟩ := zip_get hj
        dsimp only at f1 f2
        rw [map_get j1] at f1
        rw [map_get j2] at f2
        cases f1
        cases f2
        refine ⟨T2, _, rfl, sqt_of upd_same, rfl, _, _, rfl, _, _, rfl, rfl, rfl, ?_⟩
        refine iteT (B := Qn (upd H3 T2 (.tup [.int w.1, .int w.2]))) ?_
        exact ⟨_, rfl, _, rfl, _, _, rfl, rfl, _, rfl, k1 rfl _ F3 (upd H3 T2 (.tup [.int w.1, .int w.2])) (Gr.pure (g3.wd (wd0 (Same.refl H2))) (same_new hT2)) rfl⟩
      · intro D zs F3 H3 hD g3 e pr
        rw [filter_true] at pr
        have ez := paired_eq (f := fun q : Int × Int => V.int (iabs (q.1 - q.2))) pr
        have e3 := g3.s _ _ e
        rw [ez] at e3
        refine ⟨D, (p.1.zip p.2).map fun q => iabs (q.1 - q.2), rfl, sql_of (by rw [e3, List.map_map]; rfl), _, _, rfl, rfl, some (.ref c), some (.ref d), y5, y6, ?_, s2.trans fun b o z => g3.h b o (fun y => y) z⟩
        rw [take_more hz, List.map_append, isum_app]
        simp only [List.map_cons, List.map_nil, List.sum_cons, List.sum_nil, Int.add_zero]
        rfl
    · rintro σ H' ⟨y3, y4, y5, y6, rfl, s⟩
      rw [List.take_length]
      exact ⟨_, rfl, q H' s⟩
theorem sc_apart : FnScope ["one", "other", "kind", "best", "way", "far"] ["one", "other", "kind"] (defScope s_apart) := ⟨rfl, rfl, rfl, by decide +kernel, rfl, by decide +kernel, by decide +kernel⟩
theorem has_apart {P : Program} {w : World} {K : PySem.W.Frag} {mg : Str → Option Value} {base : Heap} {k : Nat} (T : Tx w K mg) (G_difference : Has P w K mg base (k) "difference" ["one", "other"] (sp_difference K)) (G_moved : Has P w K mg base (k) "moved" ["rows", "way"] (sp_moved K)) : Has P w K mg base (k + 1) "apart" ["one", "other", "kind"] (sp_apart K) := by
  obtain ⟨fd, F⟩ := T.d_apart
  refine ⟨_, fd, ?_, T.g_apart, F.kp, F.bindsN fun _ _ _ _ _ _ us hl => match us, hl with | [_, _, _], _ => rfl⟩
  refine F.ok sc_apart (fun vs H Q E h => ?_) (fun cdv A outer s H vs Q E hr h => ?_)
  ·
    repeat first | (obtain ⟨rfl, _⟩ := h; rfl) | (obtain ⟨_, h⟩ := h)
  · have hu := hu_room hr
    refine ⟨_, PSs.nox ((pss_cons (ps_set (i := 3) sc_apart.nd rfl (by first | exact Or.inl rfl | exact Or.inr rfl) pe_non)
    (pss_cons (ps_for PassesOwn.never rfl (pi_tupQ (K := K) rfl (pe_ix (ixKD (K := K) (w := w) rfl rfl) (pe_glob (v := .ref (He.ga K "KINDS")) (by rfl) T.g_KINDS rfl) (pv 2) (fun _ _ => rfl))) (pg_name (i := 4) sc_apart.nd rfl (by first | exact Or.inl rfl | exact Or.inr rfl)) (pss_cons (ps_set (i := 5) sc_apart.nd rfl (by first | exact Or.inl rfl | exact Or.inr rfl) (pe_fn G_difference hr (by rfl) (pa_cons (pv 0) (pa_cons (pe_fn G_moved hr (by rfl) (pa_cons (pv 1) (pa_cons (pv 4) pa_nil))) pa_nil))))
    (pss_one (ps_if (PW.pt (pw_or (pt_cmpR op_isN (pv 3) pe_non (nomark _)) (pw_or1 (pt_cmpR op_lt (pv 5) (pe_ix (ixT (K := K) rfl) (pv 3) pe_int (fun _ _ => rfl)) (nomark _))))) (pss_one (ps_set (i := 3) sc_apart.nd rfl (by first | exact Or.inl rfl | exact Or.inr rfl) (pe_tup (pa_cons (pv 5) (pa_cons (pv 4) pa_nil))))) pss_nil))))
    (pss_one (ps_ret (pv 3)))))), ?_⟩
    obtain ⟨F, v, u, m1, m2, Pc, hh, ww, kind, rfl, wd, d1, d2, p1, p2, h1, w1, h2, w2, kf, q⟩ := h
    obtain ⟨KT, kd1, kd2⟩ := T.kd _ (kind_mem kf.1)
    dsimp only [tSeq, tAsg, gName, tNext]
    refine for_of ?_
    have sE : ∀ G : Hp, Same (fun _ => none) G := fun G b o e => by cases e
    obtain ⟨_, ws, eT, hT0, aT⟩ := dt_tup_inv (kd2 fun _ => none)
    cases eT
    have hT := Evl.ex_t (sE H) hT0
    have hlw := dtAll_len aT
    rw [List.length_map] at hlw
    refine ⟨.str kind, rfl, _, kind, _, rfl, rfl, kd1, KT, rfl, ⟨_, hT⟩, forin_tup (xs := ws) (fun i σ H' => ∃ F' y3 y4 y5, σ = [some v, some u, some (.str kind), some y3, y4, y5] ∧ Gr m0 F H F' H' ∧ (match ((farsT m1 m2 kind).take i).foldl stepB none with | none => y3 = .non | some x => Dt K F' y3 (dFar x))) ⟨F, _, _, _, rfl, Gr.refl wd, rfl⟩ ?_ ?_ ?_⟩
    · rintro i σ H' hi ⟨F', y3, y4, y5, rfl, g, _⟩
      exact Evl.ex_t (sE H') hT0
    · rintro i x σ H1 hx ⟨F1, y3, y4, y5, rfl, g, hb⟩
      have s1 : Same H H1 := fun b o e => g.h b o (fun z => z) e
      obtain ⟨dq, hq, hd⟩ := dtAll_at aT hx
      obtain ⟨qw, hqw, rfl⟩ := map_get_inv hq
      obtain ⟨Ty, rfl, hTy⟩ := dt_way hd
      have hm := List.mem_of_getElem? hqw
      have lt3 := (ways_lt kf.1 qw hm).1
      have hfar : (farsT m1 m2 kind)[i]? = some (diffT m1 (moveT m2 qw.1 qw.2), qw) := map_get hqw
      rw [take_more hfar, List.foldl_append]
      generalize ((farsT m1 m2 kind).take i).foldl stepB none = b at hb
      refine ⟨v, rfl, u, rfl, .ref Ty, rfl, u, m2, Pc, hh, ww, qw.1, qw.2, Ty, rfl, Evl.ex_t (sE H1) hTy, (d2.up wd.s).up s1, p2, h1, w1, h2, w2, by omega, fun p rs H2 s2 M2 => ?_⟩
      have s02 := (wd.s.trans s1).trans s2
      refine ⟨_, _, m1, _, rfl, d1.up s02, M2.dp, by rw [p1.hi]; exact h2, fun r hr => by rw [p1.wi r hr]; exact w2, fun H3 s3 => ?_⟩
      have g3 := g.trans wd (Gr.pure (g.wd wd) (s2.trans s3))
      generalize diffT m1 (moveT m2 qw.1 qw.2) = far
      have put : ∀ (N : Addr), H3 N = none → Gr m0 F H (upd F1 N (.tup [.int far, .ref Ty])) (upd H3 N (.tup [.int far, .ref Ty])) ∧ Dt K (upd F1 N (.tup [.int far, .ref Ty])) (.ref N) (dFar (far, qw)) := fun N hN =>
        ⟨g3.new wd hN, .tup (sqt_of upd_same) (.cons (.int far) (.cons (hd.up (sE _)) .nil))⟩
      cases b with
      | none =>
        have e3 : y3 = .non := hb
        subst e3
        refine ⟨.non, rfl, rfl, true, congrArg V.bl (decide_eq_true rfl), iteT (iteT ⟨.int far, rfl, .ref Ty, rfl, by show 2 ≤ sizeLine; decide, fun N hN => ?_⟩)⟩
        exact ⟨_, .ref N, some (.ref Ty), some (.int far), rfl, (put N hN).1, (put N hN).2⟩
      | some x =>
        have hb2 : Dt K F1 y3 (dFar x) := hb
        obtain ⟨Tx3, yw, rfl, hX, hyw⟩ := dt_far hb2
        refine ⟨.ref Tx3, rfl, rfl, false, congrArg V.bl (decide_eq_false (fun z => by cases z)), iteF ?_⟩
        refine ⟨.int far, rfl, .ref Tx3, rfl, Tx3, _, 0, _, rfl, rfl, Evl.ex_t ((g.s.trans s2).trans s3) hX, atI_nat (j := 0) rfl, far, x.1, rfl, rfl, _, rfl, ite2 (fun e => ?_) (fun e => ?_)⟩
        · have e1 := of_decide_eq_true e
          refine ⟨.int far, rfl, .ref Ty, rfl, by show 2 ≤ sizeLine; decide, fun N hN => ?_⟩
          refine ⟨_, .ref N, some (.ref Ty), some (.int far), rfl, (put N hN).1, ?_⟩
          have : [(far, qw)].foldl stepB (some x) = some (far, qw) := if_pos e1
          rw [this]
          exact (put N hN).2
        · have e1 : ¬ far < x.1 := fun z => e (decide_eq_true z)
          refine ⟨F1, .ref Tx3, some (.ref Ty), some (.int far), rfl, g3, ?_⟩
          have : [(far, qw)].foldl stepB (some x) = some x := if_neg e1
          rw [this]
          exact hb2
    · rintro σ H' ⟨F', y3, y4, y5, rfl, g, hb⟩
      have e : (farsT m1 m2 kind).take ws.length = farsT m1 m2 kind := List.take_of_length_le (by unfold farsT; rw [List.length_map, hlw]; exact Nat.le_refl _)
      rw [e, best_fold, apart_some kf.1] at hb
      exact ⟨y3, rfl, q y3 F' H' g hb⟩
theorem sc_distance : FnScope ["one", "other", "kind"] ["one", "other", "kind"] (defScope s_distance) := ⟨rfl, rfl, rfl, by decide +kernel, rfl, by decide +kernel, by decide +kernel⟩
theorem has_distance {P : Program} {w : World} {K : PySem.W.Frag} {mg : Str → Option Value} {base : Heap} {k : Nat} (T : Tx w K mg) (G_apart : Has P w K mg base (k) "apart" ["one", "other", "kind"] (sp_apart K)) : Has P w K mg base (k + 1) "distance" ["one", "other", "kind"] (sp_distance K) := by
  obtain ⟨fd, F⟩ := T.d_distance
  refine ⟨_, fd, ?_, T.g_distance, F.kp, F.bindsN fun _ _ _ _ _ _ us hl => match us, hl with | [_, _, _], _ => rfl⟩
  refine F.ok sc_distance (fun vs H Q E h => ?_) (fun cdv A outer s H vs Q E hr h => ?_)
  ·
    repeat first | (obtain ⟨rfl, _⟩ := h; rfl) | (obtain ⟨_, h⟩ := h)
  · have hu := hu_room hr
    refine ⟨_, PSs.nox ((pss_one (ps_ret (pe_ix (ixT (K := K) rfl) (pe_fn G_apart hr (by rfl) (pa_cons (pv 0) (pa_cons (pv 1) (pa_cons (pv 2) pa_nil)))) pe_int (fun _ _ => rfl))))), ?_⟩
    obtain ⟨F, v, u, m1, m2, Pc, hh, ww, kind, rfl, wd, d1, d2, p1, p2, h1, w1, h2, w2, kf, q⟩ := h
    refine ⟨v, rfl, u, rfl, .str kind, rfl, F, v, u, m1, m2, Pc, hh, ww, kind, rfl, wd, d1, d2, p1, p2, h1, w1, h2, w2, kf, fun z F' H' g dz => ?_⟩
    obtain ⟨Ta, yw, rfl, hT, _⟩ := dt_far dz
    exact ⟨Ta, _, 0, _, rfl, rfl, Evl.ex_t g.s hT, atI_nat (j := 0) rfl, q H' fun b o e => g.h b o (fun z => z) e⟩
theorem sc_sizes_of : FnScope ["rows", "most", "size"] ["rows"] (defScope s_sizes_of) := ⟨rfl, rfl, rfl, by decide +kernel, rfl, by decide +kernel, by decide +kernel⟩
theorem has_sizes_of {P : Program} {w : World} {K : PySem.W.Frag} {mg : Str → Option Value} {base : Heap} {k : Nat} (T : Tx w K mg)  : Has P w K mg base (k + 1) "sizes_of" ["rows"] (sp_sizes_of K) := by
  obtain ⟨fd, F⟩ := T.d_sizes_of
  refine ⟨_, fd, ?_, T.g_sizes_of, F.kp, F.bindsN fun _ _ _ _ _ _ us hl => match us, hl with | [_], _ => rfl⟩
  refine F.ok sc_sizes_of (fun vs H Q E h => ?_) (fun cdv A outer s H vs Q E hr h => ?_)
  ·
    repeat first | (obtain ⟨rfl, _⟩ := h; rfl) | (obtain ⟨_, h⟩ := h)
  · have hu := hu_room hr
    refine ⟨_, PSs.nox ((pss_cons (ps_set (i := 1) sc_sizes_of.nd rfl (by first | exact Or.inl rfl | exact Or.inr rfl) (pe_callB (call_min2 rfl) (by rfl) T.z_min (by decide +kernel) (pa_cons (pe_callB (lenQ (K := K) rfl) (by rfl) T.z_len (by decide +kernel) (pa_cons (pv 0) pa_nil)) (pa_cons (pe_callB (lenQ (K := K) rfl) (by rfl) T.z_len (by decide +kernel) (pa_cons (pe_ix (ixL (K := K) rfl) (pv 0) pe_int (fun _ _ => rfl)) pa_nil)) pa_nil))))
    (pss_one (ps_ret (pe_lc (own := [("size", 2)]) (by rfl) sc_sizes_of.nd (pi_range3 (by rfl) T.z_range (pa_cons (pv 1) (pa_cons pe_int (pa_cons (pe_un un_neg pe_int) pa_nil)))) (blkOk_by (N := ["rows", "most", "size"]) (sc := defScope s_sizes_of) (by decide +kernel)) (fun _ _ _ _ _ => (pg_name (i := 2) sc_sizes_of.nd rfl (by first | exact Or.inl rfl | exact Or.inr rfl))) (fun _ _ _ _ _ => (pts_one (PW.pt (pw_and (pt_cmpR op_eq (pe_op op_mod (pe_callB (lenQ (K := K) rfl) (by rfl) T.z_len (by decide +kernel) (pa_cons (pv 0) pa_nil)) (pv 2)) pe_int (nomark _)) (pw_and1 (pt_cmpR op_eq (pe_op op_mod (pe_callB (lenQ (K := K) rfl) (by rfl) T.z_len (by decide +kernel) (pa_cons (pe_ix (ixL (K := K) rfl) (pv 0) pe_int (fun _ _ => rfl)) pa_nil)) (pv 2)) pe_int (nomark _))))))) (fun _ _ _ _ _ => (pv 2))))))), ?_⟩
    obtain ⟨F, v, m, Pc, hh, ww, rfl, wd, hv, hp, h1, w1, h2, w2, q⟩ := h
    obtain ⟨A0, xs, rfl, hS, hl, hrow⟩ := dt_mat hv
    have hml := hp.hi
    obtain ⟨r0, f0, l0, _⟩ := hp.row (i := 0) (by omega)
    obtain ⟨R0, hr0, hR0⟩ := hrow 0 r0 f0
    have lx : ((xs.length : Nat) : Int) = hh := by omega
    have lr : (((r0.map V.int).length : Nat) : Int) = ww := by
      rw [List.length_map]
      omega
    refine ⟨.ref A0, rfl, A0, xs, rfl, .inl (sql_of (wd.s _ _ hS)), .ref A0, rfl, A0, xs, 0, .ref R0, rfl, rfl, sql_of (wd.s _ _ hS), atI_nat (j := 0) hr0, R0, _, rfl, .inl (sql_of (wd.s _ _ hR0)), _, _, rfl, ?_⟩
    rw [lx, lr]
    have em : (if (ww : Int) < (hh : Int) then (ww : Int) else (hh : Int)) = ((min hh ww : Nat) : Int) := by
      split <;> omega
    rw [em]
    dsimp only [tNext, tSeq, tRet]
    refine lc_of ?_
    refine ⟨.int ((min hh ww : Nat) : Int), rfl, _, rfl, ((min hh ww : Nat) : Int), 0, -1, min hh ww, rfl, ?_, ?_⟩
    · have := RgC.neg (i := ((min hh ww : Nat) : Int)) (j := 0) (by omega) (by omega) (by omega) (by omega)
      rw [show (((min hh ww : Nat) : Int) - 0).toNat = min hh ww by omega] at this
      exact this
    refine comp_core (A := Nat) (m := m0) (F := F) (H := H) wd (downT (min hh ww)) (by rw [down_len]; exact walk_rangeC) (fun _ _ _ => trivial) (divB hh ww) (fun s y _ => y = .int ((s : Nat) : Int)) (fun _ _ _ _ _ h => h) (by rw [down_len]; omega) ?_ ?_
    · rintro i s x F1 H1 H2 hi g ⟨rfl, rfl⟩ Q1 Qn k1 k2
      have hil : i < min hh ww := by
        have := (List.getElem?_eq_some_iff.mp hi).1
        rwa [down_len] at this
      have hs : s = min hh ww - i := by
        rw [down_get hil] at hi
        exact (Option.some.inj hi).symm
      have es : ((min hh ww : Nat) : Int) + ((i : Nat) : Int) * (-1) = ((s : Nat) : Int) := by omega
      dsimp only
      rw [es]
      have w2 := g.wd wd
      have A1 := w2.s _ _ (g.f _ _ hS)
      have A2 := w2.s _ _ (g.f _ _ hR0)
      have c1 : ((xs.length : Nat) : Int) % (s : Int) = ((hh % s : Nat) : Int) := by rw [lx]; rfl
      have c2 : (((r0.map V.int).length : Nat) : Int) % (s : Int) = ((ww % s : Nat) : Int) := by rw [lr]; rfl
      have hb : divB hh ww s = (decide (hh % s = 0) && decide (ww % s = 0)) := rfl
      refine ⟨by exact rfl, .ref A0, rfl, A0, xs, rfl, .inl (sql_of A1), .int s, rfl, _, _, rfl, rfl, by omega, rfl, ?_⟩
      by_cases e1 : hh % s = 0
      · refine ⟨true, veq_eq (congrArg V.int (by rw [c1, e1]; rfl)), iteT ?_⟩
        refine ⟨.ref A0, rfl, A0, xs, 0, .ref R0, rfl, rfl, sql_of A1, atI_nat (j := 0) hr0, R0, _, rfl, .inl (sql_of A2), .int s, rfl, _, _, rfl, rfl, by omega, rfl, ?_⟩
        by_cases e2 : ww % s = 0
        · exact ⟨true, veq_eq (congrArg V.int (by rw [c2, e2]; rfl)), iteT ⟨_, rfl, k1 (by rw [hb, decide_eq_true e1, decide_eq_true e2]; rfl) _ F1 _ (Gr.refl w2) rfl⟩⟩
        · exact ⟨false, veq_ne (fun z => e2 (by have := V.int.inj z; rw [c2] at this; omega)), iteF (k2 (by rw [hb, decide_eq_false e2, Bool.and_false]) F1 _ (Gr.refl w2))⟩
      · exact ⟨false, veq_ne (fun z => e1 (by have := V.int.inj z; rw [c1] at this; omega)), iteF (iteF (k2 (by rw [hb, decide_eq_false e1, Bool.false_and]) F1 _ (Gr.refl w2)))⟩
    · intro D ys F2 H2 hD g e pr
      have ez := paired_eq (f := fun s : Nat => V.int ((s : Nat) : Int)) pr
      subst ez
      exact q D F2 H2 g e
theorem sc_bounds : FnScope ["one", "other", "kind", "size"] ["one", "other", "kind"] (defScope s_bounds) := ⟨rfl, rfl, rfl, by decide +kernel, rfl, by decide +kernel, by decide +kernel⟩
theorem has_bounds {P : Program} {w : World} {K : PySem.W.Frag} {mg : Str → Option Value} {base : Heap} {k : Nat} (T : Tx w K mg) (G_sizes_of : Has P w K mg base (k) "sizes_of" ["rows"] (sp_sizes_of K)) (G_distance : Has P w K mg base (k) "distance" ["one", "other", "kind"] (sp_distance K)) (G_small : Has P w K mg base (k) "small" ["rows", "size"] (sp_small K)) : Has P w K mg base (k + 1) "bounds" ["one", "other", "kind"] (sp_bounds K) := by
  obtain ⟨fd, F⟩ := T.d_bounds
  refine ⟨_, fd, ?_, T.g_bounds, F.kp, F.bindsN fun _ _ _ _ _ _ us hl => match us, hl with | [_, _, _], _ => rfl⟩
  refine F.ok sc_bounds (fun vs H Q E h => ?_) (fun cdv A outer s H vs Q E hr h => ?_)
  ·
    repeat first | (obtain ⟨rfl, _⟩ := h; rfl) | (obtain ⟨_, h⟩ := h)
  · have hu := hu_room hr
    refine ⟨_, PSs.nox ((pss_one (ps_ret (pe_lc (own := [("size", 3)]) (by rfl) sc_bounds.nd (pi_listQ (K := K) rfl (pe_fn G_sizes_of hr (by rfl) (pa_cons (pv 0) pa_nil))) (blkOk_by (N := ["one", "other", "kind", "size"]) (sc := defScope s_bounds) (by decide +kernel)) (fun _ _ _ _ _ => (pg_name (i := 3) sc_bounds.nd rfl (by first | exact Or.inl rfl | exact Or.inr rfl))) (fun _ _ _ _ _ => pts_nil) (fun _ _ _ _ _ => (pe_tup (pa_cons (pv 3) (pa_cons (pe_fn G_distance hr (by rfl) (pa_cons (pe_fn G_small hr (by rfl) (pa_cons (pv 0) (pa_cons (pv 3) pa_nil))) (pa_cons (pe_fn G_small hr (by rfl) (pa_cons (pv 1) (pa_cons (pv 3) pa_nil))) (pa_cons (pv 2) pa_nil)))) pa_nil)))))))), ?_⟩
    obtain ⟨F, v, u, m1, m2, Pc, hh, ww, kind, rfl, wd, d1, d2, p1, p2, h1, w1, h2, w2, kf, q⟩ := h
    dsimp only [tRet]
    refine lc_of ?_
    refine ⟨v, rfl, F, v, m1, Pc, hh, ww, rfl, wd, d1, p1, h1, w1, h2, w2, fun l F1 H1 g1 e1 => ?_⟩
    have wd1 := g1.wd wd
    have hlen : (sizesT hh ww (min hh ww)).length ≤ 1000 := by
      unfold sizesT
      refine Nat.le_trans (List.length_filter_le _ _) ?_
      rw [down_len]
      omega
    refine ⟨l, rfl, ⟨_, sql_of (wd1.s _ _ e1)⟩, comp_list (F := F1) wd1 (sizesT hh ww (min hh ww)) (by rw [List.length_map]) (sql_of e1) (by rw [List.length_map]; omega) (fun s y F' => Dt K F' y (dB (((s : Nat) : Int), boundT hh ww m1 m2 kind s))) (fun _ _ _ _ s h => h.up s) (by exact fun _ => rfl) ?_ ?_⟩
    · intro i z x F2 H2 hi hx g Q1 k1
      rw [map_get hi] at hx
      cases hx
      have hz := List.mem_of_getElem? hi
      obtain ⟨z1, z2, zh, zw⟩ := sizes_div hz
      have a1 := div_pos' h1 zh
      have b1 := div_pos' w1 zw
      have wd2 := g.wd wd1
      have s2 := (g1.f.trans g.f).trans wd2.s
      have p1' : PicP Pc (hh / z * z) (ww / z * z) m1 := by rw [← zh, ← zw]; exact p1
      have p2' : PicP Pc (hh / z * z) (ww / z * z) m2 := by rw [← zh, ← zw]; exact p2
      have lh : hh / z ≤ hh := Nat.div_le_self _ _
      have lw : ww / z ≤ ww := Nat.div_le_self _ _
      refine ⟨.int z, rfl, v, rfl, .int z, rfl, v, m1, Pc, hh / z, ww / z, z, rfl, d1.up s2, p1', a1, b1, z1, by omega, by omega, fun p rs H3 s3 M3 => ?_⟩
      refine ⟨u, rfl, .int z, rfl, u, m2, Pc, hh / z, ww / z, z, rfl, d2.up (s2.trans s3), p2', a1, b1, z1, by omega, by omega, fun p' rs' H4 s4 M4 => ?_⟩
      refine ⟨.str kind, rfl, H4, _, _, _, _, Tru, hh / z, ww / z, kind, rfl, wd0 (Same.refl H4), M3.dp.up s4, M4.dp, small_hw _ _ _ _, small_hw _ _ _ _, a1, b1, by omega, by omega, kf.div, fun H5 s5 => ?_⟩
      refine ⟨by show 2 ≤ sizeLine; decide, fun N hN => ?_⟩
      exact k1 _ _ _ ((Gr.pure wd2 ((s3.trans s4).trans s5)).new wd2 hN) (.tup (sqt_of upd_same) (.cons (.int _) (.cons (.int _) .nil)))
    intro D ys F2 H2 hD g2 e2 pr
    refine q D F2 H2 (g1.trans wd g2) (.lst e2 ?_)
    have a := paired_dt pr
    unfold boundsT
    rw [List.map_map]
    exact a
theorem sc__law_cell : FnScope ["_law_script", "_law_k"] ["_law_script", "_law_k"] (defScope s__law_cell) := ⟨rfl, rfl, rfl, by decide +kernel, rfl, by decide +kernel, by decide +kernel⟩
theorem has__law_cell {P : Program} {w : World} {K : PySem.W.Frag} {mg : Str → Option Value} {base : Heap} {k : Nat} (T : Tx w K mg)  : Has P w K mg base (k + 1) "_law_cell" ["_law_script", "_law_k"] (sp__law_cell K) := by
  obtain ⟨fd, F⟩ := T.d__law_cell
  refine ⟨_, fd, ?_, T.g__law_cell, F.kp, F.bindsN fun _ _ _ _ _ _ us hl => match us, hl with | [_, _], _ => rfl⟩
  refine F.ok sc__law_cell (fun vs H Q E h => ?_) (fun cdv A outer s H vs Q E hr h => ?_)
  ·
    repeat first | (obtain ⟨rfl, _⟩ := h; rfl) | (obtain ⟨_, h⟩ := h)
  · have hu := hu_room hr
    refine ⟨_, PSs.nox ((pss_cons (ps_if (pt_cmpR op_lt (pv 1) (pe_callB (lenQ (K := K) rfl) (by rfl) T.z_len (by decide +kernel) (pa_cons (pv 0) pa_nil)) (nomark _)) (pss_one (ps_ret (pe_ix (ixL (K := K) rfl) (pv 0) (pv 1) (fun _ _ => rfl)))) pss_nil)
    (pss_one (ps_ret pe_int)))), ?_⟩
    obtain ⟨a, ns, k, rfl, hS, q⟩ := h
    refine ⟨_, rfl, .ref a, rfl, a, ns.map V.int, rfl, .inl hS, k, _, rfl, rfl, _, rfl, ite2 (fun e => ?_) (fun e => ?_)⟩
    · have e1 : k < ns.length := by
        have := of_decide_eq_true e
        rw [List.length_map] at this
        omega
      exact ⟨_, rfl, _, rfl, a, _, k, _, rfl, rfl, hS, atI_of (map_get (List.getElem?_eq_getElem e1)), q _⟩
    · exact q 0
theorem sc__law_dice : FnScope ["_law_script", "_law_k", "_law_cell_here"] ["_law_script", "_law_k"] (defScope s__law_dice) := ⟨rfl, rfl, rfl, by decide +kernel, rfl, by decide +kernel, by decide +kernel⟩
theorem has__law_dice {P : Program} {w : World} {K : PySem.W.Frag} {mg : Str → Option Value} {base : Heap} {k : Nat} (T : Tx w K mg) (G__law_cell : Has P w K mg base (k) "_law_cell" ["_law_script", "_law_k"] (sp__law_cell K)) : Has P w K mg base (k + 1) "_law_dice" ["_law_script", "_law_k"] (sp__law_dice K) := by
  obtain ⟨fd, F⟩ := T.d__law_dice
  refine ⟨_, fd, ?_, T.g__law_dice, F.kp, F.bindsN fun _ _ _ _ _ _ us hl => match us, hl with | [_, _], _ => rfl⟩
  refine F.ok sc__law_dice (fun vs H Q E h => ?_) (fun cdv A outer s H vs Q E hr h => ?_)
  ·
    repeat first | (obtain ⟨rfl, _⟩ := h; rfl) | (obtain ⟨_, h⟩ := h)
  · have hu := hu_room hr
    refine ⟨_, PSs.nox ((pss_one (ps_ret (pe_op op_cat (pe_lst (pa_cons (pe_op op_mod (pe_callB call_abs (by rfl) T.z_abs (by decide +kernel) (pa_cons (pe_fn G__law_cell hr (by rfl) (pa_cons (pv 0) (pa_cons (pv 1) pa_nil))) pa_nil)) pe_int) (pa_cons pe_int pa_nil))) (pe_lc (own := [("_law_cell_here", 2)]) (by rfl) sc__law_dice.nd (pi_listQ (K := K) rfl (pv 0)) (blkOk_by (N := ["_law_script", "_law_k", "_law_cell_here"]) (sc := defScope s__law_dice) (by decide +kernel)) (fun _ _ _ _ _ => (pg_name (i := 2) sc__law_dice.nd rfl (by first | exact Or.inl rfl | exact Or.inr rfl))) (fun _ _ _ _ _ => (pts_one (pt_cmpR op_ge (pv 2) (pe_op op_pow pe_int pe_int) (nomark _)))) (fun _ _ _ _ _ => (pv 2))))))), ?_⟩
    obtain ⟨a, ns, rfl, hS, hlen, q⟩ := h
    refine ⟨.ref a, rfl, .int 0, rfl, a, ns, 0, rfl, hS, fun i => ⟨i, rfl, _, _, rfl, rfl, (by show (0 : Int) < 2147483647; decide), by show 2 ≤ sizeLine; decide, fun l hl => ?_⟩⟩
    dsimp only
    generalize hx : (if i < 0 then -i else i) % 2147483647 = x0
    have hx0 : 0 ≤ x0 := by omega
    have s1 : Same H (upd H l (.lst [.int x0, .int 0])) := same_new hl
    have hS1 := s1.seq hS
    refine lc_of ⟨.ref a, rfl, a, rfl, ⟨_, hS1⟩, comp_listF (m := m0) (F := upd H l (.lst [.int x0, .int 0])) (wd0 (Same.refl _)) ns (by rw [List.length_map]) hS1 (by rw [List.length_map]; omega) (fun c => decide ((10 : Int) ^ (18 : Nat) ≤ c)) (fun c v _ => v = .int c) (fun _ _ _ _ _ h => h) (by exact fun _ => rfl) ?_ ?_⟩
    · intro i b x F1 H1 hi hx gr Q1 Qn k1 k2
      have ex : x = .int b := by
        rw [map_get hi] at hx
        exact (Option.some.inj hx).symm
      subst ex
      refine ⟨.int b, rfl, 10, 18, rfl, rfl, ⟨by decide, by decide, by decide⟩, b, _, rfl, rfl, _, rfl, ?_⟩
      refine ite2 (fun e => ?_) (fun e => ?_)
      · exact ⟨.int b, rfl, k1 e _ F1 H1 (Gr.refl (gr.wd (wd0 (Same.refl _)))) rfl⟩
      · exact k2 (eq_false_of_ne_true e) F1 H1 (Gr.refl (gr.wd (wd0 (Same.refl _))))
    · intro D ys F2 H2 hD g e pr
      have ey := paired_eq pr
      have e1 : H2 l = some (.lst [.int x0, .int 0]) := g.h l _ (fun z => z) upd_same
      refine ⟨l, D, _, _, rfl, rfl, e1, g.s D _ e, ?_, fun p hp => ?_⟩
      · rw [ey, List.length_map]
        have := List.length_filter_le (fun c => decide ((10 : Int) ^ (18 : Nat) ≤ c)) ns
        show 2 + _ ≤ sizeLine
        exact size_le (by omega)
      · refine q p ([x0, 0] ++ ns.filter fun c => decide ((10 : Int) ^ (18 : Nat) ≤ c)) _ (fun b o z => ?_) ?_ ?_ ?_
        · have z2 : H2 b = some o := g.h b o (fun z => z) (s1 b o z)
          rw [upd_ne (ne_of_none z2 hp)]
          exact z2
        · cases z : H p with
          | none => rfl
          | some o =>
            have z2 : H2 p = some o := g.h p o (fun z => z) (s1 p o z)
            rw [hp] at z2
            cases z2
        · rw [upd_same, ey, List.map_append]
          rfl
        · refine ⟨?_, ?_, fun x hx => ?_⟩
          · rw [List.length_append]
            show 2 ≤ 2 + _
            omega
          · have := List.length_filter_le (fun c => decide ((10 : Int) ^ (18 : Nat) ≤ c)) ns
            rw [List.length_append]
            show 2 + _ ≤ 100
            omega
          · rcases List.mem_cons.mp hx with rfl | hx
            · exact hx0
            · rcases List.mem_cons.mp hx with rfl | hx
              · exact Int.le_refl _
              · have := of_decide_eq_true (List.mem_filter.mp hx).2
                have h10 : (0 : Int) ≤ 10 ^ (18 : Nat) := by decide
                omega
theorem sc__law_off : FnScope ["_law_d", "_law_most", "_law_found"] ["_law_d", "_law_most"] (defScope s__law_off) := ⟨rfl, rfl, rfl, by decide +kernel, rfl, by decide +kernel, by decide +kernel⟩
theorem has__law_off {P : Program} {w : World} {K : PySem.W.Frag} {mg : Str → Option Value} {base : Heap} {k : Nat} (T : Tx w K mg)  : Has P w K mg base (k + 1) "_law_off" ["_law_d", "_law_most"] (sp__law_off K) := by
  obtain ⟨fd, F⟩ := T.d__law_off
  refine ⟨_, fd, ?_, T.g__law_off, F.kp, F.bindsN fun _ _ _ _ _ _ us hl => match us, hl with | [_, _], _ => rfl⟩
  refine F.ok sc__law_off (fun vs H Q E h => ?_) (fun cdv A outer s H vs Q E hr h => ?_)
  ·
    repeat first | (obtain ⟨rfl, _⟩ := h; rfl) | (obtain ⟨_, h⟩ := h)
  · have hu := hu_room hr
    refine ⟨_, PSs.nox ((pss_cons (ps_if (PW.pt (pw_and (pt_cmpR op_eq (pe_ix (ixL (K := K) rfl) (pv 0) pe_int (fun _ _ => rfl)) pe_int (nomark _)) (pw_and1 (pt_cmpR op_gt (pe_callB (lenQ (K := K) rfl) (by rfl) T.z_len (by decide +kernel) (pa_cons (pv 0) pa_nil)) pe_int (nomark _))))) (pss_one (ps_asg (pe_bmQ (K := K) rfl PySem.F.plainAttrs_list PySem.F.slot_list_pop PySem.F.type_list_pop mt_popAt (pv 0) (pa_cons pe_int pa_nil)) (pg_sub (pv 0) pe_int set_list))) pss_nil)
    (pss_cons (ps_if (pt_cmpR op_gt (pe_ix (ixL (K := K) rfl) (pv 0) pe_int (fun _ _ => rfl)) pe_int (nomark _)) (pss_cons (ps_set (i := 2) sc__law_off.nd rfl (by first | exact Or.inl rfl | exact Or.inr rfl) (pe_op op_mod (pe_ix (ixL (K := K) rfl) (pv 0) pe_int (fun _ _ => rfl)) (pv 1)))
    (pss_cons (ps_asg (pe_op op_fdiv (pe_ix (ixL (K := K) rfl) (pv 0) pe_int (fun _ _ => rfl)) (pv 1)) (pg_sub (pv 0) pe_int set_list))
    (pss_one (ps_ret (pv 2))))) pss_nil)
    (pss_cons (ps_asg (pe_op op_mod (pe_op op_add (pe_op op_mul (pe_ix (ixL (K := K) rfl) (pv 0) pe_int (fun _ _ => rfl)) pe_int) pe_int) pe_int) (pg_sub (pv 0) pe_int set_list))
    (pss_one (ps_ret (pe_op op_mod (pe_op op_fdiv (pe_ix (ixL (K := K) rfl) (pv 0) pe_int (fun _ _ => rfl)) pe_int) (pv 1)))))))), ?_⟩
    obtain ⟨d, n, rfl, ⟨ns, hD, hL⟩, n1, n2, q⟩ := h
    obtain ⟨x0, x1, r, rfl⟩ := dice_cases hL
    -- the second half, from any such state
    have tail : ∀ (H1 : Hp) (y0 y1 : Int) (s : List Int), H1 d = some (.lst ((y0 :: y1 :: s).map V.int)) → DiceL (y0 :: y1 :: s) → (∀ ms : List Int, upd H1 d (.lst (ms.map V.int)) = upd H d (.lst (ms.map V.int))) →
        (tSeq (tIfS (tTest (tOp (rI0 fun i j => V.bl (decide (j < i))) (tOp (rIxL K) (tVar 0) (tC (V.int 1))) (tC (V.int 0)))) (tSeq (tAsg (tOp (rI (fun x j => 0 < j) fun i j => V.int (i % j)) (tOp (rIxL K) (tVar 0) (tC (V.int 1))) (tVar 1)) (gName 2))
          (tSeq (tAsg (tOp (rI CDiv fun i j => V.int (i / j)) (tOp (rIxL K) (tVar 0) (tC (V.int 1))) (tVar 1)) (gSub (tVar 0) (tC (V.int 1)) rSetL)) (tRet (tVar 2)))) tNext)
          (tSeq (tAsg (tOp (rI (fun x j => 0 < j) fun i j => V.int (i % j)) (tOp (rI0 fun i j => V.int (i + j)) (tOp (rI CMul fun i j => V.int (i * j)) (tOp (rIxL K) (tVar 0) (tC (V.int 0))) (tC (V.int 48271))) (tC (V.int 11))) (tC (V.int 2147483647))) (gSub (tVar 0) (tC (V.int 0)) rSetL))
          (tRet (tOp (rI (fun x j => 0 < j) fun i j => V.int (i % j)) (tOp (rI CDiv fun i j => V.int (i / j)) (tOp (rIxL K) (tVar 0) (tC (V.int 0))) (tC (V.int 64))) (tVar 1))))) { nx := fun _ H' => Q .non H', rt := Q } [some (.ref d), some (.int n), none] H1 := by
      intro H1 y0 y1 s h1 hl eq
      obtain ⟨g0, g1⟩ := off_two hl
      refine ⟨.ref d, rfl, d, _, 1, .int y1, rfl, rfl, sql_of h1, atI_nat (j := 1) rfl, y1, 0, rfl, rfl, _, rfl, ite2 (fun e => ?_) (fun e => ?_)⟩
      · have hy : 0 < y1 := of_decide_eq_true e
        have m1 : 0 ≤ y1 % n := Int.emod_nonneg _ (by omega)
        have m2 : y1 % n < n := Int.emod_lt_of_pos _ (by omega)
        refine ⟨.ref d, rfl, d, _, 1, .int y1, rfl, rfl, sql_of h1, atI_nat (j := 1) rfl, .int n, rfl, y1, n, rfl, rfl, by omega, ?_⟩
        refine ⟨.ref d, rfl, d, _, 1, .int y1, rfl, rfl, sql_of h1, atI_nat (j := 1) rfl, .int n, rfl, y1, n, rfl, rfl, ⟨by omega, by omega⟩, ?_⟩
        refine ⟨.ref d, rfl, d, _, 1, 1, rfl, rfl, h1, ixN_of (j := 1) (by simp), ?_⟩
        refine ⟨.int (y1 % n), rfl, ?_⟩
        have hl2 := dice_set (i := 1) hl (x := y1 / n) (Int.ediv_nonneg (by omega) (by omega))
        have z := q (y1 % n) (y0 :: y1 / n :: s) m1 m2 hl2
        rw [← eq] at z
        exact z
      · refine ⟨.ref d, rfl, d, _, 0, .int y0, rfl, rfl, sql_of h1, atI_nat (j := 0) rfl, y0, 48271, rfl, rfl, .inr ⟨by decide, by decide⟩, _, 11, rfl, rfl, _, 2147483647, rfl, rfl, (by show (0 : Int) < 2147483647; decide), ?_⟩
        refine ⟨.ref d, rfl, d, _, 0, 0, rfl, rfl, h1, ixN_of (j := 0) (by simp), ?_⟩
        dsimp only
        generalize hz : (y0 * 48271 + 11) % 2147483647 = z0
        have hz0 : 0 ≤ z0 := by omega
        have h2 : upd H1 d (.lst (((y0 :: y1 :: s).map V.int).set 0 (.int z0))) d = some (.lst ((z0 :: y1 :: s).map V.int)) := upd_same
        refine ⟨.ref d, rfl, d, _, 0, .int z0, rfl, rfl, sql_of h2, atI_nat (j := 0) rfl, z0, 64, rfl, rfl, ⟨by decide, by decide⟩, .int n, rfl, _, n, rfl, rfl, by omega, ?_⟩
        have hl2 := dice_set (i := 0) hl (x := z0) hz0
        have z := q (z0 / 64 % n) (z0 :: y1 :: s) (Int.emod_nonneg _ (by omega)) (Int.emod_lt_of_pos _ (by omega)) hl2
        rw [← eq] at z
        exact z
    refine ⟨.ref d, rfl, d, _, 1, .int x1, rfl, rfl, sql_of hD, atI_nat (j := 1) rfl, rfl, _, rfl, ?_⟩
    
    refine ite2 (fun e => ?_) (fun e => ?_)
    · refine ⟨.ref d, rfl, d, _, rfl, .inl (sql_of hD), _, 2, rfl, rfl, _, rfl, ite2 (fun e2 => ?_) (fun e2 => ?_)⟩
      · match r, hL, hD, e2 with
        | c :: s, hL, hD, _ =>
          refine ⟨.ref d, rfl, .inl ⟨rfl, _, sql_of hD⟩, d, _, 2, 2, .int c, rfl, rfl, hD, by decide, by decide, seqIx_of (j := 2) (by simp), rfl, ?_⟩
          have h1 : upd H d (.lst (((x0 :: x1 :: c :: s).map V.int).eraseIdx 2)) d = some (.lst ((x0 :: x1 :: s).map V.int)) := upd_same
          refine ⟨.ref d, rfl, d, _, 1, 1, rfl, rfl, h1, ixN_of (j := 1) (by simp), ?_⟩
          exact tail _ x0 c s upd_same (dice_pop hL) (fun ms => by rw [upd_upd, upd_upd])
        | [], hL, hD, e2 => exact absurd (of_decide_eq_true e2) (by simp)
      · exact tail H x0 x1 r hD hL (fun _ => rfl)
    · refine iteF ?_
      exact tail H x0 x1 r hD hL (fun _ => rfl)
theorem sc__law_cells : FnScope ["_law_d", "_law_high", "_law_wide", "_law_most", "_law_k", "_law_at"] ["_law_d", "_law_high", "_law_wide"] (defScope s__law_cells) := ⟨rfl, rfl, rfl, by decide +kernel, rfl, by decide +kernel, by decide +kernel⟩
theorem has__law_cells {P : Program} {w : World} {K : PySem.W.Frag} {mg : Str → Option Value} {base : Heap} {k : Nat} (T : Tx w K mg) (G__law_off : Has P w K mg base (k) "_law_off" ["_law_d", "_law_most"] (sp__law_off K)) : Has P w K mg base (k + 1) "_law_cells" ["_law_d", "_law_high", "_law_wide"] (sp__law_cells K) := by
  obtain ⟨fd, F⟩ := T.d__law_cells
  refine ⟨_, fd, ?_, T.g__law_cells, F.kp, F.bindsN fun _ _ _ _ _ _ us hl => match us, hl with | [_, _, _], _ => rfl⟩
  refine F.ok sc__law_cells (fun vs H Q E h => ?_) (fun cdv A outer s H vs Q E hr h => ?_)
  ·
    repeat first | (obtain ⟨rfl, _⟩ := h; rfl) | (obtain ⟨_, h⟩ := h)
  · have hu := hu_room hr
    refine ⟨_, PSs.nox ((pss_cons (ps_set (i := 3) sc__law_cells.nd rfl (by first | exact Or.inl rfl | exact Or.inr rfl) (pe_ix (ixL (K := K) rfl) (pe_lst (pa_cons pe_int (pa_cons pe_int (pa_cons pe_int pa_nil)))) (pe_fn G__law_off hr (by rfl) (pa_cons (pv 0) (pa_cons pe_int pa_nil))) (fun _ _ => rfl)))
    (pss_one (ps_ret (pe_lc (own := [("_law_at", 5)]) (by rfl) sc__law_cells.nd (pi_range1 (by rfl) T.z_range (pa_cons (pv 1) pa_nil)) (blkOk_by (N := ["_law_d", "_law_high", "_law_wide", "_law_most", "_law_k", "_law_at"]) (sc := defScope s__law_cells) (by decide +kernel)) (fun _ _ _ _ _ => (pg_name (i := 5) sc__law_cells.nd rfl (by first | exact Or.inl rfl | exact Or.inr rfl))) (fun _ _ _ _ _ => pts_nil) (fun _ _ _ _ _ => (pe_lc (own := [("_law_k", 4)]) (by rfl) sc__law_cells.nd (pi_range1 (by rfl) T.z_range (pa_cons (pv 2) pa_nil)) (blkOk_by (by kernel_rfl)) (fun _ _ _ _ _ => (pg_name (i := 4) sc__law_cells.nd rfl (by first | exact Or.inl rfl | exact Or.inr rfl))) (fun _ _ _ _ _ => pts_nil) (fun _ _ _ _ _ => (pe_fn G__law_off hr (by rfl) (pa_cons (pv 0) (pa_cons (pv 3) pa_nil))))))))))), ?_⟩
    obtain ⟨F, d, hh, ww, rfl, wd, h1, h2, q⟩ := h
    refine ⟨by show 3 ≤ sizeLine; decide, fun l hl => ?_⟩
    have g1 := (Gr.refl wd).wr (o := .lst [.int 2, .int 4, .int 256]) wd hl (wd.s.free hl)
    refine ⟨.ref d, rfl, d, 3, rfl, (g1.wd wd).j, by decide, by decide, fun i ms i0 i1 hm => ?_⟩
    have g2 := gr_dice (g1.wd wd) hm
    have g12 := g1.trans wd g2
    have wd2 := g12.wd wd
    have lm := (Lm.new (u := .lst [.int 2, .int 4, .int 256]) wd (Gr.refl wd) hl).gr wd g2
    obtain ⟨m, hm, m1, m2⟩ : ∃ m : Int, ([.int 2, .int 4, .int 256] : List V)[i.toNat]? = some (.int m) ∧ 1 ≤ m ∧ m ≤ 256 := by
      have hi : i = 0 ∨ i = 1 ∨ i = 2 := by omega
      rcases hi with rfl | rfl | rfl
      · exact ⟨2, rfl, by decide, by decide⟩
      · exact ⟨4, rfl, by decide, by decide⟩
      · exact ⟨256, rfl, by decide, by decide⟩
    refine ⟨l, _, i, .int m, rfl, rfl, sql_of lm.h, atI_ofI i0 hm, ?_⟩
    dsimp only [gName, tRet]
    refine lc_of ?_
    refine ⟨.int hh, rfl, hh, rfl, by omega, by omega, comp_range (n := hh) wd2 (by omega) (fun _ y F' => ∃ r : List Int, (r.length = ww ∧ ∀ c ∈ r, 0 ≤ c ∧ c ≤ 255) ∧ Dt K F' y (dRow r)) (fun _ _ _ _ s ⟨r, a, b⟩ => ⟨r, a, b.up s⟩) (by exact fun _ => rfl) ?_ ?_⟩
    · intro a F3 H3 ha g3 Q1 k1
      have wd3 := g3.wd wd2
      refine lc_of ?_
      refine ⟨.int ww, rfl, ww, rfl, by omega, by omega, comp_range (n := ww) wd3 (by omega) (fun _ y _ => ∃ c : Int, y = .int c ∧ 0 ≤ c ∧ c ≤ 255) (fun _ _ _ _ _ h => h) (by exact fun _ => rfl) ?_ ?_⟩
      · intro b F4 H4 hb g4 Q2 k2
        exact ⟨.ref d, rfl, .int m, rfl, d, m, rfl, (g4.wd wd3).j, m1, by omega, fun i ms i0 i1 hm => k2 _ F4 _ (gr_dice (g4.wd wd3) hm) ⟨i, rfl, i0, by omega⟩⟩
      · intro D ys F4 H4 hD g4 e pr
        obtain ⟨r, e1, e2, e3⟩ := paired_vals pr
        rw [List.length_range] at e2
        rw [e1] at e
        exact k1 _ F4 H4 g4 ⟨r, ⟨e2, e3⟩, dt_row_mk e⟩
    · intro D ys F3 H3 hD g3 e pr
      obtain ⟨ds, p1, p2⟩ := paired_ex pr
      have hp := paired_all p1
      have hl2 := paired_len p1
      rw [List.length_range] at hl2
      exact q _ ds F3 H3 (g12.trans wd g3) ⟨hl2.symm, fun r hr => (hp r hr).1, fun r hr => (hp r hr).2⟩ (.lst e p2)
theorem sc__law_frame : FnScope ["_law_d", "_law_high", "_law_wide", "_law_kinds"] ["_law_d"] (defScope s__law_frame) := ⟨rfl, rfl, rfl, by decide +kernel, rfl, by decide +kernel, by decide +kernel⟩
theorem has__law_frame {P : Program} {w : World} {K : PySem.W.Frag} {mg : Str → Option Value} {base : Heap} {k : Nat} (T : Tx w K mg) (G__law_off : Has P w K mg base (k) "_law_off" ["_law_d", "_law_most"] (sp__law_off K)) : Has P w K mg base (k + 1) "_law_frame" ["_law_d"] (sp__law_frame K) := by
  obtain ⟨fd, F⟩ := T.d__law_frame
  refine ⟨_, fd, ?_, T.g__law_frame, F.kp, F.bindsN fun _ _ _ _ _ _ us hl => match us, hl with | [_], _ => rfl⟩
  refine F.ok sc__law_frame (fun vs H Q E h => ?_) (fun cdv A outer s H vs Q E hr h => ?_)
  ·
    repeat first | (obtain ⟨rfl, _⟩ := h; rfl) | (obtain ⟨_, h⟩ := h)
  · have hu := hu_room hr
    refine ⟨_, PSs.nox ((pss_cons (ps_set (i := 1) sc__law_frame.nd rfl (by first | exact Or.inl rfl | exact Or.inr rfl) (pe_op op_add pe_int (pe_fn G__law_off hr (by rfl) (pa_cons (pv 0) (pa_cons pe_int pa_nil)))))
    (pss_cons (ps_set (i := 2) sc__law_frame.nd rfl (by first | exact Or.inl rfl | exact Or.inr rfl) (pe_ix (ixL (K := K) rfl) (pe_lst (pa_cons (pv 1) (pa_cons (pe_op op_add pe_int (pe_fn G__law_off hr (by rfl) (pa_cons (pv 0) (pa_cons pe_int pa_nil)))) pa_nil))) (pe_fn G__law_off hr (by rfl) (pa_cons (pv 0) (pa_cons pe_int pa_nil))) (fun _ _ => rfl)))
    (pss_cons (ps_if (pt_cmpR op_eq (pe_fn G__law_off hr (by rfl) (pa_cons (pv 0) (pa_cons pe_int pa_nil))) pe_int (nomark _)) (pss_cons (ps_set (i := 1) sc__law_frame.nd rfl (by first | exact Or.inl rfl | exact Or.inr rfl) (pe_op op_add pe_int (pe_fn G__law_off hr (by rfl) (pa_cons (pv 0) (pa_cons pe_int pa_nil)))))
    (pss_one (ps_set (i := 2) sc__law_frame.nd rfl (by first | exact Or.inl rfl | exact Or.inr rfl) (pe_ix (ixL (K := K) rfl) (pe_lst (pa_cons (pv 1) (pa_cons (pe_op op_add pe_int (pe_fn G__law_off hr (by rfl) (pa_cons (pv 0) (pa_cons pe_int pa_nil)))) pa_nil))) (pe_fn G__law_off hr (by rfl) (pa_cons (pv 0) (pa_cons pe_int pa_nil))) (fun _ _ => rfl))))) pss_nil)
    (pss_cons (ps_set (i := 3) sc__law_frame.nd rfl (by first | exact Or.inl rfl | exact Or.inr rfl) (pe_lst (pa_cons pe_str (pa_cons pe_str (pa_cons pe_str (pa_cons pe_str pa_nil))))))
    (pss_cons (ps_if (pt_cmpR op_eq (pv 1) (pv 2) (nomark _)) (pss_one (ps_set (i := 3) sc__law_frame.nd rfl (by first | exact Or.inl rfl | exact Or.inr rfl) (pe_op op_cat (pv 3) (pe_lst (pa_cons pe_str (pa_cons pe_str pa_nil)))))) pss_nil)
    (pss_one (ps_ret (pe_tup (pa_cons (pv 1) (pa_cons (pv 2) (pa_cons (pe_ix (ixL (K := K) rfl) (pv 3) (pe_fn G__law_off hr (by rfl) (pa_cons (pv 0) (pa_cons (pe_callB (lenQ (K := K) rfl) (by rfl) T.z_len (by decide +kernel) (pa_cons (pv 3) pa_nil)) pa_nil))) (fun _ _ => rfl)) pa_nil)))))))))))), ?_⟩
    obtain ⟨F, d, rfl, wd, q⟩ := h
    -- 1 + off(d, n)
    have one : ∀ (n : Nat) (σ : L2.St) (H1 : Hp) (Q1 : VK), 1 ≤ n → n ≤ 16 → σ[0]? = some (some (.ref d)) → Wd (mD d) F H1 → (∀ (h : Nat) H2, Gr (mD d) F H1 F H2 → 1 ≤ h → h ≤ 16 → Q1 (.int h) H2) →
        tOp (rI0 fun i j => V.int (i + j)) (tC (V.int 1)) (tCall (sp__law_off K) [] E0 (tCons (tVar 0) (tCons (tC (V.int n)) tNil))) σ H1 Q1 := by
      intro n σ H1 Q1 n1 n2 e0 wd1 q1
      refine ⟨.ref d, e0, d, n, rfl, wd1.j, by omega, by omega, fun i ms i0 i1 hm => ?_⟩
      obtain ⟨h, rfl⟩ := Int.eq_ofNat_of_zero_le i0
      refine ⟨1, (h : Int), rfl, rfl, ?_⟩
      have e := q1 (h + 1) _ (gr_dice wd1 hm) (by omega) (by omega)
      rw [show ((h + 1 : Nat) : Int) = 1 + (h : Int) by omega] at e
      exact e
    have wide : ∀ (n h : Nat) (σ : L2.St) (H1 : Hp) (Q1 : VK), 1 ≤ n → n ≤ 16 → 1 ≤ h → h ≤ 16 → σ[0]? = some (some (.ref d)) → σ[1]? = some (some (.int h)) → Wd (mD d) F H1 → (∀ (w : Nat) H2, Gr (mD d) F H1 F H2 → 1 ≤ w → w ≤ 16 → Q1 (.int w) H2) →
        tOp (rIxL K) (tLst (tCons (tVar 1) (tCons (tOp (rI0 fun i j => V.int (i + j)) (tC (V.int 1)) (tCall (sp__law_off K) [] E0 (tCons (tVar 0) (tCons (tC (V.int n)) tNil)))) tNil))) (tCall (sp__law_off K) [] E0 (tCons (tVar 0) (tCons (tC (V.int 2)) tNil))) σ H1 Q1 := by
      intro n h σ H1 Q1 n1 n2 b1 b2 e0 e1 wd1 q1
      refine ⟨.int h, e1, one n σ H1 _ n1 n2 e0 wd1 fun h2 H2 g2 c1 c2 => ⟨by show 2 ≤ sizeLine; decide, fun l hl => ?_⟩⟩
      have wd2 := g2.wd wd1
      have g3 := (Gr.refl wd2).wr (o := .lst [.int h, .int h2]) wd2 hl (wd2.s.free hl)
      have lm := Lm.new (u := .lst [.int h, .int h2]) wd2 (Gr.refl wd2) hl
      have wd3 := g3.wd wd2
      refine ⟨.ref d, e0, d, 2, rfl, wd3.j, by decide, by decide, fun i ms i0 i1 hm => ?_⟩
      have g4 := gr_dice wd3 hm
      have lm2 := lm.gr wd2 g4
      have gg := (g2.trans wd1 g3).trans wd1 g4
      have hi : i = 0 ∨ i = 1 := by omega
      rcases hi with rfl | rfl
      · exact ⟨l, _, 0, .int h, rfl, rfl, sql_of lm2.h, atI_nat (j := 0) rfl, q1 h _ gg b1 b2⟩
      · exact ⟨l, _, 1, .int h2, rfl, rfl, sql_of lm2.h, atI_nat (j := 1) rfl, q1 h2 _ gg c1 c2⟩
    -- high, wide
    refine one 4 _ H _ (by decide) (by decide) rfl wd fun h1 H1 g1 b1 b2 => ?_
    refine wide 4 h1 _ H1 _ (by decide) (by decide) b1 b2 rfl rfl (g1.wd wd) fun w1 H2 g2 c1 c2 => ?_
    have g12 := g1.trans wd g2
    have wd2 := g12.wd wd
    -- behind the second drawing
    have rest : ∀ (h w : Nat) (H4 : Hp), Gr (mD d) F H F H4 → 1 ≤ h → h ≤ 16 → 1 ≤ w → w ≤ 16 →
        (tSeq (tAsg (tLst (tCons (tC (V.str "plain")) (tCons (tC (V.str "half")) (tCons (tC (V.str "mirror")) (tCons (tC (V.str "both")) tNil))))) (gName 3))
          (tSeq (tIfS (tTest (tOp rEq (tVar 1) (tVar 2))) (tAsg (tOp rCat (tVar 3) (tLst (tCons (tC (V.str "turn")) (tCons (tC (V.str "all")) tNil)))) (gName 3)) tNext)
            (tRet (tTup (tCons (tVar 1) (tCons (tVar 2) (tCons (tOp (rIxL K) (tVar 3) (tCall (sp__law_off K) [] E0 (tCons (tVar 0) (tCons (tCB (rLenQ K) (tCons (tVar 3) tNil)) tNil)))) tNil)))))))
          { nx := fun x H' => Q V.non H', rt := Q } [some (.ref d), some (.int h), some (.int w), none] H4 := by
      intro h w H4 g4 b1 b2 c1 c2
      have wd4 := g4.wd wd
      -- with the kinds there
      have fin : ∀ (l : Addr) (ks : List Str) (H5 : Hp), Gr (mD d) F H F H5 → H5 l = some (.lst (ks.map V.str)) → H l = none → 1 ≤ ks.length → ks.length ≤ 10 → (∀ k ∈ ks, KFit k h w) →
          tRet (tTup (tCons (tVar 1) (tCons (tVar 2) (tCons (tOp (rIxL K) (tVar 3) (tCall (sp__law_off K) [] E0 (tCons (tVar 0) (tCons (tCB (rLenQ K) (tCons (tVar 3) tNil)) tNil)))) tNil))))
          { nx := fun x H' => Q V.non H', rt := Q } [some (.ref d), some (.int h), some (.int w), some (.ref l)] H5 := by
        intro l ks H5 g5 e5 z5 k1 k2 kf
        have wd5 := g5.wd wd
        refine ⟨.int h, rfl, .int w, rfl, .ref l, rfl, .ref d, rfl, .ref l, rfl, l, _, rfl, .inl (sql_of e5), d, _, rfl, wd5.j, by rw [List.length_map]; omega, by rw [List.length_map]; omega, fun i ms i0 i1 hm => ?_⟩
        rw [List.length_map] at i1
        have g6 := gr_dice wd5 hm
        have e6 := g6.h _ _ (wd.nM z5) e5
        have hi : i.toNat < ks.length := by omega
        refine ⟨l, _, i, .str ks[i.toNat], rfl, rfl, sql_of e6, atI_ofI i0 (map_get (List.getElem?_eq_getElem hi)), by show 3 ≤ sizeLine; decide, fun T hT => ?_⟩
        exact q T _ _ h w ks[i.toNat] ((g5.trans wd g6).new wd hT) (sqt_of upd_same) b1 b2 c1 c2 (kf _ (List.getElem_mem hi))
      refine ⟨by show 4 ≤ sizeLine; decide, fun l hl => ?_⟩
      have g5 := g4.wr (o := .lst [.str "plain", .str "half", .str "mirror", .str "both"]) wd (g4.same wd hl) (g4.s.free hl)
      have lm5 := Lm.new (u := .lst [.str "plain", .str "half", .str "mirror", .str "both"]) wd g4 hl
      have even : ∀ k ∈ (["plain", "half", "mirror", "both"] : List Str), KFit k h w := by
        intro k hk
        simp only [List.mem_cons, List.not_mem_nil, or_false] at hk
        rcases hk with rfl | rfl | rfl | rfl <;> exact ⟨by unfold IsKind; decide, fun q hq ho => absurd ho (by revert q; decide)⟩
      refine ⟨.int h, rfl, .int w, rfl, rfl, _, rfl, ite2 (fun e => ?_) (fun e => ?_)⟩
      · have ew : h = w := by
          have := V.int.inj (of_decide_eq_true e)
          omega
        refine ⟨.ref l, rfl, by show 2 ≤ sizeLine; decide, fun l2 hl2 => ?_⟩
        have g6 := g5.wr (o := .lst [.str "turn", .str "all"]) wd (g5.same wd hl2) (g5.s.free hl2)
        have n2 : l ≠ l2 := ne_of_none lm5.h hl2
        refine ⟨l, l2, _, _, rfl, rfl, (lm5.wr n2).h, upd_same, by show 6 ≤ sizeLine; decide, fun l3 hl3 => ?_⟩
        have g7 := g6.wr (o := .lst ([.str "plain", .str "half", .str "mirror", .str "both"] ++ [.str "turn", .str "all"])) wd (g6.same wd hl3) (g6.s.free hl3)
        refine fin l3 ["plain", "half", "mirror", "both", "turn", "all"] _ g7 upd_same (g6.same wd hl3) (by decide) (by decide) fun k hk => ?_
        subst ew
        refine ⟨?_, fun _ _ _ => rfl⟩
        unfold IsKind
        revert k
        decide
      · exact fin l ["plain", "half", "mirror", "both"] _ g5 lm5.h lm5.z (by decide) (by decide) even
    refine ⟨.ref d, rfl, d, 9, rfl, wd2.j, by decide, by decide, fun i ms i0 i1 hm => ?_⟩
    have g3 := gr_dice wd2 hm
    have g13 := g12.trans wd g3
    have wd3 := g13.wd wd
    refine ⟨rfl, _, rfl, ite2 (fun e => ?_) (fun e => ?_)⟩
    · refine one 16 _ _ _ (by decide) (by decide) rfl wd3 fun h4 H4 g4 b1 b2 => ?_
      refine wide 16 h4 _ H4 _ (by decide) (by decide) b1 b2 rfl rfl (g4.wd wd3) fun w5 H5 g5 c1 c2 => ?_
      exact rest h4 w5 H5 ((g13.trans wd g4).trans wd g5) b1 b2 c1 c2
    · exact rest h1 w1 _ g13 b1 b2 c1 c2
theorem sc__law_ways : FnScope ["_law_kind", "_law_ways_here"] ["_law_kind"] (defScope s__law_ways) := ⟨rfl, rfl, rfl, by decide +kernel, rfl, by decide +kernel, by decide +kernel⟩
theorem has__law_ways {P : Program} {w : World} {K : PySem.W.Frag} {mg : Str → Option Value} {base : Heap} {k : Nat} (T : Tx w K mg)  : Has P w K mg base (k + 1) "_law_ways" ["_law_kind"] (sp__law_ways K) := by
  obtain ⟨fd, F⟩ := T.d__law_ways
  refine ⟨_, fd, ?_, T.g__law_ways, F.kp, F.bindsN fun _ _ _ _ _ _ us hl => match us, hl with | [_], _ => rfl⟩
  refine F.ok sc__law_ways (fun vs H Q E h => ?_) (fun cdv A outer s H vs Q E hr h => ?_)
  ·
    repeat first | (obtain ⟨rfl, _⟩ := h; rfl) | (obtain ⟨_, h⟩ := h)
  · have hu := hu_room hr
    refine ⟨_, PSs.nox ((pss_cons (ps_set (i := 1) sc__law_ways.nd rfl (by first | exact Or.inl rfl | exact Or.inr rfl) (pe_disp (pps_cons pe_str (pe_lst (pa_cons (pe_tup (pa_cons pe_int (pa_cons pe_int pa_nil))) pa_nil)) (pps_cons pe_str (pe_lst (pa_cons (pe_tup (pa_cons pe_int (pa_cons pe_int pa_nil))) (pa_cons (pe_tup (pa_cons pe_int (pa_cons pe_int pa_nil))) pa_nil))) (pps_cons pe_str (pe_lst (pa_cons (pe_tup (pa_cons pe_int (pa_cons pe_int pa_nil))) (pa_cons (pe_tup (pa_cons pe_int (pa_cons pe_int pa_nil))) pa_nil))) pps_nil))) (by rfl) (by rfl) (fun z => by cases z) (by decide)))
    (pss_cons (ps_dput hu (pv 1) pe_str (pe_lst (pa_cons (pe_tup (pa_cons pe_int (pa_cons pe_int pa_nil))) (pa_cons (pe_tup (pa_cons pe_int (pa_cons pe_int pa_nil))) (pa_cons (pe_tup (pa_cons pe_int (pa_cons pe_int pa_nil))) (pa_cons (pe_tup (pa_cons pe_int (pa_cons pe_int pa_nil))) pa_nil))))) rfl)
    (pss_cons (ps_dput hu (pv 1) pe_str (pe_lst (pa_cons (pe_tup (pa_cons pe_int (pa_cons pe_int pa_nil))) (pa_cons (pe_tup (pa_cons pe_int (pa_cons pe_int pa_nil))) (pa_cons (pe_tup (pa_cons pe_int (pa_cons pe_int pa_nil))) (pa_cons (pe_tup (pa_cons pe_int (pa_cons pe_int pa_nil))) pa_nil))))) rfl)
    (pss_cons (ps_dput hu (pv 1) pe_str (pe_op op_cat (pe_dget hu (pv 1) pe_str (fun _ _ => rfl)) (pe_lst (pa_cons (pe_tup (pa_cons pe_int (pa_cons pe_int pa_nil))) (pa_cons (pe_tup (pa_cons pe_int (pa_cons pe_int pa_nil))) (pa_cons (pe_tup (pa_cons pe_int (pa_cons pe_int pa_nil))) (pa_cons (pe_tup (pa_cons pe_int (pa_cons pe_int pa_nil))) pa_nil)))))) rfl)
    (pss_one (ps_ret (pe_dget hu (pv 1) (pv 0) (fun _ _ => rfl))))))))), ?_⟩
    obtain ⟨F, kind, rfl, wd, hk, q⟩ := h
    refine fun p hp => ?_
    have g1 := (Gr.refl wd).wr (o := .dK []) wd hp (wd.s.free hp)
    have lm1 : Lm H F (upd H p (.dK [])) p (.dK []) := Lm.new wd (Gr.refl wd) hp
    generalize upd H p (.dK []) = H1 at g1 lm1
    refine ways_pair (ws := [(0, 0)]) (ways_lst (K := K) [(0, 0)] (by decide) (g1.wd wd) fun D1 y1 F1 H2 g e1 a1 => ?_)
    have g2 := g1.trans wd g
    have lm2 := lm1.gr wd g
    have f1 := g.f
    clear g
    refine ways_pair (ws := [(0, 0), (2, 0)]) (ways_lst (K := K) [(0, 0), (2, 0)] (by decide) (g2.wd wd) fun D2 y2 F2 H3 g e2 a2 => ?_)
    have g3 := g2.trans wd g
    have lm3 := lm2.gr wd g
    have f2 := g.f
    clear g
    refine ways_pair (ws := [(0, 0), (0, 1)]) (ways_lst (K := K) [(0, 0), (0, 1)] (by decide) (g3.wd wd) fun D3 y3 F3 H4 g e3 a3 => ?_)
    have g4 := g3.trans wd g
    have lm4 := lm3.gr wd g
    have f3 := g.f
    clear g
    refine ⟨lm4.h, [(.inr "plain", .ref D1), (.inr "half", .ref D2), (.inr "mirror", .ref D3)], rfl, by show 3 ≤ 15; decide, ?_⟩
    have g5 := g4.wr (o := .dK [(.inr "plain", .ref D1), (.inr "half", .ref D2), (.inr "mirror", .ref D3)]) wd lm4.z lm4.f
    have lm5 := lm4.set (u := .dK [(.inr "plain", .ref D1), (.inr "half", .ref D2), (.inr "mirror", .ref D3)])
    refine ways_put (ws := [(0, 0), (1, 0), (2, 0), (3, 0)]) (ways_lst (K := K) [(0, 0), (1, 0), (2, 0), (3, 0)] (by decide) (g5.wd wd) fun D4 y4 F4 H6 g e4 a4 => ?_)
    have g6 := g5.trans wd g
    have lm6 := lm5.gr wd g
    have f4 := g.f
    clear g
    refine ⟨.ref p, rfl, p, _, rfl, .inl ⟨_, .inr "turn", lm6.h, rfl, by show 3 < sizeLine; decide, rfl⟩, ?_⟩
    have g7 := g6.wr (o := .dK (putK [(.inr "plain", .ref D1), (.inr "half", .ref D2), (.inr "mirror", .ref D3)] (.inr "turn") (.ref D4))) wd lm6.z lm6.f
    have lm7 := lm6.set (u := .dK (putK [(.inr "plain", .ref D1), (.inr "half", .ref D2), (.inr "mirror", .ref D3)] (.inr "turn") (.ref D4)))
    refine ways_put (ws := [(0, 0), (2, 0), (0, 1), (2, 1)]) (ways_lst (K := K) [(0, 0), (2, 0), (0, 1), (2, 1)] (by decide) (g7.wd wd) fun D5 y5 F5 H8 g e5 a5 => ?_)
    have g8 := g7.trans wd g
    have lm8 := lm7.gr wd g
    have f5 := g.f
    clear g
    refine ⟨.ref p, rfl, p, _, rfl, .inl ⟨_, .inr "both", lm8.h, rfl, by show 4 < sizeLine; decide, rfl⟩, ?_⟩
    have ek : putK (putK [((.inr "plain" : Key), V.ref D1), (.inr "half", .ref D2), (.inr "mirror", .ref D3)] (.inr "turn") (.ref D4)) (.inr "both") (.ref D5) = [(.inr "plain", .ref D1), (.inr "half", .ref D2), (.inr "mirror", .ref D3), (.inr "turn", .ref D4), (.inr "both", .ref D5)] := rfl
    rw [ek]
    have g9 := g8.wr (o := .dK [(.inr "plain", .ref D1), (.inr "half", .ref D2), (.inr "mirror", .ref D3), (.inr "turn", .ref D4), (.inr "both", .ref D5)]) wd lm8.z lm8.f
    have lm9 := lm8.set (u := .dK [(.inr "plain", .ref D1), (.inr "half", .ref D2), (.inr "mirror", .ref D3), (.inr "turn", .ref D4), (.inr "both", .ref D5)])
    generalize upd H8 p (.dK [(.inr "plain", .ref D1), (.inr "half", .ref D2), (.inr "mirror", .ref D3), (.inr "turn", .ref D4), (.inr "both", .ref D5)]) = H9 at g9 lm9
    clear g8 g7 g6 g5 g4 g3 g2 g1 lm1 lm2 lm3 lm4 lm5 lm6 lm7 lm8
    dsimp only [tSeq, sDPut, tOp]
    refine ⟨.ref p, rfl, p, .ref D4, rfl, .inl ⟨_, .inr "turn", .inl lm9.h, rfl, rfl⟩, ?_⟩
    refine ways_lst (K := K) [(0, 1), (1, 1), (2, 1), (3, 1)] (by decide) (g9.wd wd) fun D6 y6 F6 H10 g e6 a6 => ?_
    have g10 := g9.trans wd g
    have lm10 := lm9.gr wd g
    have f6 := g.f
    clear g
    have w10 := g10.wd wd
    have l4 := dtAll_len a4
    have l6 := dtAll_len a6
    refine ⟨D4, D6, y4, y6, rfl, rfl, w10.s _ _ (f6 _ _ (f5 _ _ e4)), w10.s _ _ e6, ?_, fun A hA => ?_⟩
    · rw [l4, l6]
      decide
    have g11 := g10.new (o := .lst (y4 ++ y6)) wd hA
    have lm11 : Lm H (upd F6 A (.lst (y4 ++ y6))) (upd H10 A (.lst (y4 ++ y6))) p _ := ⟨lm10.z, by rw [upd_ne (ne_of_none lm10.h hA)]; exact lm10.f, by rw [upd_ne (ne_of_none lm10.h hA)]; exact lm10.h⟩
    have s6 := same_new (o := .lst (y4 ++ y6)) (w10.s.free hA)
    have eA : upd F6 A (.lst (y4 ++ y6)) A = some (.lst (y4 ++ y6)) := upd_same
    have aA := (dtAll_app ((a4.up (f5.trans f6)).up s6) (a6.up s6))
    refine ⟨.ref p, rfl, p, _, rfl, .inl ⟨_, .inr "all", lm11.h, rfl, by show 5 < sizeLine; decide, rfl⟩, ?_⟩
    have ek : putK [((.inr "plain" : Key), V.ref D1), (.inr "half", .ref D2), (.inr "mirror", .ref D3), (.inr "turn", .ref D4), (.inr "both", .ref D5)] (.inr "all") (.ref A) = [(.inr "plain", .ref D1), (.inr "half", .ref D2), (.inr "mirror", .ref D3), (.inr "turn", .ref D4), (.inr "both", .ref D5), (.inr "all", .ref A)] := rfl
    rw [ek]
    have g12 := g11.wr (o := .dK [(.inr "plain", .ref D1), (.inr "half", .ref D2), (.inr "mirror", .ref D3), (.inr "turn", .ref D4), (.inr "both", .ref D5), (.inr "all", .ref A)]) wd lm11.z lm11.f
    have hp12 : upd (upd H10 A (.lst (y4 ++ y6))) p (.dK [(.inr "plain", .ref D1), (.inr "half", .ref D2), (.inr "mirror", .ref D3), (.inr "turn", .ref D4), (.inr "both", .ref D5), (.inr "all", .ref A)]) p = some (.dK [(.inr "plain", .ref D1), (.inr "half", .ref D2), (.inr "mirror", .ref D3), (.inr "turn", .ref D4), (.inr "both", .ref D5), (.inr "all", .ref A)]) := upd_same
    generalize upd (upd H10 A (.lst (y4 ++ y6))) p (.dK [(.inr "plain", .ref D1), (.inr "half", .ref D2), (.inr "mirror", .ref D3), (.inr "turn", .ref D4), (.inr "both", .ref D5), (.inr "all", .ref A)]) = H12 at g12 hp12
    have s5 := f6.trans s6
    have s4 := f5.trans s5
    have s3 := f4.trans s4
    have s2 := f3.trans s3
    have s1 := f2.trans s2
    rcases kind_cases hk with rfl | rfl | rfl | rfl | rfl | rfl
    · exact ⟨.ref p, rfl, .str "plain", rfl, p, .ref D1, rfl, .inl ⟨_, .inr "plain", .inl hp12, rfl, rfl⟩, q D1 y1 _ H12 g12 (s1 _ _ e1) (a1.up s1)⟩
    · exact ⟨.ref p, rfl, .str "half", rfl, p, .ref D2, rfl, .inl ⟨_, .inr "half", .inl hp12, rfl, rfl⟩, q D2 y2 _ H12 g12 (s2 _ _ e2) (a2.up s2)⟩
    · exact ⟨.ref p, rfl, .str "turn", rfl, p, .ref D4, rfl, .inl ⟨_, .inr "turn", .inl hp12, rfl, rfl⟩, q D4 y4 _ H12 g12 (s4 _ _ e4) (a4.up s4)⟩
    · exact ⟨.ref p, rfl, .str "mirror", rfl, p, .ref D3, rfl, .inl ⟨_, .inr "mirror", .inl hp12, rfl, rfl⟩, q D3 y3 _ H12 g12 (s3 _ _ e3) (a3.up s3)⟩
    · exact ⟨.ref p, rfl, .str "both", rfl, p, .ref D5, rfl, .inl ⟨_, .inr "both", .inl hp12, rfl, rfl⟩, q D5 y5 _ H12 g12 (s5 _ _ e5) (a5.up s5)⟩
    · exact ⟨.ref p, rfl, .str "all", rfl, p, .ref A, rfl, .inl ⟨_, .inr "all", .inl hp12, rfl, rfl⟩, q A _ _ H12 g12 eA aA⟩
theorem sc__law_moved : FnScope ["_law_rows", "_law_way", "_law_found", "_law_row", "_law_turn", "_law_wide", "_law_at", "_law_k"] ["_law_rows", "_law_way"] (defScope s__law_moved) := ⟨rfl, rfl, rfl, by decide +kernel, rfl, by decide +kernel, by decide +kernel⟩
theorem has__law_moved {P : Program} {w : World} {K : PySem.W.Frag} {mg : Str → Option Value} {base : Heap} {k : Nat} (T : Tx w K mg)  : Has P w K mg base (k + 1) "_law_moved" ["_law_rows", "_law_way"] (sp__law_moved K) := by
  obtain ⟨fd, F⟩ := T.d__law_moved
  refine ⟨_, fd, ?_, T.g__law_moved, F.kp, F.bindsN fun _ _ _ _ _ _ us hl => match us, hl with | [_, _], _ => rfl⟩
  refine F.ok sc__law_moved (fun vs H Q E h => ?_) (fun cdv A outer s H vs Q E hr h => ?_)
  ·
    repeat first | (obtain ⟨rfl, _⟩ := h; rfl) | (obtain ⟨_, h⟩ := h)
  · have hu := hu_room hr
    refine ⟨_, PSs.nox ((pss_cons (ps_set (i := 2) sc__law_moved.nd rfl (by first | exact Or.inl rfl | exact Or.inr rfl) (pe_lc (own := [("_law_row", 3)]) (by rfl) sc__law_moved.nd (pi_listQ (K := K) rfl (pv 0)) (blkOk_by (N := ["_law_rows", "_law_way", "_law_found", "_law_row", "_law_turn", "_law_wide", "_law_at", "_law_k"]) (sc := defScope s__law_moved) (by decide +kernel)) (fun _ _ _ _ _ => (pg_name (i := 3) sc__law_moved.nd rfl (by first | exact Or.inl rfl | exact Or.inr rfl))) (fun _ _ _ _ _ => pts_nil) (fun _ _ _ _ _ => (pe_callTy (lstQ (K := K) rfl) (by rfl) T.z_list (by decide +kernel) (pa_cons (pv 3) pa_nil)))))
    (pss_cons (ps_if (pt_cmpR op_eq (pe_ix (ixT (K := K) rfl) (pv 1) pe_int (fun _ _ => rfl)) pe_int (nomark _)) (pss_one (ps_set (i := 2) sc__law_moved.nd rfl (by first | exact Or.inl rfl | exact Or.inr rfl) (pe_lc (own := [("_law_row", 3)]) (by rfl) sc__law_moved.nd (pi_listQ (K := K) rfl (pv 2)) (blkOk_by (N := ["_law_rows", "_law_way", "_law_found", "_law_row", "_law_turn", "_law_wide", "_law_at", "_law_k"]) (sc := defScope s__law_moved) (by decide +kernel)) (fun _ _ _ _ _ => (pg_name (i := 3) sc__law_moved.nd rfl (by first | exact Or.inl rfl | exact Or.inr rfl))) (fun _ _ _ _ _ => pts_nil) (fun _ _ _ _ _ => (pe_revLQ (K := K) rfl (pv 3)))))) pss_nil)
    (pss_cons (ps_for PassesOwn.never rfl (pi_range1 (by rfl) T.z_range (pa_cons (pe_ix (ixT (K := K) rfl) (pv 1) pe_int (fun _ _ => rfl)) pa_nil)) (pg_name (i := 4) sc__law_moved.nd rfl (by first | exact Or.inl rfl | exact Or.inr rfl)) (pss_cons (ps_set (i := 5) sc__law_moved.nd rfl (by first | exact Or.inl rfl | exact Or.inr rfl) (pe_callB (lenQ (K := K) rfl) (by rfl) T.z_len (by decide +kernel) (pa_cons (pe_ix (ixL (K := K) rfl) (pv 2) pe_int (fun _ _ => rfl)) pa_nil)))
    (pss_one (ps_set (i := 2) sc__law_moved.nd rfl (by first | exact Or.inl rfl | exact Or.inr rfl) (pe_lc (own := [("_law_k", 7)]) (by rfl) sc__law_moved.nd (pi_range1 (by rfl) T.z_range (pa_cons (pv 5) pa_nil)) (blkOk_by (N := ["_law_rows", "_law_way", "_law_found", "_law_row", "_law_turn", "_law_wide", "_law_at", "_law_k"]) (sc := defScope s__law_moved) (by decide +kernel)) (fun _ _ _ _ _ => (pg_name (i := 7) sc__law_moved.nd rfl (by first | exact Or.inl rfl | exact Or.inr rfl))) (fun _ _ _ _ _ => pts_nil) (fun _ _ _ _ _ => (pe_lc (own := [("_law_at", 6)]) (by rfl) sc__law_moved.nd (pi_range1 (by rfl) T.z_range (pa_cons (pe_callB (lenQ (K := K) rfl) (by rfl) T.z_len (by decide +kernel) (pa_cons (pv 2) pa_nil)) pa_nil)) (blkOk_by (by kernel_rfl)) (fun _ _ _ _ _ => (pg_name (i := 6) sc__law_moved.nd rfl (by first | exact Or.inl rfl | exact Or.inr rfl))) (fun _ _ _ _ _ => pts_nil) (fun _ _ _ _ _ => (pe_ix (ixL (K := K) rfl) (pe_ix (ixL (K := K) rfl) (pv 2) (pv 6) (fun _ _ => rfl)) (pe_op op_sub (pe_op op_sub (pv 5) pe_int) (pv 7)) (fun _ _ => rfl))))))))))
    (pss_one (ps_ret (pv 2))))))), ?_⟩
    obtain ⟨v, m, Pc, hh, ww, t, s, wy, rfl, hT, hd, hp, h1, w1, h2, w2, t2, q⟩ := h
    obtain ⟨a, xs, rfl, hS, hl, hrow⟩ := dt_mat hd
    have hml := hp.hi
    dsimp only [tSeq, tAsg]
    refine lc_of ?_
    refine ⟨.ref a, rfl, a, rfl, ⟨_, sql_of hS⟩, comp_matL (m := m0) (F := H) (wd0 (Same.refl H)) m hl.symm (sql_of hS) (by omega) (fun r => r) (by exact fun _ => rfl) ?_ ?_⟩
    · intro i r x H1 hi hx g Q1 k1
      obtain ⟨b, hb1, hb2⟩ := hrow i r hi
      rw [hx] at hb1
      cases hb1
      have w1 := g.wd (wd0 (Same.refl H))
      exact ⟨.ref b, rfl, b, _, rfl, .inl (sql_of (g.s _ _ hb2)), fun l hl => k1 l _ hl (Gr.pure w1 (same_new hl)) upd_same⟩
    intro p rs H1 g1 M1
    rw [List.map_id'] at M1
    have s1 : Same H H1 := g1.s
    clear g1
    -- behind the first copy
    have rest : ∀ (p : Addr) (rs : List Addr) (H1 : Hp) (b : List (List Int)) (y3 : Option V), Same H H1 → MatF H H1 p rs b → (∀ n, (n % 2 = 0 → PicP Pc hh ww (turnsT n b)) ∧ (n % 2 = 1 → PicP Pc ww hh (turnsT n b))) → turnsT t b = moveT m t s →
        tSeq (tFor (iRng1 (tCons (tOp (rIxT K) (tVar 1) (tC (V.int 0))) tNil)) (gName 4)
              (tSeq (tAsg (tCB (rLenQ K) (tCons (tOp (rIxL K) (tVar 2) (tC (V.int 0))) tNil)) (gName 5))
                (tAsg
                  (tLc (iRng1 (tCons (tVar 5) tNil)) (gName 7) tYes
                    (tLc (iRng1 (tCons (tCB (rLenQ K) (tCons (tVar 2) tNil)) tNil)) (gName 6) tYes
                      (tOp (rIxL K) (tOp (rIxL K) (tVar 2) (tVar 6))
                        (tOp (rI0 fun i j => V.int (i - j)) (tOp (rI0 fun i j => V.int (i - j)) (tVar 5) (tC (V.int 1)))
                          (tVar 7)))
                      [6])
                    [7])
                  (gName 2))))
            (tRet (tVar 2)) { nx := fun x H' => Q V.non H', rt := Q } [some (.ref a), some (.ref wy), some (.ref p), y3, none, none, none, none] H1 := by
      intro p rs H1 b y3 s1 M hb et
      try dsimp only [tSeq]
      refine for_of ?_
      refine ⟨_, rfl, wy, _, 0, _, rfl, rfl, Evl.ex_t s1 hT, atI_nat (j := 0) rfl, t, rfl, by omega, by omega, ?_⟩
      have e1 : ((t : Nat) : Int).toNat = t := by omega
      rw [e1]
      refine forin_range (fun i σ H' => ∃ y3 y4 y5 y6 y7 p rs, σ = [some (.ref a), some (.ref wy), some (.ref p), y3, y4, y5, y6, y7] ∧ Same H H' ∧ MatF H H' p rs (turnsT i b)) ⟨_, _, _, _, _, p, rs, rfl, s1, M⟩ ?_ ?_
      · rintro i σ H3 hi ⟨y3, y4, y5, y6, y7, p, rs, rfl, s3, M3⟩
        have hcase : ∃ h w, PicP Pc h w (turnsT i b) ∧ 1 ≤ h ∧ 1 ≤ w ∧ h ≤ 1000 ∧ w ≤ 1000 := by
          by_cases e : i % 2 = 0
          · exact ⟨hh, ww, (hb i).1 e, h1, w1, h2, w2⟩
          · exact ⟨ww, hh, (hb i).2 (by omega), w1, h1, w2, h2⟩
        obtain ⟨h', w', hp', a1, a2, a3, a4⟩ := hcase
        have et3 : turnsT (i + 1) b = turnT (turnsT i b) := rfl
        rw [et3]
        generalize turnsT i b = c at hp' M3
        obtain ⟨p0, zs, ep, hS3, hl3, hrow3⟩ := dt_mat (M3.dp (K := K))
        cases ep
        have hcl := hp'.hi
        obtain ⟨b0, hc1, hc2⟩ := hrow3 0 _ (List.getElem?_eq_getElem (by omega))
        have hw0 : (c[0]'(by omega)).length = w' := hp'.wi _ (List.getElem_mem _)
        refine ⟨.ref p, rfl, p, _, 0, _, rfl, rfl, sql_of hS3, atI_nat (j := 0) hc1, b0, _, rfl, .inl (sql_of hc2), ?_⟩
        rw [List.length_map, hw0]
        dsimp only [gName, tAsg]
        refine lc_of ?_
        refine ⟨_, rfl, w', rfl, by omega, by omega, comp_matR (m := m0) (F := H3) (n := w') (wd0 (Same.refl H3)) (by omega) (fun k => c.map fun r => r.getD (w' - 1 - k) 0) (by exact fun _ => rfl) ?_ ?_⟩
        · intro k H4 hk g Q1 k1
          have ek : (0 : Int) + (k : Int) = ((k : Nat) : Int) := by omega
          rw [ek]
          have wd1 := g.wd (wd0 (Same.refl H3))
          refine lc_of ?_
          refine ⟨.ref p, rfl, p, zs, rfl, .inl (sql_of (g.s _ _ hS3)), _, rfl, by omega, by omega, ?_⟩
          have e2 : ((zs.length : Nat) : Int).toNat = c.length := by omega
          rw [e2]
          refine comp_range (m := m0) (F := H3) wd1 (by omega) (fun j y _ => y = .int ((c.getD j []).getD (w' - 1 - k) 0)) (fun _ _ _ _ _ h => h) (by exact fun _ => rfl) ?_ ?_
          · intro j F5 H5 hj g5 Q2 k2
            have ej : (0 : Int) + (j : Int) = ((j : Nat) : Int) := by omega
            rw [ej]
            have hcj : c[j]? = some c[j] := List.getElem?_eq_getElem hj
            obtain ⟨bj, hb1, hb2⟩ := hrow3 j _ hcj
            have hrl := hp'.wi _ (List.getElem_mem hj)
            have hk2 : w' - 1 - k < (c[j]).length := by omega
            have s5 := g5.s
            refine ⟨.ref p, rfl, .int j, rfl, p, zs, j, _, rfl, rfl, sql_of (s5 _ _ (g5.f _ _ hS3)), atI_of hb1, .int w', rfl, w', 1, rfl, rfl, .int k, rfl, _, k, rfl, rfl, bj, _, ((w' - 1 - k : Nat) : Int), _, rfl, ?_, sql_of (s5 _ _ (g5.f _ _ hb2)), atI_of (map_get (List.getElem?_eq_getElem hk2)), ?_⟩
            · show V.int ((w' : Int) - 1 - (k : Int)) = V.int ((w' - 1 - k : Nat) : Int)
              congr 1
              omega
            · refine k2 _ F5 H5 (Gr.refl (g5.wd wd1)) ?_
              rw [getD_get hcj, getD_get (List.getElem?_eq_getElem hk2)]
          · intro D ys F5 H5 hD g5 e pr
            have ey := paired_eq (f := fun j : Nat => V.int ((c.getD j []).getD (w' - 1 - k) 0)) pr
            refine k1 D H5 hD (Gr.pure wd1 fun b o z => g5.h b o (fun y => y) z) ?_
            rw [g5.s _ _ e, ey, ← range_getD (fun r : List Int => r.getD (w' - 1 - k) 0) [] c, List.map_map]
            rfl
        · intro D rs4 H4 g M4
          refine ⟨_, _, _, _, _, D, rs4, rfl, s3.trans g.s, ?_⟩
          have M5 := M4.back s3
          unfold turnT
          rw [hp'.head a1]
          exact M5
      · rintro σ H' ⟨y3, y4, y5, y6, y7, p, rs, rfl, s2, M2⟩
        refine ⟨_, rfl, q p rs H' s2 ?_⟩
        rw [← et]
        exact M2
    refine ⟨.ref wy, rfl, wy, _, 1, _, rfl, rfl, Evl.ex_t s1 hT, atI_nat (j := 1) rfl, rfl, _, rfl, ite2 (fun e => ?_) (fun e => ?_)⟩
    · have e1 : s = 1 := by
        have := V.int.inj (of_decide_eq_true e)
        omega
      obtain ⟨p0, zs, ep, hS3, hl3, hrow3⟩ := dt_mat (M1.dp (K := K))
      cases ep
      dsimp only [gName, tAsg]
      refine lc_of ?_
      refine ⟨.ref p, rfl, p, rfl, ⟨_, sql_of hS3⟩, comp_matL (m := m0) (F := H1) (wd0 (Same.refl H1)) m hl3.symm (sql_of hS3) (by omega) List.reverse (by exact fun _ => rfl) ?_ ?_⟩
      · intro i r x H2 hi hx g Q1 k1
        obtain ⟨b, hb1, hb2⟩ := hrow3 i r hi
        rw [hx] at hb1
        cases hb1
        have w1 := g.wd (wd0 (Same.refl H1))
        exact ⟨.ref b, rfl, b, _, rfl, sql_of (g.s _ _ hb2), fun l hl => k1 l _ hl (Gr.pure w1 (same_new hl)) (by rw [upd_same, List.map_reverse])⟩
      · intro D rs2 H2 g M2
        refine rest D rs2 H2 (mirT m) _ (s1.trans g.s) (M2.back s1) (turns_hw (mir_hw hp) h1 w1) ?_
        unfold moveT
        rw [if_pos e1]
    · have e1 : ¬ s = 1 := fun z => e (decide_eq_true (by rw [z]; rfl))
      refine rest p rs H1 m _ s1 M1 (turns_hw hp h1 w1) ?_
      unfold moveT
      rw [if_neg e1]
theorem sc__law_sum_apart : FnScope ["_law_one", "_law_other", "_law_found", "_law_at", "_law_k"] ["_law_one", "_law_other"] (defScope s__law_sum_apart) := ⟨rfl, rfl, rfl, by decide +kernel, rfl, by decide +kernel, by decide +kernel⟩
theorem has__law_sum_apart {P : Program} {w : World} {K : PySem.W.Frag} {mg : Str → Option Value} {base : Heap} {k : Nat} (T : Tx w K mg)  : Has P w K mg base (k + 1) "_law_sum_apart" ["_law_one", "_law_other"] (sp__law_sum_apart K) := by
  obtain ⟨fd, F⟩ := T.d__law_sum_apart
  refine ⟨_, fd, ?_, T.g__law_sum_apart, F.kp, F.bindsN fun _ _ _ _ _ _ us hl => match us, hl with | [_, _], _ => rfl⟩
  refine F.ok sc__law_sum_apart (fun vs H Q E h => ?_) (fun cdv A outer s H vs Q E hr h => ?_)
  ·
    repeat first | (obtain ⟨rfl, _⟩ := h; rfl) | (obtain ⟨_, h⟩ := h)
  · have hu := hu_room hr
    refine ⟨_, PSs.nox ((pss_cons (ps_set (i := 2) sc__law_sum_apart.nd rfl (by first | exact Or.inl rfl | exact Or.inr rfl) pe_int)
    (pss_cons (ps_for PassesOwn.never rfl (pi_range1 (by rfl) T.z_range (pa_cons (pe_callB (lenQ (K := K) rfl) (by rfl) T.z_len (by decide +kernel) (pa_cons (pv 0) pa_nil)) pa_nil)) (pg_name (i := 3) sc__law_sum_apart.nd rfl (by first | exact Or.inl rfl | exact Or.inr rfl)) (pss_one (ps_for PassesOwn.never rfl (pi_range1 (by rfl) T.z_range (pa_cons (pe_callB (lenQ (K := K) rfl) (by rfl) T.z_len (by decide +kernel) (pa_cons (pe_ix (ixL (K := K) rfl) (pv 0) (pv 3) (fun _ _ => rfl)) pa_nil)) pa_nil)) (pg_name (i := 4) sc__law_sum_apart.nd rfl (by first | exact Or.inl rfl | exact Or.inr rfl)) (pss_one (ps_set (i := 2) sc__law_sum_apart.nd rfl (by first | exact Or.inl rfl | exact Or.inr rfl) (pe_op op_add (pv 2) (pe_callB call_abs (by rfl) T.z_abs (by decide +kernel) (pa_cons (pe_op op_sub (pe_ix (ixL (K := K) rfl) (pe_ix (ixL (K := K) rfl) (pv 0) (pv 3) (fun _ _ => rfl)) (pv 4) (fun _ _ => rfl)) (pe_ix (ixL (K := K) rfl) (pe_ix (ixL (K := K) rfl) (pv 1) (pv 3) (fun _ _ => rfl)) (pv 4) (fun _ _ => rfl))) pa_nil))))))))
    (pss_one (ps_ret (pv 2)))))), ?_⟩
    obtain ⟨v, u, m1, m2, Pc, hh, ww, rfl, hv, hu1, p1, p2, h1, w1, q⟩ := h
    obtain ⟨a, xs, rfl, hA, hla, rowA⟩ := dt_mat hv
    obtain ⟨b, ys, rfl, hB, hlb, rowB⟩ := dt_mat hu1
    have l1 := p1.hi
    have l2 := p2.hi
    dsimp only [tSeq, tAsg, gName]
    refine for_of ?_
    refine ⟨_, rfl, a, xs, rfl, .inl (sql_of hA), _, rfl, by omega, by omega, ?_⟩
    have e1 : ((xs.length : Nat) : Int).toNat = hh := by omega
    rw [e1]
    refine forin_range (fun i σ H' => ∃ y3 y4, σ = [some (.ref a), some (.ref b), some (.int (((m1.zip m2).take i).map fun p => diffR p.1 p.2).sum), y3, y4] ∧ H' = H) ⟨_, _, rfl, rfl⟩ ?_ ?_
    · rintro i σ H' hi ⟨y3, y4, rfl, rfl⟩
      have ei : (0 : Int) + (i : Int) = ((i : Nat) : Int) := by omega
      rw [ei]
      obtain ⟨r, r1, r2, _⟩ := p1.row hi
      obtain ⟨t, t1, t2, _⟩ := p2.row hi
      obtain ⟨c, hc1, hc2⟩ := rowA i _ r1
      obtain ⟨d, hd1, hd2⟩ := rowB i _ t1
      generalize hS : (((m1.zip m2).take i).map fun p => diffR p.1 p.2).sum = S
      try dsimp only [gName]
      refine for_of ?_
      refine ⟨_, rfl, _, rfl, a, _, i, _, rfl, rfl, sql_of hA, atI_of hc1, c, _, rfl, .inl (sql_of hc2), _, rfl, by omega, by rw [List.length_map]; omega, ?_⟩
      have e2 : (((r.map V.int).length : Nat) : Int).toNat = ww := by
        rw [List.length_map]
        omega
      rw [e2]
      refine forin_range (fun j σ H'' => ∃ y4, σ = [some (.ref a), some (.ref b), some (.int (S + ((r.zip t).take j |>.map fun q => iabs (q.1 - q.2)).sum)), some (.int i), y4] ∧ H'' = H') ⟨y4, by simp, rfl⟩ ?_ ?_
      · rintro j σ H'' hj ⟨y4, rfl, rfl⟩
        have ej : (0 : Int) + (j : Int) = ((j : Nat) : Int) := by omega
        rw [ej]
        have rj : r[j]? = some (r[j]'(by omega)) := List.getElem?_eq_getElem (by omega)
        have tj : t[j]? = some (t[j]'(by omega)) := List.getElem?_eq_getElem (by omega)
        generalize r[j]'(by omega) = x at rj
        generalize t[j]'(by omega) = y at tj
        refine ⟨_, rfl, .ref a, rfl, _, rfl, a, _, i, _, rfl, rfl, sql_of hA, atI_of hc1, _, rfl, c, _, j, _, rfl, rfl, sql_of hc2, atI_of (map_get rj), ?_⟩
        refine ⟨.ref b, rfl, _, rfl, b, _, i, _, rfl, rfl, sql_of hB, atI_of hd1, _, rfl, d, _, j, _, rfl, rfl, sql_of hd2, atI_of (map_get tj), x, y, rfl, rfl, _, rfl, _, _, rfl, rfl, ?_⟩
        refine ⟨some (.int j), ?_, rfl⟩
        rw [take_more (zip_get_of rj tj), List.map_append, isum_app]
        simp only [List.map_cons, List.map_nil, List.sum_cons, List.sum_nil, Int.add_zero]
        rw [← Int.add_assoc]
        rfl
      · rintro σ H'' ⟨y4, rfl, rfl⟩
        refine ⟨some (.int i), y4, ?_, rfl⟩
        rw [List.take_of_length_le (by rw [List.length_zip]; omega), take_more (zip_get_of r1 t1), List.map_append, isum_app, hS]
        simp only [List.map_cons, List.map_nil, List.sum_cons, List.sum_nil, Int.add_zero]
        rfl
    · rintro σ H' ⟨y3, y4, rfl, rfl⟩
      rw [List.take_of_length_le (by rw [List.length_zip]; omega)]
      exact ⟨_, rfl, q H' (Same.refl H')⟩
theorem sc__law_apart : FnScope ["_law_one", "_law_other", "_law_kind", "_law_fars", "_law_way", "_law_least", "_law_far_here", "_law_pair"] ["_law_one", "_law_other", "_law_kind"] (defScope s__law_apart) := ⟨rfl, rfl, rfl, by decide +kernel, rfl, by decide +kernel, by decide +kernel⟩
theorem has__law_apart {P : Program} {w : World} {K : PySem.W.Frag} {mg : Str → Option Value} {base : Heap} {k : Nat} (T : Tx w K mg) (G__law_ways : Has P w K mg base (k) "_law_ways" ["_law_kind"] (sp__law_ways K)) (G__law_sum_apart : Has P w K mg base (k) "_law_sum_apart" ["_law_one", "_law_other"] (sp__law_sum_apart K)) (G__law_moved : Has P w K mg base (k) "_law_moved" ["_law_rows", "_law_way"] (sp__law_moved K)) : Has P w K mg base (k + 1) "_law_apart" ["_law_one", "_law_other", "_law_kind"] (sp__law_apart K) := by
  obtain ⟨fd, F⟩ := T.d__law_apart
  refine ⟨_, fd, ?_, T.g__law_apart, F.kp, F.bindsN fun _ _ _ _ _ _ us hl => match us, hl with | [_, _, _], _ => rfl⟩
  refine F.ok sc__law_apart (fun vs H Q E h => ?_) (fun cdv A outer s H vs Q E hr h => ?_)
  ·
    repeat first | (obtain ⟨rfl, _⟩ := h; rfl) | (obtain ⟨_, h⟩ := h)
  · have hu := hu_room hr
    refine ⟨_, PSs.nox ((pss_cons (ps_setLc (i := 3) (own := [("_law_way", 4)]) (by rfl) sc__law_apart.nd rfl rfl (sw_true rfl rfl rfl (by decide +kernel)) (pi_listQ (K := K) rfl (pe_fn G__law_ways hr (by rfl) (pa_cons (pv 2) pa_nil))) (blkOk_by (N := ["_law_one", "_law_other", "_law_kind", "_law_fars", "_law_way", "_law_least", "_law_far_here", "_law_pair"]) (sc := defScope s__law_apart) (by decide +kernel)) (fun _ _ _ _ _ => (pg_name (i := 4) sc__law_apart.nd rfl (by first | exact Or.inl rfl | exact Or.inr rfl))) (fun _ _ _ _ _ => pts_nil) (fun _ _ _ _ _ => (pe_tup (pa_cons (pe_fn G__law_sum_apart hr (by rfl) (pa_cons (pv 0) (pa_cons (pe_fn G__law_moved hr (by rfl) (pa_cons (pv 1) (pa_cons (pv 4) pa_nil))) pa_nil))) (pa_cons (pv 4) pa_nil)))))
    (pss_cons (ps_set (i := 5) sc__law_apart.nd rfl (by first | exact Or.inl rfl | exact Or.inr rfl) (pe_callB (minQ (K := K) rfl rfl) (by rfl) T.z_min (by decide +kernel) (pa_cons (pe_lc (own := [("_law_far_here", 6), ("_law_way", 4)]) (by rfl) sc__law_apart.nd (pi_listQ (K := K) rfl (pv 3)) (blkOk_by (N := ["_law_one", "_law_other", "_law_kind", "_law_fars", "_law_way", "_law_least", "_law_far_here", "_law_pair"]) (sc := defScope s__law_apart) (by decide +kernel)) (fun _ _ _ _ _ => (pg_tupQ (K := K) (n := 2) rfl rfl (pgs_cons (pg_name (i := 6) sc__law_apart.nd rfl (by first | exact Or.inl rfl | exact Or.inr rfl)) (pgs_cons (pg_name (i := 4) sc__law_apart.nd rfl (by first | exact Or.inl rfl | exact Or.inr rfl)) pgs_nil)))) (fun _ _ _ _ _ => pts_nil) (fun _ _ _ _ _ => (pv 6))) pa_nil)))
    (pss_one (ps_ret (pe_ix (ixL (K := K) rfl) (pe_lc (own := [("_law_pair", 7)]) (by rfl) sc__law_apart.nd (pi_listQ (K := K) rfl (pv 3)) (blkOk_by (N := ["_law_one", "_law_other", "_law_kind", "_law_fars", "_law_way", "_law_least", "_law_far_here", "_law_pair"]) (sc := defScope s__law_apart) (by decide +kernel)) (fun _ _ _ _ _ => (pg_name (i := 7) sc__law_apart.nd rfl (by first | exact Or.inl rfl | exact Or.inr rfl))) (fun _ _ _ _ _ => (pts_one (pt_cmpR op_eq (pe_ix (ixT (K := K) rfl) (pv 7) pe_int (fun _ _ => rfl)) (pv 5) (nomark _)))) (fun _ _ _ _ _ => (pv 7))) pe_int (fun _ _ => rfl))))))), ?_⟩
    obtain ⟨F, v, u, m1, m2, Pc, hh, ww, kind, rfl, wd, d1, d2, p1, p2, h1, w1, h2, w2, kf, q⟩ := h
    have apm := bestT_mem (apart_some (m1 := m1) (m2 := m2) kf.1)
    obtain ⟨wr, ewr⟩ := ways_ne kf.1
    have hlen : (waysT kind).length ≤ 100 := by
      have h2 := kind_mem kf.1
      generalize waysT kind = ws at h2
      simp only [kindsTab, List.mem_cons, Prod.mk.injEq, List.not_mem_nil, or_false] at h2
      rcases h2 with ⟨_, rfl⟩ | ⟨_, rfl⟩ | ⟨_, rfl⟩ | ⟨_, rfl⟩ | ⟨_, rfl⟩ | ⟨_, rfl⟩ <;> decide
    dsimp only [tSeq, tAsg, tRet, gName, tNext]
    refine lc_of ?_
    refine ⟨.str kind, rfl, F, kind, rfl, wd, kf.1, fun a ws F1 H1 g1 hA aA => ?_⟩
    have wd1 := g1.wd wd
    have hlw := dtAll_len aA
    rw [List.length_map] at hlw
    refine ⟨a, rfl, ⟨_, sql_of (wd1.s _ _ hA)⟩, comp_list (F := F1) wd1 (waysT kind) hlw.symm (sql_of hA) (by omega) (fun qw y F' => Dt K F' y (dFar (diffT m1 (moveT m2 qw.1 qw.2), qw))) (fun _ _ _ _ s h => h.up s) (by exact fun _ => rfl) ?_ ?_⟩
    · intro i qw x F2 H2 hi hx g Q1 k1
      have wd2 := g.wd wd1
      have hm := List.mem_of_getElem? hi
      have lt3 := (ways_lt kf.1 qw hm).1
      obtain ⟨d, hd1, hd2⟩ := dtAll_at aA hx
      have : d = dWay qw := by
        rw [List.getElem?_map, hi] at hd1
        exact (Option.some.inj hd1).symm
      subst this
      obtain ⟨Ty, rfl, hTy⟩ := dt_way hd2
      have s2 := g1.f.trans g.f
      refine ⟨v, rfl, u, rfl, .ref Ty, rfl, u, m2, Pc, hh, ww, qw.1, qw.2, Ty, rfl, Evl.ex_t (g.f.trans wd2.s) hTy, (d2.up s2).up wd2.s, p2, h1, w1, h2, w2, by omega, fun p rs H3 s3 M3 => ?_⟩
      have s4 := (s2.trans wd2.s).trans s3
      refine ⟨_, _, m1, _, Pc, hh, ww, rfl, d1.up s4, M3.dp, p1, kf.pic p2 h1 w1 hm, h2, w2, fun H4 s5 => ?_⟩
      refine ⟨.ref Ty, rfl, by show 2 ≤ sizeLine; decide, fun N hN => ?_⟩
      have g5 := Gr.pure wd2 (s3.trans s5)
      exact k1 _ _ _ (g5.new wd2 hN) (.tup (sqt_of upd_same) (.cons (.int _) (.cons (hd2.up (g.f.trans (same_new (g5.s.free hN)))) .nil)))
    intro D ys F2 H2 hD g2 e2 pr
    have aD := paired_dt pr
    have eF : (waysT kind).map (fun qw => dFar (diffT m1 (moveT m2 qw.1 qw.2), qw)) = (farsT m1 m2 kind).map dFar := by
      unfold farsT
      rw [List.map_map]
      rfl
    rw [eF] at aD
    have g12 := g1.trans wd g2
    have wd2 := g12.wd wd
    clear pr g2
    have hlf : (farsT m1 m2 kind).length = ys.length := by rw [dtAll_len aD, List.length_map]
    have hlf2 : (farsT m1 m2 kind).length ≤ 100 := by
      unfold farsT
      rw [List.length_map]
      exact hlen
    -- least
    dsimp only [tCB, tCons, tNil]
    refine lc_of ?_
    refine ⟨.ref D, rfl, D, rfl, ⟨_, sql_of (wd2.s _ _ e2)⟩, comp_core (F := F2) wd2 (farsT m1 m2 kind) (by rw [hlf]; exact walk_list (K := K) (a := D) (xs := ys)) (fun F' H' g => sql_of (g.s _ _ (g.f _ _ e2))) (fun _ => true) (fun x y _ => y = .int x.1) (fun _ _ _ _ _ h => h) (by omega) ?_ ?_⟩
    · rintro i x y F3 H3 H4 hi g ⟨rfl, hy⟩ Q1 Qn k1 _
      obtain ⟨d, hd1, hd2⟩ := dtAll_at aD hy
      have : d = dFar x := by
        rw [List.getElem?_map, hi] at hd1
        exact (Option.some.inj hd1).symm
      subst this
      obtain ⟨Ty, yw, rfl, hTy, hyw⟩ := dt_far hd2
      have wd3 := g.wd wd2
      exact ⟨Ty, _, rfl, Evl.ex_t (g.f.trans wd3.s) hTy, rfl, _, _, rfl, _, _, rfl, rfl, rfl, iteT (B := Qn H4) ⟨_, rfl, k1 rfl _ F3 _ (Gr.refl wd3) rfl⟩⟩
    intro D2 zs F3 H3 hD2 g3 e3 pr
    rw [filter_true] at pr
    have ez := paired_eq (f := fun x : Int × (Nat × Nat) => V.int x.1) pr
    subst ez
    have wd3 := g3.wd wd2
    have apm2 := apm.2
    refine ⟨D2, (farsT m1 m2 kind).map (·.1), rfl, sql_of (by rw [wd3.s _ _ e3, List.map_map]; rfl), by rw [List.length_map]; unfold farsT; rw [List.length_map, ewr]; exact Nat.succ_pos _, fun n hn1 hn2 => ?_⟩
    have en : (apartT m1 m2 kind).1 = n := by
      obtain ⟨x, hx, rfl⟩ := List.mem_map.mp hn1
      have := apm2 x hx
      have := hn2 _ (List.mem_map_of_mem apm.1)
      omega
    have hf := bestT_first (apart_some (m1 := m1) (m2 := m2) kf.1) en
    dsimp only [tOp]
    refine lc_of ?_
    have e2' := g3.f _ _ e2
    have aD' := aD.up g3.f
    refine ⟨.ref D, rfl, D, rfl, ⟨_, sql_of (wd3.s _ _ e2')⟩, comp_listF (F := F3) wd3 (farsT m1 m2 kind) hlf (sql_of e2') (by omega) (fun x => decide (x.1 = n)) (fun x y F' => Dt K F' y (dFar x)) (fun _ _ _ _ s h => h.up s) (by exact fun _ => rfl) ?_ ?_⟩
    · intro i x y F4 H4 hi hy g Q1 Qn k1 k2
      obtain ⟨d, hd1, hd2⟩ := dtAll_at aD' hy
      have : d = dFar x := by
        rw [List.getElem?_map, hi] at hd1
        exact (Option.some.inj hd1).symm
      subst this
      obtain ⟨Ty, yw, rfl, hTy, hyw⟩ := dt_far hd2
      have wd4 := g.wd wd3
      refine ⟨.ref Ty, rfl, Ty, _, 0, _, rfl, rfl, Evl.ex_t (g.f.trans wd4.s) hTy, atI_nat (j := 0) rfl, .int n, rfl, rfl, _, rfl, ?_⟩
      dsimp only
      by_cases e : x.1 = n
      · rw [if_pos (decide_eq_true (congrArg V.int e))]
        exact ⟨_, rfl, k1 (decide_eq_true e) _ F4 _ (Gr.refl wd4) (hd2.up g.f)⟩
      · rw [if_neg (fun z => e (V.int.inj (of_decide_eq_true z)))]
        exact k2 (decide_eq_false e) F4 _ (Gr.refl wd4)
    intro D4 us F4 H4 hD4 g4 e4 pr
    have a4 := paired_dt pr
    have h0 : (((farsT m1 m2 kind).filter fun x => decide (x.1 = n)).map dFar)[0]? = some (dFar (apartT m1 m2 kind)) := map_get (head?_get hf)
    obtain ⟨y, hy1, hy2⟩ := dtAll_get a4 h0
    exact ⟨D4, us, 0, y, rfl, rfl, sql_of (g4.s _ _ e4), atI_nat (j := 0) hy1, q y F4 H4 ((g12.trans wd g3).trans wd g4) hy2⟩
theorem sc__law_far : FnScope ["_law_one", "_law_other", "_law_kind"] ["_law_one", "_law_other", "_law_kind"] (defScope s__law_far) := ⟨rfl, rfl, rfl, by decide +kernel, rfl, by decide +kernel, by decide +kernel⟩
theorem has__law_far {P : Program} {w : World} {K : PySem.W.Frag} {mg : Str → Option Value} {base : Heap} {k : Nat} (T : Tx w K mg) (G__law_apart : Has P w K mg base (k) "_law_apart" ["_law_one", "_law_other", "_law_kind"] (sp__law_apart K)) : Has P w K mg base (k + 1) "_law_far" ["_law_one", "_law_other", "_law_kind"] (sp__law_far K) := by
  obtain ⟨fd, F⟩ := T.d__law_far
  refine ⟨_, fd, ?_, T.g__law_far, F.kp, F.bindsN fun _ _ _ _ _ _ us hl => match us, hl with | [_, _, _], _ => rfl⟩
  refine F.ok sc__law_far (fun vs H Q E h => ?_) (fun cdv A outer s H vs Q E hr h => ?_)
  ·
    repeat first | (obtain ⟨rfl, _⟩ := h; rfl) | (obtain ⟨_, h⟩ := h)
  · have hu := hu_room hr
    refine ⟨_, PSs.nox ((pss_one (ps_ret (pe_ix (ixT (K := K) rfl) (pe_fn G__law_apart hr (by rfl) (pa_cons (pv 0) (pa_cons (pv 1) (pa_cons (pv 2) pa_nil)))) pe_int (fun _ _ => rfl))))), ?_⟩
    obtain ⟨F, v, u, m1, m2, Pc, hh, ww, kind, rfl, wd, d1, d2, p1, p2, h1, w1, h2, w2, kf, q⟩ := h
    refine ⟨v, rfl, u, rfl, .str kind, rfl, F, v, u, m1, m2, Pc, hh, ww, kind, rfl, wd, d1, d2, p1, p2, h1, w1, h2, w2, kf, fun z F' H' g dz => ?_⟩
    obtain ⟨Ta, yw, rfl, hT, _⟩ := dt_far dz
    exact ⟨Ta, _, 0, _, rfl, rfl, Evl.ex_t g.s hT, atI_nat (j := 0) rfl, q H' fun b o e => g.h b o (fun z => z) e⟩
theorem sc__law_near : FnScope ["_law_d", "_law_rows", "_law_kind", "_law_ways_here", "_law_found", "_law_turn", "_law_at", "_law_k"] ["_law_d", "_law_rows", "_law_kind"] (defScope s__law_near) := ⟨rfl, rfl, rfl, by decide +kernel, rfl, by decide +kernel, by decide +kernel⟩
theorem has__law_near {P : Program} {w : World} {K : PySem.W.Frag} {mg : Str → Option Value} {base : Heap} {k : Nat} (T : Tx w K mg) (G__law_off : Has P w K mg base (k) "_law_off" ["_law_d", "_law_most"] (sp__law_off K)) (G__law_moved : Has P w K mg base (k) "_law_moved" ["_law_rows", "_law_way"] (sp__law_moved K)) (G__law_ways : Has P w K mg base (k) "_law_ways" ["_law_kind"] (sp__law_ways K)) : Has P w K mg base (k + 1) "_law_near" ["_law_d", "_law_rows", "_law_kind"] (sp__law_near K) := by
  obtain ⟨fd, F⟩ := T.d__law_near
  refine ⟨_, fd, ?_, T.g__law_near, F.kp, F.bindsN fun _ _ _ _ _ _ us hl => match us, hl with | [_, _, _], _ => rfl⟩
  refine F.ok sc__law_near (fun vs H Q E h => ?_) (fun cdv A outer s H vs Q E hr h => ?_)
  ·
    repeat first | (obtain ⟨rfl, _⟩ := h; rfl) | (obtain ⟨_, h⟩ := h)
  · have hu := hu_room hr
    refine ⟨_, PSs.nox ((pss_cons (ps_set (i := 3) sc__law_near.nd rfl (by first | exact Or.inl rfl | exact Or.inr rfl) (pe_fn G__law_ways hr (by rfl) (pa_cons (pv 2) pa_nil)))
    (pss_cons (ps_set (i := 4) sc__law_near.nd rfl (by first | exact Or.inl rfl | exact Or.inr rfl) (pe_fn G__law_moved hr (by rfl) (pa_cons (pv 1) (pa_cons (pe_ix (ixL (K := K) rfl) (pv 3) (pe_fn G__law_off hr (by rfl) (pa_cons (pv 0) (pa_cons (pe_callB (lenQ (K := K) rfl) (by rfl) T.z_len (by decide +kernel) (pa_cons (pv 3) pa_nil)) pa_nil))) (fun _ _ => rfl)) pa_nil))))
    (pss_cons (ps_for PassesOwn.never rfl (pi_range1 (by rfl) T.z_range (pa_cons (pe_fn G__law_off hr (by rfl) (pa_cons (pv 0) (pa_cons pe_int pa_nil))) pa_nil)) (pg_name (i := 5) sc__law_near.nd rfl (by first | exact Or.inl rfl | exact Or.inr rfl)) (pss_cons (ps_set (i := 6) sc__law_near.nd rfl (by first | exact Or.inl rfl | exact Or.inr rfl) (pe_fn G__law_off hr (by rfl) (pa_cons (pv 0) (pa_cons (pe_callB (lenQ (K := K) rfl) (by rfl) T.z_len (by decide +kernel) (pa_cons (pv 4) pa_nil)) pa_nil))))
    (pss_cons (ps_set (i := 7) sc__law_near.nd rfl (by first | exact Or.inl rfl | exact Or.inr rfl) (pe_fn G__law_off hr (by rfl) (pa_cons (pv 0) (pa_cons (pe_callB (lenQ (K := K) rfl) (by rfl) T.z_len (by decide +kernel) (pa_cons (pe_ix (ixL (K := K) rfl) (pv 4) pe_int (fun _ _ => rfl)) pa_nil)) pa_nil))))
    (pss_one (ps_asg (pe_callB (call_max2 rfl) (by rfl) T.z_max (by decide +kernel) (pa_cons pe_int (pa_cons (pe_callB (call_min2 rfl) (by rfl) T.z_min (by decide +kernel) (pa_cons pe_int (pa_cons (pe_op op_sub (pe_op op_add (pe_ix (ixL (K := K) rfl) (pe_ix (ixL (K := K) rfl) (pv 4) (pv 6) (fun _ _ => rfl)) (pv 7) (fun _ _ => rfl)) (pe_fn G__law_off hr (by rfl) (pa_cons (pv 0) (pa_cons pe_int pa_nil)))) pe_int) pa_nil))) pa_nil))) (pg_sub (pe_ix (ixL (K := K) rfl) (pv 4) (pv 6) (fun _ _ => rfl)) (pv 7) set_list))))))
    (pss_one (ps_ret (pv 4))))))), ?_⟩
    obtain ⟨F, d, v, m, hh, ww, kind, rfl, wd, dv, hp, h1, w1, h2, w2, kf, q⟩ := h
    obtain ⟨wr, ewr⟩ := ways_ne kf.1
    have hlen : 1 ≤ (waysT kind).length ∧ (waysT kind).length ≤ 100 := by
      have h2 := kind_mem kf.1
      generalize waysT kind = ws at h2
      simp only [kindsTab, List.mem_cons, Prod.mk.injEq, List.not_mem_nil, or_false] at h2
      rcases h2 with ⟨_, rfl⟩ | ⟨_, rfl⟩ | ⟨_, rfl⟩ | ⟨_, rfl⟩ | ⟨_, rfl⟩ | ⟨_, rfl⟩ <;> decide
    refine ⟨.str kind, rfl, F, kind, rfl, wd0 wd.s, kf.1, fun a ws F1 H1 g1 hA aA => ?_⟩
    have g1 := Gr.up wd g1
    have wd1 := g1.wd wd
    have hlw := dtAll_len aA
    rw [List.length_map] at hlw
    refine ⟨v, rfl, .ref a, rfl, .ref d, rfl, .ref a, rfl, a, ws, rfl, .inl (sql_of (wd1.s _ _ hA)), d, _, rfl, wd1.j, by omega, by omega, fun i ms i0 i1 hm => ?_⟩
    have g2 := gr_dice wd1 hm
    have g12 := g1.trans wd g2
    have wd2 := g12.wd wd
    generalize upd H1 d (.lst (ms.map V.int)) = H2 at g2 g12 wd2
    have hi : i.toNat < (waysT kind).length := by omega
    have hq : (waysT kind)[i.toNat]? = some ((waysT kind)[i.toNat]) := List.getElem?_eq_getElem hi
    generalize (waysT kind)[i.toNat] = qw at hq
    have hqm := List.mem_of_getElem? hq
    have lt3 := (ways_lt kf.1 qw hqm).1
    obtain ⟨x, hx1, hx2⟩ := dtAll_get aA (map_get hq)
    obtain ⟨Ty, rfl, hTy⟩ := dt_way hx2
    refine ⟨a, ws, i, .ref Ty, rfl, rfl, sql_of (wd2.s _ _ hA), atI_ofI i0 hx1, ?_⟩
    refine ⟨v, m, _, hh, ww, qw.1, qw.2, Ty, rfl, Evl.ex_t wd2.s hTy, (dv.up g1.f).up wd2.s, hp, h1, w1, by omega, by omega, by omega, fun p rs H3 s3 M3 => ?_⟩
    have hp3 := kf.pic hp h1 w1 hqm
    generalize moveT m qw.1 qw.2 = m3 at M3 hp3
    have g3 := g12.trans wd (Gr.up wd2 (Gr.pure (wd0 wd2.s) s3))
    have wd3 := g3.wd wd
    have zH : ∀ b, b ∈ p :: rs → H b = none ∧ F1 b = none := fun b hb => by
      have := M3.new b hb
      exact ⟨g12.same wd this, g12.s.free this⟩
    try dsimp only [tNext, tSeq]
    refine for_of ?_
    refine ⟨.ref d, rfl, d, 4, rfl, wd3.j, by decide, by decide, fun n ms n0 n1 hm => ⟨n, rfl, by omega, by omega, ?_⟩⟩
    have g4 := g3.trans wd (gr_dice wd3 hm)
    have M4 := M3.gr (fun b hb => wd2.nM hb) (gr_dice wd3 hm)
    generalize upd H3 d (.lst (ms.map V.int)) = H4 at g4 M4
    refine forin_range (fun i σ H' => ∃ m' y5 y6 y7, σ = [some (.ref d), some v, some (.str kind), some (.ref a), some (.ref p), y5, y6, y7] ∧ Gr (mD d) F H F1 H' ∧ MatF H2 H' p rs m' ∧ PicHW hh ww m') ⟨m3, _, _, _, rfl, g4, M4, hp3⟩ ?_ ?_
    · rintro j σ H5 hj ⟨m5, y5, y6, y7, rfl, g5, M5, hp5⟩
      have wd5 := g5.wd wd
      have l5 : rs.length = hh := by rw [M5.len, hp5.hi]
      refine ⟨.ref d, rfl, .ref p, rfl, p, _, rfl, .inl (sql_of M5.top), d, _, rfl, wd5.j, by rw [List.length_map]; omega, by rw [List.length_map]; omega, fun i ms i0 i1 hm => ?_⟩
      rw [List.length_map, l5] at i1
      have g6 := gr_dice wd5 hm
      have M6 := M5.gr (fun b hb => wd2.nM hb) g6
      have wd6 := g6.wd wd5
      have g06 := g5.trans wd g6
      generalize upd H5 d (.lst (ms.map V.int)) = H6 at g6 M6 wd6 g06
      obtain ⟨i, rfl⟩ := Int.eq_ofNat_of_zero_le i0
      obtain ⟨r0, e0, f0, _⟩ := hp5.row (i := 0) (by omega)
      obtain ⟨ri, ei, fi, _⟩ := hp5.row (i := i) (by omega)
      have a0 : rs[0]? = some (rs[0]'(by omega)) := List.getElem?_eq_getElem (by omega)
      have ai : rs[i]? = some (rs[i]'(by omega)) := List.getElem?_eq_getElem (by omega)
      generalize rs[0]'(by omega) = b0 at a0
      generalize rs[i]'(by omega) = bi at ai
      refine ⟨.ref d, rfl, .ref p, rfl, p, _, 0, .ref b0, rfl, rfl, sql_of M6.top, atI_nat (j := 0) (map_get a0), b0, _, rfl, .inl (sql_of (M6.row 0 r0 b0 e0 a0)), d, _, rfl, wd6.j, by rw [List.length_map]; omega, by rw [List.length_map]; omega, fun k ms k0 k1 hm2 => ?_⟩
      rw [List.length_map, f0] at k1
      have g7 := gr_dice wd6 hm2
      have M7 := M6.gr (fun b hb => wd2.nM hb) g7
      have wd7 := g7.wd wd6
      have g07 := g06.trans wd g7
      generalize upd H6 d (.lst (ms.map V.int)) = H7 at g7 M7 wd7 g07
      obtain ⟨k, rfl⟩ := Int.eq_ofNat_of_zero_le k0
      have ek : ri[k]? = some (ri[k]'(by omega)) := List.getElem?_eq_getElem (by omega)
      generalize ri[k]'(by omega) = c at ek
      refine ⟨.ref p, rfl, .int i, rfl, p, _, i, .ref bi, rfl, rfl, sql_of M7.top, atI_of (map_get ai), .int k, rfl, bi, _, k, .int c, rfl, rfl, sql_of (M7.row i ri bi ei ai), atI_of (map_get ek), ?_⟩
      refine ⟨.ref d, rfl, d, 5, rfl, wd7.j, by decide, by decide, fun z ms z0 z1 hm3 => ?_⟩
      have g8 := gr_dice wd7 hm3
      have M8 := M7.gr (fun b hb => wd2.nM hb) g8
      have wd8 := g8.wd wd7
      have g08 := g07.trans wd g8
      generalize upd H7 d (.lst (ms.map V.int)) = H8 at g8 M8 wd8 g08
      refine ⟨c, z, rfl, rfl, _, _, rfl, rfl, _, _, rfl, _, _, rfl, ?_⟩
      generalize hcc : (if (if c + z - 2 < 255 then c + z - 2 else 255) > 0 then (if c + z - 2 < 255 then c + z - 2 else 255) else 0) = cc
      have hc : 0 ≤ cc ∧ cc ≤ 255 := by
        subst hcc
        split <;> split <;> omega
      have top8 := M8.top
      have row8 := M8.row i ri bi ei ai
      refine ⟨.ref p, rfl, .int i, rfl, p, _, i, .ref bi, rfl, rfl, sql_of top8, atI_of (map_get ai), .int k, rfl, bi, _, _, k, rfl, rfl, row8, ixN_of (by rw [List.length_map]; omega), ?_⟩
      have hb := zH bi (List.mem_cons_of_mem _ (List.mem_of_getElem? ai))
      have g9 := g08.wr (o := .lst ((ri.set k cc).map V.int)) wd hb.1 hb.2
      have M9 := M8.set (j := k) (c := cc) ei ai
      refine ⟨m5.set i (ri.set k cc), some (.int (0 + (j : Int))), some (.int i), some (.int k), ?_, ?_, ?_, hp5.set ei hc⟩
      · rfl
      · rw [← List.map_set] at *
        subst hcc
        exact g9
      · subst hcc
        rw [List.map_set] at M9
        exact M9
    · rintro σ H5 ⟨m5, y5, y6, y7, rfl, g5, M5, hp5⟩
      exact ⟨.ref p, rfl, q (.ref p) m5 _ _ (gr_all wd g5 (fun b hb => (zH b hb).1) fun b hb => (zH b hb).2) hp5 M5.frz⟩
theorem sc__law_alike : FnScope ["_law_found", "_law_due", "_law_name", "_law_k"] ["_law_found", "_law_due"] (defScope s__law_alike) := ⟨rfl, rfl, rfl, by decide +kernel, rfl, by decide +kernel, by decide +kernel⟩
theorem has__law_alike {P : Program} {w : World} {K : PySem.W.Frag} {mg : Str → Option Value} {base : Heap} {k : Nat} (T : Tx w K mg) : ∀ n, Has P w K mg base (k + n) "_law_alike" ["_law_found", "_law_due"] (sp_alikeN K n)
  | 0 => by
    obtain ⟨fd, F⟩ := T.d__law_alike
    refine ⟨_, fd, FnOk.vac fun vs H Q E h => ?_, T.g__law_alike, F.kp, F.bindsN fun _ _ _ _ _ _ us hl => match us, hl with | [_, _], _ => rfl⟩
    obtain ⟨_, _, _, _, _, _, _, h, _⟩ := h
    exact absurd h (Nat.not_lt_zero _)
  | n + 1 => by
    have G__law_alike : Has P w K mg base (k + n) "_law_alike" ["_law_found", "_law_due"] (sp_alikeN K n) := has__law_alike T n
    obtain ⟨fd, F⟩ := T.d__law_alike
    refine ⟨_, fd, ?_, T.g__law_alike, F.kp, F.bindsN fun _ _ _ _ _ _ us hl => match us, hl with | [_, _], _ => rfl⟩
    refine F.ok sc__law_alike (fun vs H Q E h => ?_) (fun cdv A outer s H vs Q E hr h => ?_)
    · obtain ⟨_, _, _, rfl, _⟩ := h
      rfl
    · refine ⟨_, PSs.nox ((pss_cons (ps_if (pt_cmpR op_isN (pv 1) pe_non (nomark _)) (pss_one (ps_ret (pe_cmpR op_isN (pv 0) pe_non (nomark _)))) pss_nil)
    (pss_cons (ps_if (pt_val (pe_callB (isiQ (K := K) rfl) (by rfl) T.z_isinstance (by decide +kernel) (pa_cons (pv 1) (pa_cons (pe_bltn (v := .ty "bool") (by rfl) T.z_bool (by decide +kernel) rfl) pa_nil)))) (pss_one (ps_ret (pe_and (pe_callB (isiQ (K := K) rfl) (by rfl) T.z_isinstance (by decide +kernel) (pa_cons (pv 0) (pa_cons (pe_bltn (v := .ty "bool") (by rfl) T.z_bool (by decide +kernel) rfl) pa_nil))) (pe_one (pe_cmpR op_eq (pv 0) (pv 1) (nomark _)))))) pss_nil)
    (pss_cons (ps_if (pt_val (pe_callB (isiQ (K := K) rfl) (by rfl) T.z_isinstance (by decide +kernel) (pa_cons (pv 1) (pa_cons (pe_bltn (v := .ty "int") (by rfl) T.z_int (by decide +kernel) rfl) pa_nil)))) (pss_one (ps_ret (pe_and (pe_callB (isiQ (K := K) rfl) (by rfl) T.z_isinstance (by decide +kernel) (pa_cons (pv 0) (pa_cons (pe_bltn (v := .ty "int") (by rfl) T.z_int (by decide +kernel) rfl) pa_nil))) (pe_and (pe_not (pe_callB (isiQ (K := K) rfl) (by rfl) T.z_isinstance (by decide +kernel) (pa_cons (pv 0) (pa_cons (pe_bltn (v := .ty "bool") (by rfl) T.z_bool (by decide +kernel) rfl) pa_nil)))) (pe_one (pe_cmpR op_eq (pv 0) (pv 1) (nomark _))))))) pss_nil)
    (pss_cons (ps_if (pt_val (pe_callB (isiQ (K := K) rfl) (by rfl) T.z_isinstance (by decide +kernel) (pa_cons (pv 1) (pa_cons (pe_bltn (v := .ty "str") (by rfl) T.z_str (by decide +kernel) rfl) pa_nil)))) (pss_one (ps_ret (pe_and (pe_callB (isiQ (K := K) rfl) (by rfl) T.z_isinstance (by decide +kernel) (pa_cons (pv 0) (pa_cons (pe_bltn (v := .ty "str") (by rfl) T.z_str (by decide +kernel) rfl) pa_nil))) (pe_one (pe_cmpR op_eq (pv 0) (pv 1) (nomark _)))))) pss_nil)
    (pss_cons (ps_if (pt_val (pe_callB (isiQ (K := K) rfl) (by rfl) T.z_isinstance (by decide +kernel) (pa_cons (pv 1) (pa_cons (pe_bltn (v := .ty "dict") (by rfl) T.z_dict (by decide +kernel) rfl) pa_nil)))) pss_never pss_nil)
    (pss_cons (ps_if (PW.pt (pw_or (pt_cmpR op_ne (pe_callB (isiQ (K := K) rfl) (by rfl) T.z_isinstance (by decide +kernel) (pa_cons (pv 1) (pa_cons (pe_bltn (v := .ty "tuple") (by rfl) T.z_tuple (by decide +kernel) rfl) pa_nil))) (pe_callB (isiQ (K := K) rfl) (by rfl) T.z_isinstance (by decide +kernel) (pa_cons (pv 0) (pa_cons (pe_bltn (v := .ty "tuple") (by rfl) T.z_tuple (by decide +kernel) rfl) pa_nil))) (nomark _)) (pw_or1 (pt_cmpR op_ne (pe_callB (isiQ (K := K) rfl) (by rfl) T.z_isinstance (by decide +kernel) (pa_cons (pv 1) (pa_cons (pe_bltn (v := .ty "list") (by rfl) T.z_list (by decide +kernel) rfl) pa_nil))) (pe_callB (isiQ (K := K) rfl) (by rfl) T.z_isinstance (by decide +kernel) (pa_cons (pv 0) (pa_cons (pe_bltn (v := .ty "list") (by rfl) T.z_list (by decide +kernel) rfl) pa_nil))) (nomark _))))) (pss_one (ps_ret pe_bl)) pss_nil)
    (pss_cons (ps_if (pt_cmpR op_ne (pe_callB (lenQ (K := K) rfl) (by rfl) T.z_len (by decide +kernel) (pa_cons (pv 0) pa_nil)) (pe_callB (lenQ (K := K) rfl) (by rfl) T.z_len (by decide +kernel) (pa_cons (pv 1) pa_nil)) (nomark _)) (pss_one (ps_ret pe_bl)) pss_nil)
    (pss_one (ps_ret (pe_callB (allQ (K := K) rfl rfl) (by rfl) T.z_all (by decide +kernel) (pa_cons (pe_lc (own := [("_law_k", 3)]) (by rfl) sc__law_alike.nd (pi_range1 (by rfl) T.z_range (pa_cons (pe_callB (lenQ (K := K) rfl) (by rfl) T.z_len (by decide +kernel) (pa_cons (pv 1) pa_nil)) pa_nil)) (blkOk_by (N := ["_law_found", "_law_due", "_law_name", "_law_k"]) (sc := defScope s__law_alike) (by decide +kernel)) (fun _ _ _ _ _ => (pg_name (i := 3) sc__law_alike.nd rfl (by first | exact Or.inl rfl | exact Or.inr rfl))) (fun _ _ _ _ _ => pts_nil) (fun _ _ _ _ _ => (pe_fn G__law_alike hr (by rfl) (pa_cons (pe_ix (IxR.or (ixL (K := K) rfl) (ixT (K := K) rfl)) (pv 0) (pv 3) (fun _ _ => rfl)) (pa_cons (pe_ix (IxR.or (ixL (K := K) rfl) (ixT (K := K) rfl)) (pv 1) (pv 3) (fun _ _ => rfl)) pa_nil))))) pa_nil)))))))))))), ?_⟩
      obtain ⟨v, u, d, rfl, hv, hu, nd, hd, q⟩ := h
      have tv := tyx_of hv
      have tu := tyx_of hu
      cases hu with
      | non =>
        cases hv
        exact ⟨_, rfl, rfl, _, rfl, iteT ⟨_, rfl, rfl, q H (Same.refl H)⟩⟩
      | bl b =>
        cases hv
        dsimp only [tyN] at tv tu
        refine ⟨_, rfl, rfl, _, rfl, iteF ?_⟩
        refine ⟨_, rfl, _, .ty "bool", _, .type "bool", true, rfl, .ty _, tu, kit_ty (by decide +kernel), true, rfl, iteT ?_⟩
        refine ⟨_, rfl, _, .ty "bool", _, .type "bool", true, rfl, .ty _, tv, kit_ty (by decide +kernel), true, rfl, iteT ?_⟩
        refine ⟨_, rfl, _, rfl, rfl, ?_⟩
        rw [decide_eq_true rfl]
        exact q H (Same.refl H)
      | int i =>
        cases hv
        dsimp only [tyN] at tv tu
        refine ⟨_, rfl, rfl, _, rfl, iteF ?_⟩
        refine ⟨_, rfl, _, .ty "bool", _, .type "bool", false, rfl, .ty _, tu, kit_ty (by decide +kernel), false, rfl, iteF ?_⟩
        refine ⟨_, rfl, _, .ty "int", _, .type "int", true, rfl, .ty _, tu, kit_ty (by decide +kernel), true, rfl, iteT ?_⟩
        refine ⟨_, rfl, _, .ty "int", _, .type "int", true, rfl, .ty _, tv, kit_ty (by decide +kernel), true, rfl, iteT ?_⟩
        refine ⟨_, rfl, _, .ty "bool", _, .type "bool", false, rfl, .ty _, tv, kit_ty (by decide +kernel), false, rfl, true, rfl, iteT ?_⟩
        refine ⟨_, rfl, _, rfl, rfl, ?_⟩
        rw [decide_eq_true rfl]
        exact q H (Same.refl H)
      | str x =>
        cases hv
        dsimp only [tyN] at tv tu
        refine ⟨_, rfl, rfl, _, rfl, iteF ?_⟩
        refine ⟨_, rfl, _, .ty "bool", _, .type "bool", false, rfl, .ty _, tu, kit_ty (by decide +kernel), false, rfl, iteF ?_⟩
        refine ⟨_, rfl, _, .ty "int", _, .type "int", false, rfl, .ty _, tu, kit_ty (by decide +kernel), false, rfl, iteF ?_⟩
        refine ⟨_, rfl, _, .ty "str", _, .type "str", true, rfl, .ty _, tu, kit_ty (by decide +kernel), true, rfl, iteT ?_⟩
        refine ⟨_, rfl, _, .ty "str", _, .type "str", true, rfl, .ty _, tv, kit_ty (by decide +kernel), true, rfl, iteT ?_⟩
        refine ⟨_, rfl, _, rfl, rfl, ?_⟩
        rw [decide_eq_true rfl]
        exact q H (Same.refl H)
      | lst hy dy =>
        cases hv with
        | lst hx dx =>
          dsimp only [tyN] at tv tu
          refine ⟨_, rfl, rfl, _, rfl, iteF ?_⟩
          refine ⟨_, rfl, _, .ty "bool", _, .type "bool", false, rfl, .ty _, tu, kit_ty (by decide +kernel), false, rfl, iteF ?_⟩
          refine ⟨_, rfl, _, .ty "int", _, .type "int", false, rfl, .ty _, tu, kit_ty (by decide +kernel), false, rfl, iteF ?_⟩
          refine ⟨_, rfl, _, .ty "str", _, .type "str", false, rfl, .ty _, tu, kit_ty (by decide +kernel), false, rfl, iteF ?_⟩
          refine ⟨_, rfl, _, .ty "dict", _, .type "dict", false, rfl, .ty _, tu, kit_ty (by decide +kernel), false, rfl, iteF ?_⟩
          refine ⟨_, rfl, _, .ty "tuple", _, .type "tuple", false, rfl, .ty _, tu, kit_ty (by decide +kernel), _, rfl, _, .ty "tuple", _, .type "tuple", false, rfl, .ty _, tv, kit_ty (by decide +kernel), rfl, false, rfl, iteF ?_⟩
          refine ⟨_, rfl, _, .ty "list", _, .type "list", true, rfl, .ty _, tu, kit_ty (by decide +kernel), _, rfl, _, .ty "list", _, .type "list", true, rfl, .ty _, tv, kit_ty (by decide +kernel), rfl, false, rfl, iteF ?_⟩
          rw [PyData.depth] at hd
          rw [fine] at nd
          exact alike_seq (.inl (sql_of hx)) (.inl (sql_of hy)) dx dy nd (Nat.lt_of_succ_lt_succ hd) q
      | tup hy dy =>
        cases hv with
        | tup hx dx =>
          dsimp only [tyN] at tv tu
          refine ⟨_, rfl, rfl, _, rfl, iteF ?_⟩
          refine ⟨_, rfl, _, .ty "bool", _, .type "bool", false, rfl, .ty _, tu, kit_ty (by decide +kernel), false, rfl, iteF ?_⟩
          refine ⟨_, rfl, _, .ty "int", _, .type "int", false, rfl, .ty _, tu, kit_ty (by decide +kernel), false, rfl, iteF ?_⟩
          refine ⟨_, rfl, _, .ty "str", _, .type "str", false, rfl, .ty _, tu, kit_ty (by decide +kernel), false, rfl, iteF ?_⟩
          refine ⟨_, rfl, _, .ty "dict", _, .type "dict", false, rfl, .ty _, tu, kit_ty (by decide +kernel), false, rfl, iteF ?_⟩
          refine ⟨_, rfl, _, .ty "tuple", _, .type "tuple", true, rfl, .ty _, tu, kit_ty (by decide +kernel), _, rfl, _, .ty "tuple", _, .type "tuple", true, rfl, .ty _, tv, kit_ty (by decide +kernel), rfl, false, rfl, iteF ?_⟩
          refine ⟨_, rfl, _, .ty "list", _, .type "list", false, rfl, .ty _, tu, kit_ty (by decide +kernel), _, rfl, _, .ty "list", _, .type "list", false, rfl, .ty _, tv, kit_ty (by decide +kernel), rfl, false, rfl, iteF ?_⟩
          rw [PyData.depth] at hd
          rw [fine] at nd
          exact alike_seq (.inr hx) (.inr hy) dx dy nd (Nat.lt_of_succ_lt_succ hd) q
      | dic _ _ =>
        rw [fine] at nd
        cases nd
theorem sc__law_small : FnScope ["_law_rows", "_law_size", "_law_found", "_law_at", "_law_row", "_law_k"] ["_law_rows", "_law_size"] (defScope s__law_small) := ⟨rfl, rfl, rfl, by decide +kernel, rfl, by decide +kernel, by decide +kernel⟩
theorem has__law_small {P : Program} {w : World} {K : PySem.W.Frag} {mg : Str → Option Value} {base : Heap} {k : Nat} (T : Tx w K mg)  : Has P w K mg base (k + 1) "_law_small" ["_law_rows", "_law_size"] (sp__law_small K) := by
  obtain ⟨fd, F⟩ := T.d__law_small
  refine ⟨_, fd, ?_, T.g__law_small, F.kp, F.bindsN fun _ _ _ _ _ _ us hl => match us, hl with | [_, _], _ => rfl⟩
  refine F.ok sc__law_small (fun vs H Q E h => ?_) (fun cdv A outer s H vs Q E hr h => ?_)
  ·
    repeat first | (obtain ⟨rfl, _⟩ := h; rfl) | (obtain ⟨_, h⟩ := h)
  · have hu := hu_room hr
    refine ⟨_, PSs.nox ((pss_cons (ps_set (i := 2) sc__law_small.nd rfl (by first | exact Or.inl rfl | exact Or.inr rfl) (pe_lst pa_nil))
    (pss_cons (ps_for PassesOwn.never rfl (pi_range3 (by rfl) T.z_range (pa_cons pe_int (pa_cons (pe_callB (lenQ (K := K) rfl) (by rfl) T.z_len (by decide +kernel) (pa_cons (pv 0) pa_nil)) (pa_cons (pv 1) pa_nil)))) (pg_name (i := 3) sc__law_small.nd rfl (by first | exact Or.inl rfl | exact Or.inr rfl)) (pss_one (ps_expr (pe_bmQ (K := K) rfl PySem.F.plainAttrs_list PySem.F.slot_list_append PySem.F.type_list_append mt_append (pv 2) (pa_cons (pe_lc (own := [("_law_k", 5)]) (by rfl) sc__law_small.nd (pi_range3 (by rfl) T.z_range (pa_cons pe_int (pa_cons (pe_callB (lenQ (K := K) rfl) (by rfl) T.z_len (by decide +kernel) (pa_cons (pe_ix (ixL (K := K) rfl) (pv 0) pe_int (fun _ _ => rfl)) pa_nil)) (pa_cons (pv 1) pa_nil)))) (blkOk_by (N := ["_law_rows", "_law_size", "_law_found", "_law_at", "_law_row", "_law_k"]) (sc := defScope s__law_small) (by decide +kernel)) (fun _ _ _ _ _ => (pg_name (i := 5) sc__law_small.nd rfl (by first | exact Or.inl rfl | exact Or.inr rfl))) (fun _ _ _ _ _ => pts_nil) (fun _ _ _ _ _ => (pe_callB (sumQ (K := K) rfl rfl) (by rfl) T.z_sum (by decide +kernel) (pa_cons (pe_lc (own := [("_law_row", 4)]) (by rfl) sc__law_small.nd (pi_listQ (K := K) rfl (pe_slice (slL (K := K) rfl) (pv 0) (po_some (pv 3)) (po_some (pe_op op_add (pv 3) (pv 1))))) (blkOk_by (by kernel_rfl)) (fun _ _ _ _ _ => (pg_name (i := 4) sc__law_small.nd rfl (by first | exact Or.inl rfl | exact Or.inr rfl))) (fun _ _ _ _ _ => pts_nil) (fun _ _ _ _ _ => (pe_callB (sumQ (K := K) rfl rfl) (by rfl) T.z_sum (by decide +kernel) (pa_cons (pe_slice (slL (K := K) rfl) (pv 4) (po_some (pv 5)) (po_some (pe_op op_add (pv 5) (pv 1)))) pa_nil)))) pa_nil)))) pa_nil)))))
    (pss_one (ps_ret (pv 2)))))), ?_⟩
    obtain ⟨v, m, Pc, aa, bb, z, rfl, hv, hp, a1, b1, s1, ha, hb, q⟩ := h
    obtain ⟨A0, xs, rfl, hS, hl, hrow⟩ := dt_mat hv
    have hml := hp.hi
    have az : z ≤ aa * z := Nat.le_mul_of_pos_left z a1
    have az2 : aa ≤ aa * z := Nat.le_mul_of_pos_right aa s1
    have bz2 : bb ≤ bb * z := Nat.le_mul_of_pos_right bb s1
    have bz : z ≤ bb * z := Nat.le_mul_of_pos_left z b1
    obtain ⟨r0, f0, l0, _⟩ := hp.row (i := 0) (by omega)
    obtain ⟨R0, hr0, hR0⟩ := hrow 0 r0 f0
    refine ⟨Nat.zero_le _, fun p hp0 => ?_⟩
    have M0 := MatF.nil hp0
    have s0 := same_new (o := .lst []) hp0
    generalize upd H p (.lst []) = H1 at M0 s0
    dsimp only [tNext, tSeq]
    refine for_of ?_
    refine ⟨.ref A0, rfl, A0, xs, rfl, .inl (sql_of (s0 _ _ hS)), .int z, rfl, 0, _, z, aa, rfl, by rw [hl, hml]; exact rgC_up s1 (by omega) (by omega), forin_rangeC (fun i σ H' => ∃ y3 y4 y5 rs, σ = [some (.ref A0), some (.int z), some (.ref p), y3, y4, y5] ∧ Same H H' ∧ MatF H H' p rs ((List.range i).map fun I => (List.range bb).map fun J => boxT z m I J)) ⟨_, _, _, [], rfl, s0, M0⟩ ?_ ?_⟩
    · rintro i σ H2 hi ⟨y3, y4, y5, rs, rfl, s2, M2⟩
      have ei : (0 : Int) + ((i : Nat) : Int) * (z : Int) = ((i * z : Nat) : Int) := by rw [Int.zero_add, Int.natCast_mul]
      rw [ei]
      refine ⟨.ref p, rfl, .inl ⟨rfl, _, sql_of M2.top⟩, ?_⟩
      dsimp only [tCons, tNil]
      refine lc_of ?_
      refine ⟨.ref A0, rfl, A0, xs, 0, .ref R0, rfl, rfl, sql_of (s2 _ _ hS), atI_nat (j := 0) hr0, R0, _, rfl, .inl (sql_of (s2 _ _ hR0)), .int z, rfl, 0, _, z, bb, rfl, by rw [List.length_map, l0]; exact rgC_up s1 (by omega) (by omega), ?_⟩
      refine comp_core (A := Nat) (m := m0) (F := H2) (H := H2) (wd0 (Same.refl H2)) (List.range bb) (by rw [List.length_range]; exact walk_rangeC) (fun _ _ _ => trivial) (fun _ => true) (fun J y _ => y = .int (boxT z m i J)) (fun _ _ _ _ _ h => h) (by rw [List.length_range]; omega) ?_ ?_
      · rintro j jj x F3 H3 H4 hj g3 ⟨rfl, rfl⟩ Q1 Qn k1 _
        have hjl : j < bb := by
          have := (List.getElem?_eq_some_iff.mp hj).1
          rwa [List.length_range] at this
        have ea : jj = j := by
          rw [List.getElem?_range hjl] at hj
          exact (Option.some.inj hj).symm
        subst ea
        have ej : (0 : Int) + ((jj : Nat) : Int) * (z : Int) = ((jj * z : Nat) : Int) := by rw [Int.zero_add, Int.natCast_mul]
        dsimp only
        rw [ej]
        have wA := g3.wd (wd0 (Same.refl H2))
        have sA := s2.trans fun b o e => g3.h b o (fun z => z) e
        refine ⟨by exact rfl, ?_⟩
        dsimp only [tYes, tCB, tCons, tNil]
        rw [if_pos rfl]
        refine lc_of ?_
        refine ⟨.ref A0, rfl, .int ((i * z : Nat) : Int), rfl, _, rfl, .int ((i * z : Nat) : Int), rfl, .int z, rfl, _, _, rfl, rfl, ((i * z + z : Nat) : Int), rfl, A0, xs, rfl, sql_of (sA _ _ hS), fun L hL => ?_⟩
        rw [cutV_fromto _ _ _ (Nat.le_add_right _ _), Nat.add_sub_cancel_left]
        have s5 := sA.trans (same_new (o := .lst ((xs.drop (i * z)).take z)) hL)
        have sB := same_new (o := .lst ((xs.drop (i * z)).take z)) hL
        have eL : upd H4 L (.lst ((xs.drop (i * z)).take z)) L = some (.lst ((xs.drop (i * z)).take z)) := upd_same
        generalize upd H4 L (.lst ((xs.drop (i * z)).take z)) = H5 at s5 sB eL
        have hlt : ((m.drop (i * z)).take z).length = ((xs.drop (i * z)).take z).length := by
          rw [List.length_take, List.length_drop, List.length_take, List.length_drop, hl]
        refine ⟨L, rfl, ⟨_, sql_of eL⟩, comp_list (m := m0) (F := H5) (wd0 (Same.refl H5)) ((m.drop (i * z)).take z) hlt (sql_of eL) (by rw [List.length_take]; omega) (fun r y _ => y = .int ((r.drop (jj * z)).take z).sum) (fun _ _ _ _ _ h => h) (by exact fun _ => rfl) ?_ ?_⟩
        · intro k r x F6 H6 hk hx g6 Q1 k1
          have kz : k < z := by
            have := (List.getElem?_eq_some_iff.mp hk).1
            rw [List.length_take] at this
            omega
          rw [List.getElem?_take_of_lt kz, List.getElem?_drop] at hk hx
          obtain ⟨b, hb1, hb2⟩ := hrow _ r hk
          rw [hx] at hb1
          cases hb1
          have w6 := g6.wd (wd0 (Same.refl H5))
          have sH : Same H5 H6 := fun b o e => g6.h b o (fun z => z) e
          refine ⟨.ref b, rfl, .int ((jj * z : Nat) : Int), rfl, _, rfl, .int ((jj * z : Nat) : Int), rfl, .int z, rfl, _, _, rfl, rfl, ((jj * z + z : Nat) : Int), rfl, b, _, rfl, sql_of ((s5.trans sH) _ _ hb2), fun L2 hL2 => ?_⟩
          rw [cutV_fromto _ _ _ (Nat.le_add_right _ _), Nat.add_sub_cancel_left]
          refine ⟨L2, (r.drop (jj * z)).take z, rfl, sql_of (by rw [upd_same, List.map_take, List.map_drop]), ?_⟩
          exact k1 _ F6 _ (Gr.pure w6 (same_new hL2)) rfl
        intro D ys F6 H6 hD g6 e6 pr
        have ez := paired_eq (f := fun r : List Int => V.int ((r.drop (jj * z)).take z).sum) pr
        subst ez
        have sH : Same H5 H6 := fun b o e => g6.h b o (fun z => z) e
        refine ⟨D, ((m.drop (i * z)).take z).map fun r => ((r.drop (jj * z)).take z).sum, rfl, sql_of (by rw [g6.s _ _ e6, List.map_map]; rfl), ?_⟩
        rw [box_sum hp hi hjl]
        exact k1 rfl _ F3 _ (Gr.pure wA (sB.trans sH)) rfl
      · intro D ys F3 H3 hD g3 e3 pr
        rw [filter_true] at pr
        have ez := paired_eq (f := fun J : Nat => V.int (boxT z m i J)) pr
        subst ez
        have s3 : Same H2 H3 := fun b o e => g3.h b o (fun z => z) e
        have M3 := M2.same s3
        have nq : D ∉ p :: rs := fun hm => by
          obtain ⟨o, e⟩ := M2.there hm
          rw [hD] at e
          cases e
        have M5 := M3.more (q := D) (row := (List.range bb).map fun J => boxT z m i J) (by rw [g3.s _ _ e3, List.map_map]; rfl) nq (s2.free hD)
        rw [List.map_append] at M5
        refine ⟨p, _, _, rfl, rfl, M3.top, ?_, ?_⟩
        · rw [List.length_map, M2.len, List.length_map, List.length_range]
          exact size_lt (by omega)
        refine ⟨_, _, _, rs ++ [D], rfl, fun b o e => ?_, ?_⟩
        · rw [upd_ne (ne_of_none e hp0)]
          exact (s2.trans s3) b o e
        · rw [range_map_succ]
          exact M5
    · rintro σ H2 ⟨y3, y4, y5, rs, rfl, s2, M2⟩
      exact ⟨_, rfl, q p rs H2 s2 M2⟩
theorem sc_law : FnScope ["_law_script", "_law_d", "_law_high", "_law_wide", "_law_kind", "_law_size", "_law_one", "_law_other", "_law_found", "_law_sizes", "_law_due", "_law_at", "_law_far_here"] ["_law_script"] (defScope s_law) := ⟨rfl, rfl, rfl, by decide +kernel, rfl, by decide +kernel, by decide +kernel⟩
theorem ok_law {P : Program} {w : World} {K : PySem.W.Frag} {mg : Str → Option Value} {base : Heap} {k : Nat} {f : Addr} {fd : FuncData} (T : Tx w K mg) (G_apart : Has P w K mg base (k) "apart" ["one", "other", "kind"] (sp_apart K)) (G__law_alike : Has P w K mg base (k) "_law_alike" ["_law_found", "_law_due"] (sp__law_alike K)) (G__law_far : Has P w K mg base (k) "_law_far" ["_law_one", "_law_other", "_law_kind"] (sp__law_far K)) (G__law_small : Has P w K mg base (k) "_law_small" ["_law_rows", "_law_size"] (sp__law_small K)) (G_bounds : Has P w K mg base (k) "bounds" ["one", "other", "kind"] (sp_bounds K)) (G__law_off : Has P w K mg base (k) "_law_off" ["_law_d", "_law_most"] (sp__law_off K)) (G__law_near : Has P w K mg base (k) "_law_near" ["_law_d", "_law_rows", "_law_kind"] (sp__law_near K)) (G__law_cells : Has P w K mg base (k) "_law_cells" ["_law_d", "_law_high", "_law_wide"] (sp__law_cells K)) (G__law_frame : Has P w K mg base (k) "_law_frame" ["_law_d"] (sp__law_frame K)) (G__law_dice : Has P w K mg base (k) "_law_dice" ["_law_script", "_law_k"] (sp__law_dice K)) (F : FunD K "law" "law" (defArgs s_law) (defBody s_law) (defScope s_law) [] [] f fd) : FnOk P w K mg base (L2.CX P w) (k + 1) f fd ["_law_script"] (sp_law K) := by
  refine F.ok sc_law (fun vs H Q E h => ?_) (fun cdv A outer s H vs Q E hr h => ?_)
  ·
    repeat first | (obtain ⟨rfl, _⟩ := h; rfl) | (obtain ⟨_, h⟩ := h)
  · have hu := hu_room hr
    refine ⟨_, PSs.nox ((pss_cons (ps_set (i := 1) sc_law.nd rfl (by first | exact Or.inl rfl | exact Or.inr rfl) (pe_fn G__law_dice hr (by rfl) (pa_cons (pv 0) (pa_cons pe_int pa_nil))))
    (pss_cons (ps_asg (pe_fn G__law_frame hr (by rfl) (pa_cons (pv 1) pa_nil)) (pg_tupQ (K := K) (n := 3) rfl rfl (pgs_cons (pg_name (i := 2) sc_law.nd rfl (by first | exact Or.inl rfl | exact Or.inr rfl)) (pgs_cons (pg_name (i := 3) sc_law.nd rfl (by first | exact Or.inl rfl | exact Or.inr rfl)) (pgs_cons (pg_name (i := 4) sc_law.nd rfl (by first | exact Or.inl rfl | exact Or.inr rfl)) pgs_nil)))))
    (pss_cons (ps_if (pt_cmpR op_gt (pe_fn G__law_off hr (by rfl) (pa_cons (pv 1) (pa_cons pe_int pa_nil))) pe_int (nomark _)) (pss_cons (ps_set (i := 5) sc_law.nd rfl (by first | exact Or.inl rfl | exact Or.inr rfl) (pe_ix (ixL (K := K) rfl) (pe_lst (pa_cons pe_int (pa_cons pe_int (pa_cons pe_int (pa_cons pe_int (pa_cons pe_int (pa_cons pe_int pa_nil))))))) (pe_fn G__law_off hr (by rfl) (pa_cons (pv 1) (pa_cons pe_int pa_nil))) (fun _ _ => rfl)))
    (pss_one (ps_asg (pe_tup (pa_cons (pv 5) (pa_cons (pe_ix (ixL (K := K) rfl) (pe_lst (pa_cons (pv 5) (pa_cons (pe_op op_mul pe_int (pe_op op_add pe_int (pe_fn G__law_off hr (by rfl) (pa_cons (pv 1) (pa_cons pe_int pa_nil))))) pa_nil))) (pe_callTy call_int1 (by rfl) T.z_int (by decide +kernel) (pa_cons (pe_cmpR (ninQ (K := K) rfl) (pv 4) (pe_lst (pa_cons pe_str (pa_cons pe_str pa_nil))) (by rfl)) pa_nil)) (fun _ _ => rfl)) pa_nil))) (pg_tupQ (K := K) (n := 2) rfl rfl (pgs_cons (pg_name (i := 2) sc_law.nd rfl (by first | exact Or.inl rfl | exact Or.inr rfl)) (pgs_cons (pg_name (i := 3) sc_law.nd rfl (by first | exact Or.inl rfl | exact Or.inr rfl)) pgs_nil)))))) pss_nil)
    (pss_cons (ps_set (i := 6) sc_law.nd rfl (by first | exact Or.inl rfl | exact Or.inr rfl) (pe_fn G__law_cells hr (by rfl) (pa_cons (pv 1) (pa_cons (pv 2) (pa_cons (pv 3) pa_nil)))))
    (pss_cons (ps_set (i := 7) sc_law.nd rfl (by first | exact Or.inl rfl | exact Or.inr rfl) (pe_fn G__law_cells hr (by rfl) (pa_cons (pv 1) (pa_cons (pv 2) (pa_cons (pv 3) pa_nil)))))
    (pss_cons (ps_if (pt_cmpR op_gt (pe_fn G__law_off hr (by rfl) (pa_cons (pv 1) (pa_cons pe_int pa_nil))) pe_int (nomark _)) (pss_one (ps_set (i := 7) sc_law.nd rfl (by first | exact Or.inl rfl | exact Or.inr rfl) (pe_fn G__law_near hr (by rfl) (pa_cons (pv 1) (pa_cons (pv 6) (pa_cons (pv 4) pa_nil)))))) pss_nil)
    (pss_cons (ps_set (i := 8) sc_law.nd rfl (by first | exact Or.inl rfl | exact Or.inr rfl) (pe_fn G_bounds hr (by rfl) (pa_cons (pv 6) (pa_cons (pv 7) (pa_cons (pv 4) pa_nil)))))
    (pss_cons (ps_setLc (i := 9) (own := [("_law_size", 5)]) (by rfl) sc_law.nd rfl rfl (sw_true rfl rfl rfl (by decide +kernel)) (pi_range3 (by rfl) T.z_range (pa_cons pe_int (pa_cons pe_int (pa_cons (pe_un un_neg pe_int) pa_nil)))) (blkOk_by (N := ["_law_script", "_law_d", "_law_high", "_law_wide", "_law_kind", "_law_size", "_law_one", "_law_other", "_law_found", "_law_sizes", "_law_due", "_law_at", "_law_far_here"]) (sc := defScope s_law) (by decide +kernel)) (fun _ _ _ _ _ => (pg_name (i := 5) sc_law.nd rfl (by first | exact Or.inl rfl | exact Or.inr rfl))) (fun _ _ _ _ _ => (pts_one (PW.pt (pw_and (pt_cmpR op_eq (pe_op op_mod (pv 2) (pv 5)) pe_int (nomark _)) (pw_and1 (pt_cmpR op_eq (pe_op op_mod (pv 3) (pv 5)) pe_int (nomark _))))))) (fun _ _ _ _ _ => (pv 5)))
    (pss_cons (ps_setLc (i := 10) (own := [("_law_size", 5)]) (by rfl) sc_law.nd rfl rfl (sw_true rfl rfl rfl (by decide +kernel)) (pi_listQ (K := K) rfl (pv 9)) (blkOk_by (N := ["_law_script", "_law_d", "_law_high", "_law_wide", "_law_kind", "_law_size", "_law_one", "_law_other", "_law_found", "_law_sizes", "_law_due", "_law_at", "_law_far_here"]) (sc := defScope s_law) (by decide +kernel)) (fun _ _ _ _ _ => (pg_name (i := 5) sc_law.nd rfl (by first | exact Or.inl rfl | exact Or.inr rfl))) (fun _ _ _ _ _ => pts_nil) (fun _ _ _ _ _ => (pe_tup (pa_cons (pv 5) (pa_cons (pe_fn G__law_far hr (by rfl) (pa_cons (pe_fn G__law_small hr (by rfl) (pa_cons (pv 6) (pa_cons (pv 5) pa_nil))) (pa_cons (pe_fn G__law_small hr (by rfl) (pa_cons (pv 7) (pa_cons (pv 5) pa_nil))) (pa_cons (pv 4) pa_nil)))) pa_nil)))))
    (pss_cons (ps_if (PW.pt (pw_or (pt_not (pt_val (pe_fn G__law_alike hr (by rfl) (pa_cons (pv 8) (pa_cons (pv 10) pa_nil))))) (pw_or1 (pt_cmpR op_ne (pe_ix (ixT (K := K) rfl) (pe_ix (ixL (K := K) rfl) (pv 8) (pe_un un_neg pe_int) (fun _ _ => rfl)) pe_int (fun _ _ => rfl)) (pe_ix (ixT (K := K) rfl) (pe_fn G_apart hr (by rfl) (pa_cons (pv 6) (pa_cons (pv 7) (pa_cons (pv 4) pa_nil)))) pe_int (fun _ _ => rfl)) (nomark _))))) (pss_one (ps_ret pe_bl)) pss_nil)
    (pss_cons (ps_for PassesOwn.never rfl (pi_range1 (by rfl) T.z_range (pa_cons (pe_callB (lenQ (K := K) rfl) (by rfl) T.z_len (by decide +kernel) (pa_cons (pv 8) pa_nil)) pa_nil)) (pg_name (i := 11) sc_law.nd rfl (by first | exact Or.inl rfl | exact Or.inr rfl)) (pss_one (ps_for PassesOwn.never rfl (pi_listQ (K := K) rfl (pe_slice (slL (K := K) rfl) (pv 8) (po_some (pv 11)) po_none)) (pg_tupQ (K := K) (n := 2) rfl rfl (pgs_cons (pg_name (i := 5) sc_law.nd rfl (by first | exact Or.inl rfl | exact Or.inr rfl)) (pgs_cons (pg_name (i := 12) sc_law.nd rfl (by first | exact Or.inl rfl | exact Or.inr rfl)) pgs_nil))) (pss_one (ps_if (PW.pt (pw_and (pt_cmpR op_eq (pe_op op_mod (pe_ix (ixT (K := K) rfl) (pe_ix (ixL (K := K) rfl) (pv 8) (pv 11) (fun _ _ => rfl)) pe_int (fun _ _ => rfl)) (pv 5)) pe_int (nomark _)) (pw_and1 (pt_cmpR op_gt (pe_ix (ixT (K := K) rfl) (pe_ix (ixL (K := K) rfl) (pv 8) (pv 11) (fun _ _ => rfl)) pe_int (fun _ _ => rfl)) (pv 12) (nomark _))))) (pss_one (ps_ret pe_bl)) pss_nil)))))
    (pss_one (ps_ret pe_bl)))))))))))))), ?_⟩
    obtain ⟨a, ns, rfl, hS, hlen, q⟩ := h
    refine ⟨.ref a, rfl, a, ns, rfl, hS, hlen, fun d ms H1 s1 zd hd hL => ?_⟩
    have w1 : Wd (mD d) H H1 := ⟨s1, fun b e => by rw [show b = d from e]; exact zd, ⟨ms, hd, hL⟩⟩
    refine ⟨.ref d, rfl, H, d, rfl, w1, fun TT F2 H2 hh0 ww0 kind g2 hT a1 a2 b1 b2 kf => ?_⟩
    have w2 := g2.wd w1
    refine ⟨TT, _, rfl, Evl.ex_t w2.s hT, rfl, _, _, rfl, _, _, rfl, _, _, rfl, rfl, ?_⟩
    -- the sides
    have step1 : ∀ (D : Ends), (∀ (h w : Nat) (y5 : Option V) (F3 H3 : Hp), Gr (mD d) F2 H2 F3 H3 → 1 ≤ h → h ≤ 16 → 1 ≤ w → w ≤ 16 → KFit kind h w → D.nx [some (.ref a), some (.ref d), some (.int h), some (.int w), some (.str kind), y5, none, none, none, none, none, none, none] H3) →
      tIfS
        (tTest
          (tOp (rI0 fun i j => V.bl (decide (j < i)))
            (tCall (sp__law_off K) [] E0 (tCons (tVar 1) (tCons (tC (V.int 3)) tNil))) (tC (V.int 0))))
        (tSeq
          (tAsg
            (tOp (rIxL K)
              (tLst
                (tCons (tC (V.int 2))
                  (tCons (tC (V.int 4))
                    (tCons (tC (V.int 6)) (tCons (tC (V.int 8)) (tCons (tC (V.int 12)) (tCons (tC (V.int 16)) tNil)))))))
              (tCall (sp__law_off K) [] E0 (tCons (tVar 1) (tCons (tC (V.int 6)) tNil))))
            (gName 5))
          (tAsg
            (tTup
              (tCons (tVar 5)
                (tCons
                  (tOp (rIxL K)
                    (tLst
                      (tCons (tVar 5)
                        (tCons
                          (tOp (rI CMul fun i j => V.int (i * j)) (tC (V.int 2))
                            (tOp (rI0 fun i j => V.int (i + j)) (tC (V.int 1))
                              (tCall (sp__law_off K) [] E0 (tCons (tVar 1) (tCons (tC (V.int 8)) tNil)))))
                          tNil)))
                    (tCB
                      (fun xs H Q =>
                        (∃ i, xs = [V.int i] ∧ Q (V.int i) H) ∨
                          ∃ k, xs = [V.bl k] ∧ Q (V.int (if k = true then 1 else 0)) H)
                      (tCons
                        (tOp (rIn K true) (tVar 4)
                          (tLst (tCons (tC (V.str (Str.ofString "turn"))) (tCons (tC (V.str (Str.ofString "all"))) tNil))))
                        tNil)))
                  tNil)))
            (gTup K 2 (gCons (gName 2) (gCons (gName 3) gNil)))))
        tNext D [some (.ref a), some (.ref d), some (.int hh0), some (.int ww0), some (.str kind), none, none, none, none, none, none, none, none] H2 := by
      intro D k
      refine ⟨.ref d, rfl, d, 3, rfl, w2.j, by decide, by decide, fun i ms i0 i1 hm => ?_⟩
      have g3 := gr_dice w2 hm
      have w3 := g3.wd w2
      refine ⟨i, 0, rfl, rfl, _, rfl, ite2 (fun e => ?_) (fun e => ?_)⟩
      · refine ⟨by show 6 ≤ sizeLine; decide, fun l hl => ?_⟩
        have g4 := (Gr.refl w3).wr (o := .lst [.int 2, .int 4, .int 6, .int 8, .int 12, .int 16]) w3 hl (w3.s.free hl)
        have lm := Lm.new (u := .lst [.int 2, .int 4, .int 6, .int 8, .int 12, .int 16]) w3 (Gr.refl w3) hl
        have w4 := g4.wd w3
        refine ⟨.ref d, rfl, d, 6, rfl, w4.j, by decide, by decide, fun i ms i0 i1 hm => ?_⟩
        have g5 := gr_dice w4 hm
        have lm2 := lm.gr w3 g5
        have w5 := g5.wd w4
        obtain ⟨z, ez, z1, z2⟩ : ∃ z : Nat, ([.int 2, .int 4, .int 6, .int 8, .int 12, .int 16] : List V)[i.toNat]? = some (.int z) ∧ 1 ≤ z ∧ z ≤ 16 := by
          have hi : i = 0 ∨ i = 1 ∨ i = 2 ∨ i = 3 ∨ i = 4 ∨ i = 5 := by omega
          rcases hi with rfl | rfl | rfl | rfl | rfl | rfl
          · exact ⟨2, rfl, by decide, by decide⟩
          · exact ⟨4, rfl, by decide, by decide⟩
          · exact ⟨6, rfl, by decide, by decide⟩
          · exact ⟨8, rfl, by decide, by decide⟩
          · exact ⟨12, rfl, by decide, by decide⟩
          · exact ⟨16, rfl, by decide, by decide⟩
        refine ⟨l, _, i, .int z, rfl, rfl, sql_of lm2.h, atI_ofI i0 ez, ?_⟩
        have g25 := (g3.trans w2 g4).trans w2 g5
        generalize upd (upd (upd H2 d _) l _) d _ = H5 at g25 w5
        refine ⟨.int z, rfl, .int z, rfl, .ref d, rfl, d, 8, rfl, w5.j, by decide, by decide, fun i ms i0 i1 hm => ?_⟩
        have g6 := gr_dice w5 hm
        have w6 := g6.wd w5
        obtain ⟨n, rfl⟩ := Int.eq_ofNat_of_zero_le i0
        refine ⟨1, _, rfl, rfl, 2, _, rfl, rfl, ?_, by show 2 ≤ sizeLine; decide, fun l2 hl2 => ?_⟩
        · exact .inl (by omega)
        have g7 := (Gr.refl w6).wr (o := .lst [.int z, .int (2 * (1 + (n : Int)))]) w6 hl2 (w6.s.free hl2)
        have lm2 := Lm.new (u := .lst [.int z, .int (2 * (1 + (n : Int)))]) w6 (Gr.refl w6) hl2
        have w7 := g7.wd w6
        refine ⟨.str kind, rfl, by show 2 ≤ sizeLine; decide, fun l3 hl3 => ?_⟩
        have g8 := (Gr.refl w7).wr (o := .lst [.str "turn", .str "all"]) w7 hl3 (w7.s.free hl3)
        have w8 := g8.wd w7
        have n3 : l2 ≠ l3 := ne_of_none lm2.h hl3
        have e2 := (lm2.wr (u := .lst [.str "turn", .str "all"]) n3).h
        refine ⟨l3, _, rfl, .inl (sql_of upd_same), rfl, rfl, .inr ⟨_, rfl, ?_⟩⟩
        have gg := ((g25.trans w2 g6).trans w2 g7).trans w2 g8
        rcases kind_cases kf.1 with rfl | rfl | rfl | rfl | rfl | rfl
        · exact ⟨l2, _, 1, .int (2 * (1 + (n : Int))), rfl, rfl, sql_of e2, atI_nat (j := 1) rfl, by show 2 ≤ sizeLine; decide, fun T hT => ⟨T, _, rfl, sqt_of upd_same, rfl, _, _, rfl, _, _, rfl, rfl, k z (2 * (1 + n)) _ _ _ (gg.trans w2 ((Gr.refl w8).new w8 hT)) z1 z2 (by omega) (by omega) ⟨kf.1, fun q hq ho => absurd ho (by revert q; decide)⟩⟩⟩
        · exact ⟨l2, _, 1, .int (2 * (1 + (n : Int))), rfl, rfl, sql_of e2, atI_nat (j := 1) rfl, by show 2 ≤ sizeLine; decide, fun T hT => ⟨T, _, rfl, sqt_of upd_same, rfl, _, _, rfl, _, _, rfl, rfl, k z (2 * (1 + n)) _ _ _ (gg.trans w2 ((Gr.refl w8).new w8 hT)) z1 z2 (by omega) (by omega) ⟨kf.1, fun q hq ho => absurd ho (by revert q; decide)⟩⟩⟩
        · exact ⟨l2, _, 0, .int z, rfl, rfl, sql_of e2, atI_nat (j := 0) rfl, by show 2 ≤ sizeLine; decide, fun T hT => ⟨T, _, rfl, sqt_of upd_same, rfl, _, _, rfl, _, _, rfl, rfl, k z z _ _ _ (gg.trans w2 ((Gr.refl w8).new w8 hT)) z1 z2 z1 z2 ⟨kf.1, fun _ _ _ => rfl⟩⟩⟩
        · exact ⟨l2, _, 1, .int (2 * (1 + (n : Int))), rfl, rfl, sql_of e2, atI_nat (j := 1) rfl, by show 2 ≤ sizeLine; decide, fun T hT => ⟨T, _, rfl, sqt_of upd_same, rfl, _, _, rfl, _, _, rfl, rfl, k z (2 * (1 + n)) _ _ _ (gg.trans w2 ((Gr.refl w8).new w8 hT)) z1 z2 (by omega) (by omega) ⟨kf.1, fun q hq ho => absurd ho (by revert q; decide)⟩⟩⟩
        · exact ⟨l2, _, 1, .int (2 * (1 + (n : Int))), rfl, rfl, sql_of e2, atI_nat (j := 1) rfl, by show 2 ≤ sizeLine; decide, fun T hT => ⟨T, _, rfl, sqt_of upd_same, rfl, _, _, rfl, _, _, rfl, rfl, k z (2 * (1 + n)) _ _ _ (gg.trans w2 ((Gr.refl w8).new w8 hT)) z1 z2 (by omega) (by omega) ⟨kf.1, fun q hq ho => absurd ho (by revert q; decide)⟩⟩⟩
        · exact ⟨l2, _, 0, .int z, rfl, rfl, sql_of e2, atI_nat (j := 0) rfl, by show 2 ≤ sizeLine; decide, fun T hT => ⟨T, _, rfl, sqt_of upd_same, rfl, _, _, rfl, _, _, rfl, rfl, k z z _ _ _ (gg.trans w2 ((Gr.refl w8).new w8 hT)) z1 z2 z1 z2 ⟨kf.1, fun _ _ _ => rfl⟩⟩⟩
      · exact k hh0 ww0 none F2 _ g3 a1 a2 b1 b2 kf
    dsimp only [tSeq]
    refine step1 _ fun hh ww y5 F3 H3 g3 a1 a2 b1 b2 kf => ?_
    clear step1
    have w3 := g3.wd w2
    refine ⟨.ref d, rfl, .int hh, rfl, .int ww, rfl, F3, d, hh, ww, rfl, w3, by omega, by omega, fun v1 m1 F4 H4 g4 p1 d1 => ?_⟩
    have w4 := g4.wd w3
    refine ⟨.ref d, rfl, .int hh, rfl, .int ww, rfl, F4, d, hh, ww, rfl, w4, by omega, by omega, fun v2 m2 F5 H5 g5 p2 d2 => ?_⟩
    have w5 := g5.wd w4
    have d1 := d1.up g5.f
    have step2 : ∀ (D : Ends), (∀ (v : V) (m : List (List Int)) (F6 H6 : Hp), Same F6 H6 → Dt K F6 v1 (dMat m1) → PicHW hh ww m → Dt K F6 v (dMat m) → D.nx [some (.ref a), some (.ref d), some (.int hh), some (.int ww), some (.str kind), y5, some v1, some v, none, none, none, none, none] H6) →
      tIfS
                    (tTest
                      (tOp (rI0 fun i j => V.bl (decide (j < i)))
                        (tCall (sp__law_off K) [] E0 (tCons (tVar 1) (tCons (tC (V.int 3)) tNil))) (tC (V.int 0))))
                    (tAsg (tCall (sp__law_near K) [] E0 (tCons (tVar 1) (tCons (tVar 6) (tCons (tVar 4) tNil)))) (gName 7))
                    tNext D [some (.ref a), some (.ref d), some (.int hh), some (.int ww), some (.str kind), y5, some v1, some v2, none, none, none, none, none] H5 := by
      intro D k
      refine ⟨.ref d, rfl, d, 3, rfl, w5.j, by decide, by decide, fun i ms i0 i1 hm => ?_⟩
      have w6 := (gr_dice w5 hm).wd w5
      refine ⟨i, 0, rfl, rfl, _, rfl, ite2 (fun e => ?_) (fun e => ?_)⟩
      · refine ⟨.ref d, rfl, v1, rfl, .str kind, rfl, F5, d, v1, m1, hh, ww, kind, rfl, w6, d1, p1, a1, b1, by omega, by omega, kf, fun v7 m7 F7 H7 g7 p7 d7 => ?_⟩
        exact k v7 m7 F7 H7 g7.s (d1.up g7.f) p7 d7
      · exact k v2 m2 F5 _ w6.s d1 p2 d2
    dsimp only [tSeq]
    refine step2 _ fun v2 m2 F6 H6 s6 d1 p2 d2 => ?_
    clear step2 w1 w2 w3 w4 w5 g2 g3 g4 g5
    -- found
    refine ⟨v1, rfl, v2, rfl, .str kind, rfl, F6, v1, v2, m1, m2, _, hh, ww, kind, rfl, wd0 s6, d1, d2, p1, p2, a1, b1, by omega, by omega, kf, fun L F7 H7 g7 dL => ?_⟩
    have w7 := g7.wd (wd0 s6)
    have d1 := d1.up g7.f
    have d2 := d2.up g7.f
    clear g7 s6
    -- sizes
    dsimp only [tSeq, tAsg, gName]
    refine lc_of ?_
    refine ⟨_, rfl, 16, 0, -1, 16, rfl, RgC.neg (i := 16) (j := 0) (by decide) (by decide) (by decide) (by decide), ?_⟩
    refine comp_core (A := Nat) (m := m0) (F := F7) (H := H7) w7 (downT 16) walk_rangeC (fun _ _ _ => trivial) (divB hh ww) (fun s y _ => y = .int ((s : Nat) : Int)) (fun _ _ _ _ _ h => h) (by decide) ?_ ?_
    · rintro i s x F1 H1 H2 hi g ⟨rfl, rfl⟩ Q1 Qn k1 k2
      have hil : i < 16 := (List.getElem?_eq_some_iff.mp hi).1
      have hs : s = 16 - i := by
        rw [down_get hil] at hi
        exact (Option.some.inj hi).symm
      have es : (16 : Int) + ((i : Nat) : Int) * (-1) = ((s : Nat) : Int) := by omega
      dsimp only
      rw [es]
      have wz := g.wd w7
      have hb : divB hh ww s = (decide (hh % s = 0) && decide (ww % s = 0)) := rfl
      have c1 : ((hh : Nat) : Int) % (s : Int) = ((hh % s : Nat) : Int) := rfl
      have c2 : ((ww : Nat) : Int) % (s : Int) = ((ww % s : Nat) : Int) := rfl
      refine ⟨by exact rfl, .int hh, rfl, .int s, rfl, _, _, rfl, rfl, by omega, rfl, ?_⟩
      by_cases e1 : hh % s = 0
      · refine ⟨true, veq_eq (congrArg V.int (by rw [c1, e1]; rfl)), iteT ?_⟩
        refine ⟨.int ww, rfl, .int s, rfl, _, _, rfl, rfl, by omega, rfl, ?_⟩
        by_cases e2 : ww % s = 0
        · exact ⟨true, veq_eq (congrArg V.int (by rw [c2, e2]; rfl)), iteT ⟨_, rfl, k1 (by rw [hb, decide_eq_true e1, decide_eq_true e2]; rfl) _ F1 _ (Gr.refl wz) rfl⟩⟩
        · exact ⟨false, veq_ne (fun z => e2 (by have := V.int.inj z; rw [c2] at this; omega)), iteF (k2 (by rw [hb, decide_eq_false e2, Bool.and_false]) F1 _ (Gr.refl wz))⟩
      · exact ⟨false, veq_ne (fun z => e1 (by have := V.int.inj z; rw [c1] at this; omega)), iteF (iteF (k2 (by rw [hb, decide_eq_false e1, Bool.false_and]) F1 _ (Gr.refl wz)))⟩
    intro S ys F8 H8 hS8 g8 e8 pr
    have ez := paired_eq (f := fun s : Nat => V.int ((s : Nat) : Int)) pr
    subst ez
    have w8 := g8.wd w7
    have dL := dL.up g8.f
    have d1 := d1.up g8.f
    have d2 := d2.up g8.f
    rw [show (downT 16).filter (divB hh ww) = sizesT hh ww (min hh ww) from sizes_more a1 b1 (by omega)] at e8
    clear g8 pr
    have hlen : (sizesT hh ww (min hh ww)).length ≤ 1000 := by
      unfold sizesT
      refine Nat.le_trans (List.length_filter_le _ _) ?_
      rw [down_len]
      omega
    -- due
    refine lc_of ?_
    refine ⟨.ref S, rfl, S, rfl, ⟨_, sql_of (w8.s _ _ e8)⟩, comp_list (F := F8) w8 (sizesT hh ww (min hh ww)) (by rw [List.length_map]) (sql_of e8) (by rw [List.length_map]; omega) (fun s y F' => Dt K F' y (dB (((s : Nat) : Int), boundT hh ww m1 m2 kind s))) (fun _ _ _ _ s h => h.up s) (by exact fun _ => rfl) ?_ ?_⟩
    · intro i z x F2 H2 hi hx g Q1 k1
      rw [map_get hi] at hx
      cases hx
      have hz := List.mem_of_getElem? hi
      obtain ⟨z1, z2, zh, zw⟩ := sizes_div hz
      have a1 := div_pos' a1 zh
      have b1 := div_pos' b1 zw
      have wd2 := g.wd w8
      have s2 := g.f.trans wd2.s
      have p1' : PicHW (hh / z * z) (ww / z * z) m1 := by rw [← zh, ← zw]; exact p1
      have p2' : PicHW (hh / z * z) (ww / z * z) m2 := by rw [← zh, ← zw]; exact p2
      have lh : hh / z ≤ hh := Nat.div_le_self _ _
      have lw : ww / z ≤ ww := Nat.div_le_self _ _
      refine ⟨.int z, rfl, v1, rfl, .int z, rfl, v1, m1, _, hh / z, ww / z, z, rfl, d1.up s2, p1', a1, b1, z1, by omega, by omega, fun p rs H3 s3 M3 => ?_⟩
      refine ⟨v2, rfl, .int z, rfl, v2, m2, _, hh / z, ww / z, z, rfl, d2.up (s2.trans s3), p2', a1, b1, z1, by omega, by omega, fun p' rs' H4 s4 M4 => ?_⟩
      refine ⟨.str kind, rfl, H4, _, _, _, _, Tru, hh / z, ww / z, kind, rfl, wd0 (Same.refl H4), M3.dp.up s4, M4.dp, small_hw _ _ _ _, small_hw _ _ _ _, a1, b1, by omega, by omega, kf.div, fun H5 s5 => ?_⟩
      refine ⟨by show 2 ≤ sizeLine; decide, fun N hN => ?_⟩
      exact k1 _ _ _ ((Gr.pure wd2 ((s3.trans s4).trans s5)).new wd2 hN) (.tup (sqt_of upd_same) (.cons (.int _) (.cons (.int _) .nil)))
    intro Du zs F9 H9 hD9 g9 e9 pr
    have dD : Dt K F9 (.ref Du) (.list ((boundsT hh ww m1 m2 kind).map dB)) := .lst e9 (by
      have a := paired_dt pr
      unfold boundsT
      rw [List.map_map]
      exact a)
    have w9 := g9.wd w8
    have dL := dL.up g9.f
    have d1 := d1.up g9.f
    have d2 := d2.up g9.f
    clear g9 pr e9 e8
    have blen : (boundsT hh ww m1 m2 kind).length ≤ 1000 := by
      unfold boundsT
      rw [List.length_map]
      exact hlen
    have fb : ∀ d ∈ (boundsT hh ww m1 m2 kind).map dB, fine d = true ∧ d.depth ≤ 1 := fun d hd => by
      obtain ⟨x, _, rfl⟩ := List.mem_map.mp hd
      exact ⟨rfl, Nat.le_refl 1⟩
    refine ⟨.ref L, rfl, .ref Du, rfl, _, _, .list ((boundsT hh ww m1 m2 kind).map dB), rfl, dL.up w9.s, dD.up w9.s, ?_, ?_, fun H10 s10 => ⟨true, rfl, iteF ?_⟩⟩
    · rw [fine, List.length_map, decide_eq_true blen, fines_of fun d hd => (fb d hd).1]
      rfl
    · rw [PyData.depth]
      have := depthAll_of fun d hd => (fb d hd).2
      omega
    -- the last one
    obtain ⟨_, xs, eL, hL, aL⟩ := dt_lst_inv dL
    cases eL
    have sH := w9.s.trans s10
    obtain ⟨lb, elb⟩ := bounds_last hh ww a1 b1 m1 m2 kind
    have hx0 : ((boundsT hh ww m1 m2 kind).map dB)[lb.length]? = some (dB (1, boundT hh ww m1 m2 kind 1)) := by
      rw [elb, List.map_append, List.getElem?_append_right (by rw [List.length_map]; exact Nat.le_refl _), List.length_map, Nat.sub_self]
      rfl
    obtain ⟨x0, hx1, hx2⟩ := dtAll_get aL hx0
    obtain ⟨T0, rfl, hT0⟩ := dt_B hx2
    have lxs : xs.length = lb.length + 1 := by
      rw [dtAll_len aL, List.length_map, elb, List.length_append]
      rfl
    have lbl : (boundsT hh ww m1 m2 kind).length = lb.length + 1 := by
      rw [elb, List.length_append]
      rfl
    refine ⟨.ref L, rfl, _, rfl, L, xs, -1, .ref T0, rfl, rfl, sql_of (sH _ _ hL), atI_last lxs hx1, T0, _, 1, _, rfl, rfl, Evl.ex_t sH hT0, atI_nat (j := 1) rfl, ?_⟩
    refine ⟨v1, rfl, v2, rfl, .str kind, rfl, F9, v1, v2, m1, m2, _, hh, ww, kind, rfl, wd0 sH, d1, d2, p1, p2, a1, b1, by omega, by omega, kf, fun y F11 H11 g11 dy => ?_⟩
    obtain ⟨T1, yw, rfl, hT1, _⟩ := dt_far dy
    refine ⟨T1, _, 0, _, rfl, rfl, Evl.ex_t g11.s hT1, atI_nat (j := 0) rfl, rfl, false, vne_eq (congrArg V.int (bound_one p1 p2)), iteF ?_⟩
    have s11 : Same F9 H11 := g11.f.trans g11.s
    -- for at in range(len(found))
    dsimp only [tNext, tSeq]
    refine for_of ?_
    refine ⟨.ref L, rfl, L, xs, rfl, .inl (sql_of (s11 _ _ hL)), _, rfl, by omega, by omega, forin_range (n := xs.length) (fun i σ H' => ∃ y5 y11 y12, σ = [some (.ref a), some (.ref d), some (.int hh), some (.int ww), some (.str kind), y5, some v1, some v2, some (.ref L), some (.ref S), some (.ref Du), y11, y12] ∧ Same F9 H') ⟨_, _, _, rfl, s11⟩ ?_ ?_⟩
    · rintro i σ H12 hi ⟨y5, y11, y12, rfl, s12⟩
      have ei : (0 : Int) + (i : Int) = ((i : Nat) : Int) := by omega
      rw [ei]
      have xi : xs[i]? = some xs[i] := List.getElem?_eq_getElem hi
      generalize xs[i] = xv at xi
      obtain ⟨db, hdb, hdv⟩ := dtAll_at aL xi
      obtain ⟨bx, hbx, rfl⟩ := map_get_inv hdb
      obtain ⟨zS, mS, rfl⟩ := bounds_get hbx
      obtain ⟨Ti, rfl, hTi⟩ := dt_B hdv
      try dsimp only [gName]
      refine for_of ?_
      refine ⟨.ref L, rfl, .int i, rfl, _, rfl, L, xs, rfl, sql_of (s12 _ _ hL), fun C hC => ?_⟩
      rw [cutV_from]
      have sC := s12.trans (same_new (o := .lst (xs.drop i)) hC)
      have eC : upd H12 C (.lst (xs.drop i)) C = some (.lst (xs.drop i)) := upd_same
      generalize upd H12 C (.lst (xs.drop i)) = H13 at sC eC
      refine ⟨C, rfl, ⟨_, sql_of eC⟩, forin_list (xs := xs.drop i) (fun j σ H' => ∃ y5 y12, σ = [some (.ref a), some (.ref d), some (.int hh), some (.int ww), some (.str kind), y5, some v1, some v2, some (.ref L), some (.ref S), some (.ref Du), some (.int i), y12] ∧ H' = H13) ⟨_, _, rfl, rfl⟩ ?_ ?_ ?_⟩
      · rintro j σ H' _ ⟨_, _, _, rfl⟩
        exact sql_of eC
      · rintro j x σ H' hx ⟨y5, y12, rfl, rfl⟩
        rw [List.getElem?_drop] at hx
        obtain ⟨db2, hdb2, hdv2⟩ := dtAll_at aL hx
        obtain ⟨bx2, hbx2, rfl⟩ := map_get_inv hdb2
        obtain ⟨zs, ms, rfl⟩ := bounds_get hbx2
        obtain ⟨Tj, rfl, hTj⟩ := dt_B hdv2
        obtain ⟨s1, _, _, _⟩ := sizes_div ms
        refine ⟨Tj, _, rfl, Evl.ex_t sC hTj, rfl, _, _, rfl, _, _, rfl, rfl, ?_⟩
        refine ⟨.ref L, rfl, .int i, rfl, L, xs, i, .ref Ti, rfl, rfl, sql_of (sC _ _ hL), atI_of xi, Ti, _, 0, _, rfl, rfl, Evl.ex_t sC hTi, atI_nat (j := 0) rfl, .int zs, rfl, _, _, rfl, rfl, by omega, rfl, ?_⟩
        have c1 : ((zS : Nat) : Int) % (zs : Int) = ((zS % zs : Nat) : Int) := rfl
        by_cases e1 : zS % zs = 0
        · have le := bounds_le p1 p2 a1 b1 kf mS ms e1
          refine ⟨true, veq_eq (congrArg V.int (by dsimp only; rw [c1, e1]; rfl)), iteT ?_⟩
          refine ⟨.ref L, rfl, .int i, rfl, L, xs, i, .ref Ti, rfl, rfl, sql_of (sC _ _ hL), atI_of xi, Ti, _, 1, _, rfl, rfl, Evl.ex_t sC hTi, atI_nat (j := 1) rfl, _, rfl, _, _, rfl, rfl, false, congrArg V.bl (decide_eq_false ?_), iteF ⟨_, _, rfl, rfl⟩⟩
          dsimp only
          omega
        · exact ⟨false, veq_ne (fun z => e1 (by have := V.int.inj z; dsimp only at this; rw [c1] at this; omega)), iteF (iteF ⟨_, _, rfl, rfl⟩)⟩
      · rintro σ H' ⟨y5, y12, rfl, rfl⟩
        exact ⟨_, _, _, rfl, sC⟩
    · rintro σ H' ⟨y5, y11, y12, rfl, s12⟩
      exact q _
abbrev dd (x : Str × Option Str) (n q : Str) (s : Stmt) : He.DefD := ⟨x, n, q, defArgs s, defBody s, defScope s, [], []⟩
def d_copied : He.DefD := dd ("copied", none) "copied" "copied" s_copied
def d_mirrored : He.DefD := dd ("mirrored", none) "mirrored" "mirrored" s_mirrored
def d_turned : He.DefD := dd ("turned", none) "turned" "turned" s_turned
def d_moved : He.DefD := dd ("moved", none) "moved" "moved" s_moved
def d_small : He.DefD := dd ("small", none) "small" "small" s_small
def d_difference : He.DefD := dd ("difference", none) "difference" "difference" s_difference
def d_apart : He.DefD := dd ("apart", none) "apart" "apart" s_apart
def d_distance : He.DefD := dd ("distance", none) "distance" "distance" s_distance
def d_sizes_of : He.DefD := dd ("sizes_of", none) "sizes_of" "sizes_of" s_sizes_of
def d_bounds : He.DefD := dd ("bounds", none) "bounds" "bounds" s_bounds
def d__law_cell : He.DefD := dd ("_law_cell", none) "_law_cell" "_law_cell" s__law_cell
def d__law_dice : He.DefD := dd ("_law_dice", none) "_law_dice" "_law_dice" s__law_dice
def d__law_off : He.DefD := dd ("_law_off", none) "_law_off" "_law_off" s__law_off
def d__law_cells : He.DefD := dd ("_law_cells", none) "_law_cells" "_law_cells" s__law_cells
def d__law_frame : He.DefD := dd ("_law_frame", none) "_law_frame" "_law_frame" s__law_frame
def d__law_ways : He.DefD := dd ("_law_ways", none) "_law_ways" "_law_ways" s__law_ways
def d__law_moved : He.DefD := dd ("_law_moved", none) "_law_moved" "_law_moved" s__law_moved
def d__law_sum_apart : He.DefD := dd ("_law_sum_apart", none) "_law_sum_apart" "_law_sum_apart" s__law_sum_apart
def d__law_apart : He.DefD := dd ("_law_apart", none) "_law_apart" "_law_apart" s__law_apart
def d__law_far : He.DefD := dd ("_law_far", none) "_law_far" "_law_far" s__law_far
def d__law_near : He.DefD := dd ("_law_near", none) "_law_near" "_law_near" s__law_near
def d__law_alike : He.DefD := dd ("_law_alike", none) "_law_alike" "_law_alike" s__law_alike
def d__law_small : He.DefD := dd ("_law_small", none) "_law_small" "_law_small" s__law_small
def d_law : He.DefD := dd ("law", none) "law" "law" s_law
def fnL : List He.DefD := [d_copied, d_mirrored, d_turned, d_moved, d_small, d_difference, d_apart, d_distance, d_sizes_of, d_bounds, d__law_cell, d__law_dice, d__law_off, d__law_cells, d__law_frame, d__law_ways, d__law_moved, d__law_sum_apart, d__law_apart, d__law_far, d__law_near, d__law_alike, d__law_small, d_law]
def faL : List He.Fa := [.glo "copied", .glo "mirrored", .glo "turned", .glo "moved", .glo "small", .glo "difference", .glo "apart", .glo "distance", .glo "sizes_of", .glo "bounds", .glo "_law_cell", .glo "_law_dice", .glo "_law_off", .glo "_law_cells", .glo "_law_frame", .glo "_law_ways", .glo "_law_moved", .glo "_law_sum_apart", .glo "_law_apart", .glo "_law_far", .glo "_law_near", .glo "_law_alike", .glo "_law_small", .glo "law", .glo "LikeError", .glo "BadPicture", .free "len", .free "range", .free "sum", .free "list", .free "zip", .free "abs", .free "isinstance", .free "min", .free "max", .free "all", .free "reversed", .free "int", .free "str", .free "bool", .free "tuple", .free "dict", .glo "KINDS", .exc "BadPicture", .exm "BadPicture" "LikeError" true]
def tsL : List He.Tab := [((fun K => He.ga K "KINDS"), ["plain", "half", "turn", "mirror", "both", "all"])]
def tfL : List He.Defn := []
def exB : PySem.W.Frag → Bool := kindsB
abbrev RR : PySem.W.OpenRow := PySem.W.OpenLaw.row PySem.Challenge.rw_likeshelf_k06_whole_small_ones_bound
abbrev hkL : PySem.W.Hook := He.hookX 5 faL fnL tsL tfL exB
def obL (s : PySem.W.SharedT) : He.AlX := He.obsX 5 faL fnL tsL tfL exB (HandSHeadRun.getT s)
theorem obL_eq (s : PySem.W.SharedT) : obL s = hkL.obs s.abs := He.obsX_eq (HandSHeadRun.getT_eq s)
def lo0 : List PySem.Str := ["LikeError", "BadPicture", "copied", "mirrored", "turned", "moved", "small", "difference", "KINDS", "apart", "distance", "sizes_of", "bounds", "_law_cell", "_law_dice", "_law_off", "_law_cells", "_law_frame", "_law_ways", "_law_moved", "_law_sum_apart", "_law_apart", "_law_far", "_law_near", "_law_alike", "_law_small"]
def looseL : List PySem.Str := lo0
theorem runF (w : World) : HandSHeadRun.RunEq RR (PySem.W.view RR.prog [30]) hkL obL 4000 looseL (w.withFollow "special-get-raises" false) := by
  intro os
  kernel_rfl
theorem runT (w : World) : HandSHeadRun.RunEq RR (PySem.W.view RR.prog [30]) hkL obL 4000 looseL (w.withFollow "special-get-raises" true) := by
  intro os
  kernel_rfl
theorem runL (w : World) : HandSHeadRun.RunEq RR (PySem.W.view RR.prog [30]) hkL obL 4000 looseL w := PySem.W.byRow2 "special-get-raises" (P := fun w => HandSHeadRun.RunEq RR (PySem.W.view RR.prog [30]) hkL obL 4000 looseL w) runF runT w
theorem tx_of {w : World} {K : PySem.W.Frag} {h : Heap} {mg : Str → Option Value} (X : K.In h) (G : h.Ns mainGlobals mg) (z : He.SaysX faL fnL tsL tfL exB w h K) : Tx w K mg := by
  have c := z.t.d
  exact ⟨He.glo_ok X G (c.fact 0 (f := .glo "copied") rfl),
    He.glo_ok X G (c.fact 1 (f := .glo "mirrored") rfl),
    He.glo_ok X G (c.fact 2 (f := .glo "turned") rfl),
    He.glo_ok X G (c.fact 3 (f := .glo "moved") rfl),
    He.glo_ok X G (c.fact 4 (f := .glo "small") rfl),
    He.glo_ok X G (c.fact 5 (f := .glo "difference") rfl),
    He.glo_ok X G (c.fact 6 (f := .glo "apart") rfl),
    He.glo_ok X G (c.fact 7 (f := .glo "distance") rfl),
    He.glo_ok X G (c.fact 8 (f := .glo "sizes_of") rfl),
    He.glo_ok X G (c.fact 9 (f := .glo "bounds") rfl),
    He.glo_ok X G (c.fact 10 (f := .glo "_law_cell") rfl),
    He.glo_ok X G (c.fact 11 (f := .glo "_law_dice") rfl),
    He.glo_ok X G (c.fact 12 (f := .glo "_law_off") rfl),
    He.glo_ok X G (c.fact 13 (f := .glo "_law_cells") rfl),
    He.glo_ok X G (c.fact 14 (f := .glo "_law_frame") rfl),
    He.glo_ok X G (c.fact 15 (f := .glo "_law_ways") rfl),
    He.glo_ok X G (c.fact 16 (f := .glo "_law_moved") rfl),
    He.glo_ok X G (c.fact 17 (f := .glo "_law_sum_apart") rfl),
    He.glo_ok X G (c.fact 18 (f := .glo "_law_apart") rfl),
    He.glo_ok X G (c.fact 19 (f := .glo "_law_far") rfl),
    He.glo_ok X G (c.fact 20 (f := .glo "_law_near") rfl),
    He.glo_ok X G (c.fact 21 (f := .glo "_law_alike") rfl),
    He.glo_ok X G (c.fact 22 (f := .glo "_law_small") rfl),
    He.glo_ok X G (c.fact 23 (f := .glo "law") rfl),
    He.glo_ok X G (c.fact 24 (f := .glo "LikeError") rfl),
    He.glo_ok X G (c.fact 25 (f := .glo "BadPicture") rfl),
    He.free_ok X G (c.fact 26 (f := .free "len") rfl),
    He.free_ok X G (c.fact 27 (f := .free "range") rfl),
    He.free_ok X G (c.fact 28 (f := .free "sum") rfl),
    He.free_ok X G (c.fact 29 (f := .free "list") rfl),
    He.free_ok X G (c.fact 30 (f := .free "zip") rfl),
    He.free_ok X G (c.fact 31 (f := .free "abs") rfl),
    He.free_ok X G (c.fact 32 (f := .free "isinstance") rfl),
    He.free_ok X G (c.fact 33 (f := .free "min") rfl),
    He.free_ok X G (c.fact 34 (f := .free "max") rfl),
    He.free_ok X G (c.fact 35 (f := .free "all") rfl),
    He.free_ok X G (c.fact 36 (f := .free "reversed") rfl),
    He.free_ok X G (c.fact 37 (f := .free "int") rfl),
    He.free_ok X G (c.fact 38 (f := .free "str") rfl),
    He.free_ok X G (c.fact 39 (f := .free "bool") rfl),
    He.free_ok X G (c.fact 40 (f := .free "tuple") rfl),
    He.free_ok X G (c.fact 41 (f := .free "dict") rfl),
    He.glo_ok X G (c.fact 42 (f := .glo "KINDS") rfl),
    He.exc_ok (c.fact 43 (f := .exc "BadPicture") rfl),
    He.exm_ok (c.fact 44 (f := .exm "BadPicture" "LikeError" true) rfl),
    c.def_ 0 (d := d_copied) rfl,
    c.def_ 1 (d := d_mirrored) rfl,
    c.def_ 2 (d := d_turned) rfl,
    c.def_ 3 (d := d_moved) rfl,
    c.def_ 4 (d := d_small) rfl,
    c.def_ 5 (d := d_difference) rfl,
    c.def_ 6 (d := d_apart) rfl,
    c.def_ 7 (d := d_distance) rfl,
    c.def_ 8 (d := d_sizes_of) rfl,
    c.def_ 9 (d := d_bounds) rfl,
    c.def_ 10 (d := d__law_cell) rfl,
    c.def_ 11 (d := d__law_dice) rfl,
    c.def_ 12 (d := d__law_off) rfl,
    c.def_ 13 (d := d__law_cells) rfl,
    c.def_ 14 (d := d__law_frame) rfl,
    c.def_ 15 (d := d__law_ways) rfl,
    c.def_ 16 (d := d__law_moved) rfl,
    c.def_ 17 (d := d__law_sum_apart) rfl,
    c.def_ 18 (d := d__law_apart) rfl,
    c.def_ 19 (d := d__law_far) rfl,
    c.def_ 20 (d := d__law_near) rfl,
    c.def_ 21 (d := d__law_alike) rfl,
    c.def_ 22 (d := d__law_small) rfl,
    c.def_ 23 (d := d_law) rfl,
    (by obtain ⟨es, n, D⟩ := z.t.tab 0; exact kinds_ok D z.more)⟩
theorem all_has {P : Program} {w : World} {K : PySem.W.Frag} {mg : Str → Option Value} {base : Heap} {f : Addr} {fd : FuncData} (T : Tx w K mg) (F : FunD K "law" "law" (defArgs s_law) (defBody s_law) (defScope s_law) [] [] f fd) : FnOk P w K mg base (L2.CX P w) 202 f fd ["_law_script"] (sp_law K) := by
  have G_copied : Has P w K mg base (2) "copied" ["rows"] (sp_copied K) := has_copied (k := 1) T 
  have G_mirrored : Has P w K mg base (2) "mirrored" ["rows"] (sp_mirrored K) := has_mirrored (k := 1) T 
  have G_turned : Has P w K mg base (2) "turned" ["rows"] (sp_turned K) := has_turned (k := 1) T 
  have G_moved : Has P w K mg base (3) "moved" ["rows", "way"] (sp_moved K) := has_moved (k := 2) T (G_turned.mono (by decide : 2 ≤ 2)) (G_mirrored.mono (by decide : 2 ≤ 2)) (G_copied.mono (by decide : 2 ≤ 2))
  have G_small : Has P w K mg base (2) "small" ["rows", "size"] (sp_small K) := has_small (k := 1) T 
  have G_difference : Has P w K mg base (2) "difference" ["one", "other"] (sp_difference K) := has_difference (k := 1) T 
  have G_apart : Has P w K mg base (4) "apart" ["one", "other", "kind"] (sp_apart K) := has_apart (k := 3) T (G_difference.mono (by decide : 2 ≤ 3)) (G_moved.mono (by decide : 3 ≤ 3))
  have G_distance : Has P w K mg base (5) "distance" ["one", "other", "kind"] (sp_distance K) := has_distance (k := 4) T (G_apart.mono (by decide : 4 ≤ 4))
  have G_sizes_of : Has P w K mg base (2) "sizes_of" ["rows"] (sp_sizes_of K) := has_sizes_of (k := 1) T 
  have G_bounds : Has P w K mg base (6) "bounds" ["one", "other", "kind"] (sp_bounds K) := has_bounds (k := 5) T (G_sizes_of.mono (by decide : 2 ≤ 5)) (G_distance.mono (by decide : 5 ≤ 5)) (G_small.mono (by decide : 2 ≤ 5))
  have G__law_cell : Has P w K mg base (2) "_law_cell" ["_law_script", "_law_k"] (sp__law_cell K) := has__law_cell (k := 1) T 
  have G__law_dice : Has P w K mg base (3) "_law_dice" ["_law_script", "_law_k"] (sp__law_dice K) := has__law_dice (k := 2) T (G__law_cell.mono (by decide : 2 ≤ 2))
  have G__law_off : Has P w K mg base (2) "_law_off" ["_law_d", "_law_most"] (sp__law_off K) := has__law_off (k := 1) T 
  have G__law_cells : Has P w K mg base (3) "_law_cells" ["_law_d", "_law_high", "_law_wide"] (sp__law_cells K) := has__law_cells (k := 2) T (G__law_off.mono (by decide : 2 ≤ 2))
  have G__law_frame : Has P w K mg base (3) "_law_frame" ["_law_d"] (sp__law_frame K) := has__law_frame (k := 2) T (G__law_off.mono (by decide : 2 ≤ 2))
  have G__law_ways : Has P w K mg base (2) "_law_ways" ["_law_kind"] (sp__law_ways K) := has__law_ways (k := 1) T 
  have G__law_moved : Has P w K mg base (2) "_law_moved" ["_law_rows", "_law_way"] (sp__law_moved K) := has__law_moved (k := 1) T 
  have G__law_sum_apart : Has P w K mg base (2) "_law_sum_apart" ["_law_one", "_law_other"] (sp__law_sum_apart K) := has__law_sum_apart (k := 1) T 
  have G__law_apart : Has P w K mg base (3) "_law_apart" ["_law_one", "_law_other", "_law_kind"] (sp__law_apart K) := has__law_apart (k := 2) T (G__law_ways.mono (by decide : 2 ≤ 2)) (G__law_sum_apart.mono (by decide : 2 ≤ 2)) (G__law_moved.mono (by decide : 2 ≤ 2))
  have G__law_far : Has P w K mg base (4) "_law_far" ["_law_one", "_law_other", "_law_kind"] (sp__law_far K) := has__law_far (k := 3) T (G__law_apart.mono (by decide : 3 ≤ 3))
  have G__law_near : Has P w K mg base (3) "_law_near" ["_law_d", "_law_rows", "_law_kind"] (sp__law_near K) := has__law_near (k := 2) T (G__law_off.mono (by decide : 2 ≤ 2)) (G__law_moved.mono (by decide : 2 ≤ 2)) (G__law_ways.mono (by decide : 2 ≤ 2))
  have G__law_alike : Has P w K mg base (201) "_law_alike" ["_law_found", "_law_due"] (sp__law_alike K) := has__law_alike (k := 1) T 200
  have G__law_small : Has P w K mg base (2) "_law_small" ["_law_rows", "_law_size"] (sp__law_small K) := has__law_small (k := 1) T 
  exact ok_law (k := 201) T (G_apart.mono (by decide : 4 ≤ 201)) (G__law_alike.mono (by decide : 201 ≤ 201)) (G__law_far.mono (by decide : 4 ≤ 201)) (G__law_small.mono (by decide : 2 ≤ 201)) (G_bounds.mono (by decide : 6 ≤ 201)) (G__law_off.mono (by decide : 2 ≤ 201)) (G__law_near.mono (by decide : 3 ≤ 201)) (G__law_cells.mono (by decide : 3 ≤ 201)) (G__law_frame.mono (by decide : 3 ≤ 201)) (G__law_dice.mono (by decide : 3 ≤ 201)) F
theorem law_end {P : Program} {w : World} {K : PySem.W.Frag} {h : Heap} {mg : Str → Option Value} {fa : Addr} (T : Tx w K mg) (KX : K.In h) (hmg : mg "law" = some (.ref fa)) :
    ∃ (K : PySem.W.Frag) (fd : FuncData) (sp : Sp), K.In h ∧ (∀ (s : Shared) (u : Value), BindsTo s fd ⟨[u], []⟩ [("_law_script", u)]) ∧
        (∀ (H : Hp) (a : Addr) (ns : List Int), ns.length ≤ 63 → Only H → SqL K H a (ns.map V.int) → sp [.ref a] H (fun v _ => v = .bl true) fun _ _ _ => False) ∧
        ∀ base : Heap, K.In base → base.Ns mainGlobals mg → FnOk P w K mg base (fun l H s E e s' => ∃ w, L2.CX P w l H s E e s') 202 fa fd ["_law_script"] sp := by
  obtain ⟨fd, F⟩ := T.d_law
  have e := hmg.symm.trans T.g_law
  cases e
  have b := FunD.bindsA (ps := ["_law_script"]) F fun _ _ _ _ _ _ us hl => match us, hl with | [_], _ => rfl
  exact ⟨K, fd, sp_law K, KX, fun s v => b s [v] rfl, fun H a ns hl _ hS => ⟨a, ns, rfl, hS, hl, fun _ => rfl⟩, fun base _ _ => FnOk.cx (all_has T F) fun _ _ _ _ _ _ z => ⟨w, z⟩⟩
end Ls
open PySem PySem.W PySem.Calls PyProof.Rows
set_option maxRecDepth 100000 in
set_option maxHeartbeats 0 in
theorem PySem.Challenge.cw_likeshelf_k06_whole_small_ones_bound_holds : PySem.Challenge.rw_likeshelf_k06_whole_small_ones_bound.Holds := by
  w_on; o_law
  refine HandSHeadRun.head_any (r := OpenLaw.row PySem.Challenge.rw_likeshelf_k06_whole_small_ones_bound) (q := view (OpenLaw.row PySem.Challenge.rw_likeshelf_k06_whole_small_ones_bound).prog [30]) (H := Ls.hkL) (ob := Ls.obL) (M := 4000) (loose := Ls.looseL) (d := HandSHeadRun.topDef (OpenLaw.row PySem.Challenge.rw_likeshelf_k06_whole_small_ones_bound).prog 30) (kwd := []) Ls.obL_eq
    (by kernel_rfl) (fun s => by kernel_rfl) Ls.runL (by kernel_rfl) (by kernel_rfl) (by kernel_rfl) (by rfl) (by first | assumption | decide +kernel) (by decide +kernel) ⟨rfl, rfl, rfl, rfl, rfl, by decide +kernel⟩ ?hw ?hc
  case hw => w_witness2
  case hc =>
    refine L2.walk_ofE (l := PySem.Challenge.rw_likeshelf_k06_whole_small_ones_bound) (n := 63) (k := 202) (x := "_law_script") (CX := fun l H s E e s' => ∃ w, L2.CX (PySem.Challenge.rw_likeshelf_k06_whole_small_ones_bound).prog w l H s E e s') rfl (by decide) (by kernel_rfl) ⟨rfl, by decide, by decide⟩ ?F ?N
    case N =>
      rintro H s e s' ⟨w, z⟩
      obtain ⟨_, _, _, _, _, _, _, _, _, _, _, _, z⟩ := z
      exact z.elim
    intro w mg fa h Y G hmg0
    obtain ⟨K, KX, c⟩ := Y
    have hmg : mg ("law" : PySem.Str) = some (.ref fa) := by
      have e : (HandSHeadRun.topDef (OpenLaw.row PySem.Challenge.rw_likeshelf_k06_whole_small_ones_bound).prog 30).name = ("law" : PySem.Str) := by kernel_rfl
      rw [← e]
      exact hmg0
    have T := Ls.tx_of KX G c
    exact Ls.law_end (P := (PySem.Challenge.rw_likeshelf_k06_whole_small_ones_bound).prog) (w := w) T KX hmg
