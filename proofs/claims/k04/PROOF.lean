import PyProof.Rows.All
import Wide.All
import OpenK.AllK
import Wide.FinOn
import KE.KStateDown
import HandS.ForMost
import HandS.ForExc
import HandS.Evl
import HandS.Walk
import HandS.Zip
import HandS.Head0
import HandS.Head1
import HandS.Head2
import HandS.HeadEnd
import HandS.HeadHook1
import HandS.HeadHook2
import HandS.HeadHook3
import HandS.HeadHook4
import HandS.HeadWalk
import HandS.Lambda
import HandS.IsInst
import HandS.Style
import HandS.Wide
import HandS.More
import HandS.Rev
import HandS.RevTup
import HandS.SortInts
import HandS.SortRule
import HandS.SortKw
import HandS.Deep
import HandS.CallSlots
import HandS.HotCalls
import HandS.ExcIs
import HandS.Flow
import HandS.TryOnly
import HandS.Conv
import HandS.Small
import PySem.Challenge.RW_likeshelf_k04_whole_likeness_is_a_distan
set_option Elab.async false
set_option linter.all false
set_option maxRecDepth 100000
set_option maxHeartbeats 4000000
namespace Ls
open PySem PySem.Spec PyProof.Rows L2
/-! ### frozen parts of the heap, modes -/
structure Mo where
  M : Addr → Prop
  J : Hp → Prop
  dom : ∀ H b, J H → M b → ∃ o, H b = some o
  loc : ∀ H H', J H → (∀ b o, M b → H b = some o → H' b = some o) → J H'
/-- nothing changes -/
def m0 : Mo := ⟨fun _ => False, fun _ => True, fun _ _ _ h => h.elim, fun _ _ _ _ => trivial⟩
structure Wd (m : Mo) (F H : Hp) : Prop where
  s : Same F H
  n : ∀ b, m.M b → F b = none
  j : m.J H
structure Gr (m : Mo) (F H F' H' : Hp) : Prop where
  f : Same F F'
  s : Same F' H'
  h : ∀ b o, ¬ m.M b → H b = some o → H' b = some o
  n : ∀ b o, H b = some o → F b = none → F' b = none
  j : m.J H'
section
variable {m : Mo} {F F1 F2 H H1 H2 : Hp} {p b : Addr} {o : HO}
theorem Wd.nM (w : Wd m F H) (h : H p = none) : ¬ m.M p := fun q => by
  obtain ⟨o, e⟩ := m.dom H p w.j q
  rw [h] at e
  cases e
theorem wd0 (s : Same F H) : Wd m0 F H := ⟨s, fun _ h => h.elim, trivial⟩
theorem Gr.refl (w : Wd m F H) : Gr m F H F H := ⟨Same.refl F, w.s, fun _ _ _ h => h, fun _ _ _ h => h, w.j⟩
theorem Gr.dom (g : Gr m F H F1 H1) (w : Wd m F H) (e : H b = some o) : ∃ o', H1 b = some o' := by
  by_cases q : m.M b
  · exact m.dom H1 b g.j q
  · exact ⟨o, g.h b o q e⟩
theorem Gr.wd (g : Gr m F H F1 H1) (w : Wd m F H) : Wd m F1 H1 := ⟨g.s, fun b q => by
  obtain ⟨o, e⟩ := m.dom H b w.j q
  exact g.n b o e (w.n b q), g.j⟩
theorem Gr.trans (w : Wd m F H) (g : Gr m F H F1 H1) (g' : Gr m F1 H1 F2 H2) : Gr m F H F2 H2 :=
  ⟨g.f.trans g'.f, g'.s, fun b o q e => g'.h b o q (g.h b o q e), fun b o e z => by
    obtain ⟨o', e'⟩ := g.dom w e
    exact g'.n b o' e' (g.n b o e z), g'.j⟩
/-- with the first frozen part lessened -/
theorem Gr.same (g : Gr m F H F1 H1) (w : Wd m F H) (e : H1 p = none) : H p = none := by
  cases q : H p with
  | none => rfl
  | some o =>
    obtain ⟨o', z⟩ := g.dom w q
    rw [e] at z
    cases z
/-- a new object is laid, or one's own is written -/
theorem Gr.wr (w : Wd m F H) (g : Gr m F H F1 H1) (hp : H p = none) (fp : F1 p = none) : Gr m F H F1 (upd H1 p o) :=
  ⟨g.f, fun b u e => by rw [upd_ne (ne_of_none e fp)]; exact g.s b u e, fun b u q e => by rw [upd_ne (ne_of_none e hp)]; exact g.h b u q e, g.n,
    m.loc H1 _ g.j fun b u q e => by
      obtain ⟨o', z⟩ := m.dom H b w.j q
      rw [upd_ne (ne_of_none z hp)]
      exact e⟩
/-- one's own is frozen -/
theorem Gr.frz (w : Wd m F H) (g : Gr m F H F1 H1) (hp : H p = none) (fp : F1 p = none) (e : H1 p = some o) : Gr m F H (upd F1 p o) H1 :=
  ⟨fun b u z => by rw [upd_ne (ne_of_none (g.f b u z) fp)]; exact g.f b u z, fun b u z => by
    by_cases hb : b = p
    · subst hb
      rw [upd_same] at z
      cases z
      exact e
    · rw [upd_ne hb] at z
      exact g.s b u z, g.h, fun b u z q => by rw [upd_ne (ne_of_none z hp)]; exact g.n b u z q, g.j⟩
theorem Gr.new (w : Wd m F H) (g : Gr m F H F1 H1) (e : H1 p = none) : Gr m F H (upd F1 p o) (upd H1 p o) := by
  have hp := g.same w e
  have fp : F1 p = none := g.s.free e
  exact (g.wr w hp fp).frz w hp fp upd_same
theorem same_new {F : Hp} (e : F p = none) : Same F (upd F p o) := fun b u z => by rw [upd_ne (ne_of_none z e)]; exact z
/-- one's own object at p: new since H, not frozen -/
structure Lm (H F1 H1 : Hp) (p : Addr) (o : HO) : Prop where
  z : H p = none
  f : F1 p = none
  h : H1 p = some o
theorem Lm.gr (l : Lm H F1 H1 p o) (w : Wd m F H) (g : Gr m F1 H1 F2 H2) : Lm H F2 H2 p o := ⟨l.z, g.n p o l.h l.f, g.h p o (w.nM l.z) l.h⟩
theorem Lm.wr {q : Addr} {u : HO} (l : Lm H F1 H1 p o) (h : p ≠ q) : Lm H F1 (upd H1 q u) p o := ⟨l.z, l.f, by rw [upd_ne h]; exact l.h⟩
theorem Lm.set {u : HO} (l : Lm H F1 H1 p o) : Lm H F1 (upd H1 p u) p u := ⟨l.z, l.f, upd_same⟩
theorem Lm.new {u : HO} (w : Wd m F H) (g : Gr m F H F1 H1) (e : H1 p = none) : Lm H F1 (upd H1 p u) p u := ⟨g.same w e, g.s.free e, upd_same⟩
theorem Lm.ne {q : Addr} {u : HO} (l : Lm H F1 H1 p o) (e : F1 q = some u) : q ≠ p := ne_of_none e l.f
end
theorem Gr.pure {F H H2 : Hp} (w : Wd m0 F H) (s : Same H H2) : Gr m0 F H F H2 := ⟨Same.refl F, w.s.trans s, fun b o _ e => s b o e, fun _ _ _ h => h, trivial⟩
/-- a pure step in any mode -/
theorem Gr.up {m : Mo} {F H F1 H1 : Hp} (w : Wd m F H) (g : Gr m0 F H F1 H1) : Gr m F H F1 H1 :=
  ⟨g.f, g.s, fun b o _ e => g.h b o (fun z => z) e, g.n, m.loc H H1 w.j fun b o _ e => g.h b o (fun z => z) e⟩
/-! ### data -/
def kD : Key → PyData
  | .inl i => .int i
  | .inr x => .str x
mutual
/-- data at v, all lists and dicts tracked; tuples tracked or written -/
inductive Dt (K : PySem.W.Frag) (F : Hp) : V → PyData → Prop
  | non : Dt K F .non .none
  | bl (b : Bool) : Dt K F (.bl b) (.bool b)
  | int (i : Int) : Dt K F (.int i) (.int i)
  | str (x : Str) : Dt K F (.str x) (.str x)
  | lst {a : Addr} {xs : List V} {ds : List PyData} : F a = some (.lst xs) → DtAll K F xs ds → Dt K F (.ref a) (.list ds)
  | tup {a : Addr} {xs : List V} {ds : List PyData} : SqT K F a xs → DtAll K F xs ds → Dt K F (.ref a) (.tuple ds)
  | dic {a : Addr} {kvs : List (Key × V)} {ds : List (PyData × PyData)} : F a = some (.dK kvs) → DtK K F kvs ds → Dt K F (.ref a) (.dict ds)
inductive DtAll (K : PySem.W.Frag) (F : Hp) : List V → List PyData → Prop
  | nil : DtAll K F [] []
  | cons {v : V} {vs : List V} {d : PyData} {ds : List PyData} : Dt K F v d → DtAll K F vs ds → DtAll K F (v :: vs) (d :: ds)
inductive DtK (K : PySem.W.Frag) (F : Hp) : List (Key × V) → List (PyData × PyData) → Prop
  | nil : DtK K F [] []
  | cons {k : Key} {v : V} {kvs : List (Key × V)} {d : PyData} {ds : List (PyData × PyData)} : Dt K F v d → DtK K F kvs ds → DtK K F ((k, v) :: kvs) ((kD k, d) :: ds)
end
mutual
theorem Dt.up {K : PySem.W.Frag} {F F' : Hp} (s : Same F F') : ∀ {v : V} {d : PyData}, Dt K F v d → Dt K F' v d
  | _, _, .non => .non
  | _, _, .bl b => .bl b
  | _, _, .int i => .int i
  | _, _, .str x => .str x
  | _, _, .lst h a => .lst (s _ _ h) (DtAll.up s a)
  | _, _, .tup h a => .tup (Evl.ex_t s h) (DtAll.up s a)
  | _, _, .dic h a => .dic (s _ _ h) (DtK.up s a)
theorem DtAll.up {K : PySem.W.Frag} {F F' : Hp} (s : Same F F') : ∀ {vs : List V} {ds : List PyData}, DtAll K F vs ds → DtAll K F' vs ds
  | _, _, .nil => .nil
  | _, _, .cons h t => .cons (Dt.up s h) (DtAll.up s t)
theorem DtK.up {K : PySem.W.Frag} {F F' : Hp} (s : Same F F') : ∀ {vs : List (Key × V)} {ds : List (PyData × PyData)}, DtK K F vs ds → DtK K F' vs ds
  | _, _, .nil => .nil
  | _, _, .cons h t => .cons (Dt.up s h) (DtK.up s t)
end
/-! no dict within -/
mutual
def noDic : PyData → Bool
  | .list xs => noDics xs
  | .tuple xs => noDics xs
  | .dict _ => false
  | .none => true
  | .bool _ => true
  | .int _ => true
  | .str _ => true
def noDics : List PyData → Bool
  | [] => true
  | x :: xs => noDic x && noDics xs
end
mutual
theorem Dt.dp {K : PySem.W.Frag} {F : Hp} : ∀ {v : V} {d : PyData}, Dt K F v d → noDic d = true → Dp K F v d
  | _, _, .non, _ => .non
  | _, _, .bl b, _ => .bl b
  | _, _, .int i, _ => .int i
  | _, _, .str x, _ => .str x
  | _, _, .lst h a, q => .lst (.inl (.inl h)) (DtAll.dp a (by rw [noDic] at q; exact q))
  | _, _, .tup h a, q => .tup h (DtAll.dp a (by rw [noDic] at q; exact q))
  | _, _, .dic h a, q => by rw [noDic] at q; cases q
theorem DtAll.dp {K : PySem.W.Frag} {F : Hp} : ∀ {vs : List V} {ds : List PyData}, DtAll K F vs ds → noDics ds = true → DpAll K F vs ds
  | _, _, .nil, _ => .nil
  | _, _, .cons h t, q => by
    rw [noDics] at q
    obtain ⟨q1, q2⟩ := Bool.and_eq_true_iff.mp q
    exact .cons (Dt.dp h q1) (DtAll.dp t q2)
end
theorem dtAll_len {K : PySem.W.Frag} {F : Hp} : ∀ {vs : List V} {ds : List PyData}, DtAll K F vs ds → vs.length = ds.length
  | _, _, .nil => rfl
  | _, _, .cons _ t => congrArg (· + 1) (dtAll_len t)
theorem dtAll_get {K : PySem.W.Frag} {F : Hp} : ∀ {vs : List V} {ds : List PyData} {i : Nat} {d : PyData}, DtAll K F vs ds → ds[i]? = some d → ∃ v, vs[i]? = some v ∧ Dt K F v d
  | _, _, _, _, .nil, e => by simp at e
  | _, _, 0, _, .cons h _, e => by
    simp at e
    subst e
    exact ⟨_, rfl, h⟩
  | _, _, i + 1, _, .cons _ t, e => by
    obtain ⟨v, h1, h2⟩ := dtAll_get (i := i) t (by simpa using e)
    exact ⟨v, by simpa using h1, h2⟩
theorem dtAll_at {K : PySem.W.Frag} {F : Hp} : ∀ {vs : List V} {ds : List PyData} {i : Nat} {v : V}, DtAll K F vs ds → vs[i]? = some v → ∃ d, ds[i]? = some d ∧ Dt K F v d
  | _, _, _, _, .nil, e => by simp at e
  | _, _, 0, _, .cons h _, e => by
    simp at e
    subst e
    exact ⟨_, rfl, h⟩
  | _, _, i + 1, _, .cons _ t, e => by
    obtain ⟨v, h1, h2⟩ := dtAll_at (i := i) t (by simpa using e)
    exact ⟨v, by simpa using h1, h2⟩
theorem dtAll_app {K : PySem.W.Frag} {F : Hp} : ∀ {vs ws : List V} {ds es : List PyData}, DtAll K F vs ds → DtAll K F ws es → DtAll K F (vs ++ ws) (ds ++ es)
  | _, _, _, _, .nil, h => h
  | _, _, _, _, .cons a t, h => .cons a (dtAll_app t h)
theorem dtAll_take {K : PySem.W.Frag} {F : Hp} : ∀ (n : Nat) {vs : List V} {ds : List PyData}, DtAll K F vs ds → DtAll K F (vs.take n) (ds.take n)
  | 0, _, _, _ => .nil
  | _ + 1, _, _, .nil => .nil
  | n + 1, _, _, .cons a t => .cons a (dtAll_take n t)
theorem dtAll_drop {K : PySem.W.Frag} {F : Hp} : ∀ (n : Nat) {vs : List V} {ds : List PyData}, DtAll K F vs ds → DtAll K F (vs.drop n) (ds.drop n)
  | 0, _, _, h => h
  | _ + 1, _, _, .nil => .nil
  | n + 1, _, _, .cons _ t => dtAll_drop n t
theorem dtAll_int {K : PySem.W.Frag} {F : Hp} : ∀ ns : List Int, DtAll K F (ns.map V.int) (ns.map PyData.int)
  | [] => .nil
  | n :: r => .cons (.int n) (dtAll_int r)
theorem dt_int_inv {K : PySem.W.Frag} {F : Hp} {v : V} {i : Int} (h : Dt K F v (.int i)) : v = .int i := by cases h; rfl
theorem dt_str_inv {K : PySem.W.Frag} {F : Hp} {v : V} {i : Str} (h : Dt K F v (.str i)) : v = .str i := by cases h; rfl
theorem dtAll_int_inv {K : PySem.W.Frag} {F : Hp} : ∀ {vs : List V} {ns : List Int}, DtAll K F vs (ns.map PyData.int) → vs = ns.map V.int
  | _, [], h => by cases h; rfl
  | _, n :: r, h => by
    cases h with
    | cons a t =>
      rw [dt_int_inv a, dtAll_int_inv t]
      rfl
/-- a list of such data at v -/
theorem dt_lst_inv {K : PySem.W.Frag} {F : Hp} {v : V} {ds : List PyData} (h : Dt K F v (.list ds)) : ∃ a xs, v = .ref a ∧ F a = some (.lst xs) ∧ DtAll K F xs ds := by
  cases h with
  | lst a b => exact ⟨_, _, rfl, a, b⟩
theorem dt_tup_inv {K : PySem.W.Frag} {F : Hp} {v : V} {ds : List PyData} (h : Dt K F v (.tuple ds)) : ∃ a xs, v = .ref a ∧ SqT K F a xs ∧ DtAll K F xs ds := by
  cases h with
  | tup a b => exact ⟨_, _, rfl, a, b⟩
/-- rows of ints -/
def dRow (r : List Int) : PyData := .list (r.map PyData.int)
def dMat (m : List (List Int)) : PyData := .list (m.map dRow)
theorem dt_row {K : PySem.W.Frag} {F : Hp} {v : V} {r : List Int} (h : Dt K F v (dRow r)) : ∃ a, v = .ref a ∧ F a = some (.lst (r.map V.int)) := by
  obtain ⟨a, xs, e, h1, h2⟩ := dt_lst_inv h
  rw [dtAll_int_inv h2] at h1
  exact ⟨a, e, h1⟩
theorem dt_row_mk {K : PySem.W.Frag} {F : Hp} {a : Addr} {r : List Int} (h : F a = some (.lst (r.map V.int))) : Dt K F (.ref a) (dRow r) := .lst h (dtAll_int r)
/-- a matrix at v: its address, its rows' values -/
theorem dt_mat {K : PySem.W.Frag} {F : Hp} {v : V} {m : List (List Int)} (h : Dt K F v (dMat m)) : ∃ a xs, v = .ref a ∧ F a = some (.lst xs) ∧ xs.length = m.length ∧ ∀ (i : Nat) (r : List Int), m[i]? = some r → ∃ b, xs[i]? = some (.ref b) ∧ F b = some (.lst (r.map V.int)) := by
  obtain ⟨a, xs, e, h1, h2⟩ := dt_lst_inv h
  refine ⟨a, xs, e, h1, by rw [dtAll_len h2, List.length_map], fun i r q => ?_⟩
  obtain ⟨v, g1, g2⟩ := dtAll_get h2 (i := i) (d := dRow r) (by rw [List.getElem?_map, q]; rfl)
  obtain ⟨b, rfl, g3⟩ := dt_row g2
  exact ⟨b, g1, g3⟩
end Ls

namespace Ls
open PySem PySem.Spec PyProof.Rows L2
/-! ### what a reading gives, the frozen part told -/
/-- the value and the frozen part behind -/
def Ev (m : Mo) (te : TE) (σ : L2.St) (F : Hp) (R : V → Hp → Prop) : Prop :=
  ∀ F1 H, Same F F1 → Wd m F1 H → ∀ Q : VK, (∀ v F2 H2, Gr m F1 H F2 H2 → R v F2 → Q v H2) → te σ H Q
theorem paired_mono {A B : Type} {R S : A → B → Prop} : ∀ {xs : List A} {ys : List B}, Paired R xs ys → (∀ a b, R a b → S a b) → Paired S xs ys
  | _, _, .nil, _ => .nil
  | _, _, .cons h t, f => .cons (f _ _ h) (paired_mono t f)
theorem paired_app {A B : Type} {R : A → B → Prop} : ∀ {xs xs2 : List A} {ys ys2 : List B}, Paired R xs ys → Paired R xs2 ys2 → Paired R (xs ++ xs2) (ys ++ ys2)
  | _, _, _, _, .nil, h => h
  | _, _, _, _, .cons a t, h => .cons a (paired_app t h)
theorem paired_len {A B : Type} {R : A → B → Prop} : ∀ {xs : List A} {ys : List B}, Paired R xs ys → xs.length = ys.length
  | _, _, .nil => rfl
  | _, _, .cons _ t => congrArg (· + 1) (paired_len t)
theorem take_more {A : Type} : ∀ {l : List A} {i : Nat} {x : A}, l[i]? = some x → l.take (i + 1) = l.take i ++ [x]
  | [], i, x, h => by simp at h
  | a :: l, 0, x, h => by
    have e : a = x := Option.some.inj h
    subst e
    rfl
  | a :: l, i + 1, x, h => by
    have ih := take_more (l := l) (i := i) (x := x) h
    show a :: l.take (i + 1) = a :: l.take i ++ [x]
    rw [ih]
    rfl
theorem size_lt {n : Nat} (h : n ≤ 1000000) : n < sizeLine := Nat.lt_of_le_of_lt h (by decide)
theorem size_le {n : Nat} (h : n ≤ 1000000) : n ≤ sizeLine := Nat.le_trans h (by decide)
/-- behind what is walked: the rest of a comprehension's reading -/
def LcIn (J : It) (g : TG) (tt : TT) (te : TE) (vs : List Nat) (σ : L2.St) (H1 : Hp) (Q : VK) : Prop := ∀ D, H1 D = none → ∃ W : Nat → Nat → Hp → Prop, (∃ m, W 0 m (upd H1 D (.lst []))) ∧ ∀ i m H, W i m H →
  (J.stop i H ∧ Q (.ref D) H) ∨ (J.go i H ∧ ∃ Nx : Hp → Prop, (∀ H', Nx H' → ∃ m', m' < m ∧ W (i + 1) m' H') ∧ ∀ x H', J.yld i H x H' → g x (wipe σ vs) H' fun σ2 H2 => wipe σ2 vs = wipe σ vs ∧ tt σ2 H2 fun b H3 =>
    if b = true then te σ2 H3 fun y H4 => ∃ acc, H4 D = some (.lst acc) ∧ acc.length < sizeLine ∧ Nx (upd H4 D (.lst (acc ++ [y]))) else Nx H3)
theorem lc_of {wi : TI} {g : TG} {tt : TT} {te : TE} {vs : List Nat} {σ : L2.St} {H : Hp} {Q : VK} (h : wi σ H fun J H1 => LcIn J g tt te vs σ H1 Q) : tLc wi g tt te vs σ H Q := h
/-- .. of a for's -/
def ForIn (J : It) (g : TG) (tb : TS) (D : Ends) (σ : L2.St) (H1 : Hp) : Prop := ∃ W : Nat → Nat → L2.St → Hp → Prop, (∃ m, W 0 m σ H1) ∧ ∀ i m σ H, W i m σ H →
  (J.stop i H ∧ D.nx σ H) ∨ (J.go i H ∧ ∃ N : L2.St → Hp → Prop, (∀ σ' H', N σ' H' → ∃ m', m' < m ∧ W (i + 1) m' σ' H') ∧ ∀ x H', J.yld i H x H' → g x σ H' fun σ2 H2 => tb { D with nx := N, ct := N, bk := D.nx } σ2 H2)
theorem for_of {wi : TI} {g : TG} {tb : TS} {D : Ends} {σ : L2.St} {H : Hp} (h : wi σ H fun J H1 => ForIn J g tb D σ H1) : tFor wi g tb D σ H := h
theorem forin_list {K : PySem.W.Frag} {a : Addr} {xs : List V} {g : TG} {tb : TS} {D : Ends} {σ : L2.St} {H : Hp} (Pv : Nat → L2.St → Hp → Prop) (h0 : Pv 0 σ H) (hl : ∀ i σ H, i ≤ xs.length → Pv i σ H → SqL K H a xs)
    (hs : ∀ i x σ H, xs[i]? = some x → Pv i σ H → g x σ H fun σ2 H2 => tb { D with nx := Pv (i + 1), ct := Pv (i + 1), bk := D.nx } σ2 H2) (hd : ∀ σ H, Pv xs.length σ H → D.nx σ H) : ForIn (Itl K a) g tb D σ H := for_list Pv h0 hl hs hd
theorem forin_tup {K : PySem.W.Frag} {a : Addr} {xs : List V} {g : TG} {tb : TS} {D : Ends} {σ : L2.St} {H : Hp} (Pv : Nat → L2.St → Hp → Prop) (h0 : Pv 0 σ H) (hl : ∀ i σ H, i ≤ xs.length → Pv i σ H → SqT K H a xs)
    (hs : ∀ i x σ H, xs[i]? = some x → Pv i σ H → g x σ H fun σ2 H2 => tb { D with nx := Pv (i + 1), ct := Pv (i + 1), bk := D.nx } σ2 H2) (hd : ∀ σ H, Pv xs.length σ H → D.nx σ H) : ForIn (Itt K a) g tb D σ H := for_tup Pv h0 hl hs hd
theorem forin_range {lo : Int} {n : Nat} {g : TG} {tb : TS} {D : Ends} {σ : L2.St} {H : Hp} (Pv : Nat → L2.St → Hp → Prop) (h0 : Pv 0 σ H)
    (hs : ∀ i σ H, i < n → Pv i σ H → g (.int (lo + i)) σ H fun σ2 H2 => tb { D with nx := Pv (i + 1), ct := Pv (i + 1), bk := D.nx } σ2 H2) (hd : ∀ σ H, Pv n σ H → D.nx σ H) : ForIn (Itr lo n) g tb D σ H := for_range Pv h0 hs hd
/-- a comprehension, whatever is walked -/
theorem comp_core {A : Type} {m : Mo} {J : It} {G : Hp → Prop} {Y : Nat → Hp → V → Hp → Prop} {g : TG} {tt : TT} {te : TE} {vs : List Nat} {σ : L2.St} {F H : Hp} {Q : VK}
    (wd : Wd m F H) (its : List A) (w : Walk J its.length G Y) (hG : ∀ F' H', Gr m F H F' H' → G H') (p : A → Bool) (R : A → V → Hp → Prop)
    (mono : ∀ a v F1 F2, Same F1 F2 → R a v F1 → R a v F2) (hz : its.length ≤ 1000000)
    (turn : ∀ i a x F1 H1 H2, its[i]? = some a → Gr m F H F1 H1 → Y i H1 x H2 → ∀ (Q1 : VK) (Qn : Hp → Prop), (p a = true → ∀ v F2 H2, Gr m F1 H1 F2 H2 → R a v F2 → Q1 v H2) → (p a = false → ∀ F2 H2, Gr m F1 H1 F2 H2 → Qn H2) →
      g x (wipe σ vs) H2 fun σ2 H3 => wipe σ2 vs = wipe σ vs ∧ tt σ2 H3 fun b H4 => if b = true then te σ2 H4 Q1 else Qn H4)
    (fin : ∀ D ys F2 H2, H D = none → Gr m F H F2 H2 → F2 D = some (.lst ys) → Paired (fun a y => R a y F2) (its.filter p) ys → Q (.ref D) H2) :
    LcIn J g tt te vs σ H Q := by
  intro D hD
  refine lc_it w (Qd := fun H' => Q (.ref D) H') (fun i H' => ∃ F' ys, Gr m F H F' H' ∧ Lm H F' H' D (.lst ys) ∧ Paired (fun a y => R a y F') ((its.take i).filter p) ys) ?_ ?_ ?_ ?_
  · exact ⟨F, [], (Gr.refl wd).wr wd hD (wd.s.free hD), Lm.new wd (Gr.refl wd) hD, .nil⟩
  · rintro i H' _ ⟨F', ys, gr, _, _⟩
    exact hG F' H' gr
  · rintro i x H1 H2 hi ⟨F1, ys, gr, lm, pr⟩ hy
    have hit : its[i]? = some its[i] := List.getElem?_eq_getElem hi
    have hlen : ys.length ≤ i := by
      rw [← paired_len pr]
      exact Nat.le_trans (List.length_filter_le _ _) (by rw [List.length_take]; exact Nat.min_le_left _ _)
    refine turn i its[i] x F1 H1 H2 hit gr hy _ _ (fun hp v F2 H2 g2 r2 => ?_) (fun hp F2 H2 g2 => ?_)
    · have lm2 := lm.gr wd g2
      refine ⟨ys, lm2.h, size_lt (by omega), F2, ys ++ [v], (gr.trans wd g2).wr wd lm2.z lm2.f, lm2.set, ?_⟩
      rw [take_more hit, List.filter_append]
      refine paired_app (paired_mono pr fun a b h => mono a b _ _ g2.f h) ?_
      have e : [its[i]].filter p = [its[i]] := by simp [hp]
      rw [e]
      exact .cons r2 .nil
    · refine ⟨F2, ys, gr.trans wd g2, lm.gr wd g2, ?_⟩
      rw [take_more hit, List.filter_append]
      have e : [its[i]].filter p = [] := by simp [hp]
      rw [e, List.append_nil]
      exact paired_mono pr fun a b h => mono a b _ _ g2.f h
  · rintro H' ⟨F', ys, gr, lm, pr⟩
    rw [List.take_length] at pr
    refine fin D ys (upd F' D (.lst ys)) H' hD (gr.frz wd lm.z lm.f lm.h) upd_same ?_
    exact paired_mono pr fun a b h => mono a b _ _ (same_new lm.f) h
theorem filter_true {A : Type} (l : List A) : l.filter (fun _ => true) = l := by
  induction l with
  | nil => rfl
  | cons a r ih => simp [List.filter]
/-- [.. for x in range(..)], no test, one name -/
theorem comp_range {m : Mo} {te : TE} {k : Nat} {vs : List Nat} {σ : L2.St} {F H : Hp} {Q : VK} {lo : Int} {n : Nat} (wd : Wd m F H) (hn : n ≤ 1000000) (R : Nat → V → Hp → Prop)
    (mono : ∀ a v F1 F2, Same F1 F2 → R a v F1 → R a v F2) (hw : ∀ x, wipe ((wipe σ vs).set k (some x)) vs = wipe σ vs)
    (el : ∀ i F1 H1, i < n → Gr m F H F1 H1 → ∀ Q1 : VK, (∀ v F2 H2, Gr m F1 H1 F2 H2 → R i v F2 → Q1 v H2) → te ((wipe σ vs).set k (some (.int (lo + i)))) H1 Q1)
    (fin : ∀ D ys F2 H2, H D = none → Gr m F H F2 H2 → F2 D = some (.lst ys) → Paired (fun a y => R a y F2) (List.range n) ys → Q (.ref D) H2) :
    LcIn (Itr lo n) (gName k) tYes te vs σ H Q := by
  refine comp_core (A := Nat) (G := fun _ => True) (Y := YFn fun i => .int (lo + i)) wd (List.range n) (by rw [List.length_range]; exact walk_range) (fun _ _ _ => trivial) (fun _ => true) R mono (by rw [List.length_range]; exact hn) ?_ ?_
  · rintro i a x F1 H1 H2 hi gr ⟨rfl, rfl⟩ Q1 Qn k1 _
    have hl : i < n := by
      have := (List.getElem?_eq_some_iff.mp hi).1
      rwa [List.length_range] at this
    have ea : a = i := by
      rw [List.getElem?_range hl] at hi
      exact (Option.some.inj hi).symm
    subst ea
    exact ⟨hw _, iteT (B := Qn H2) (el a F1 _ hl gr Q1 (k1 rfl))⟩
  · intro D ys F2 H2 hD g e pr
    rw [filter_true] at pr
    exact fin D ys F2 H2 hD g e pr
/-- [.. for x in a list], no test, one name; the items told by data of their own -/
theorem comp_list {A : Type} {m : Mo} {K : PySem.W.Frag} {te : TE} {k : Nat} {vs : List Nat} {σ : L2.St} {F H : Hp} {Q : VK} {a : Addr} {xs : List V} (wd : Wd m F H) (its : List A) (hl : its.length = xs.length) (hS : SqL K F a xs) (hn : xs.length ≤ 1000000) (R : A → V → Hp → Prop)
    (mono : ∀ a v F1 F2, Same F1 F2 → R a v F1 → R a v F2) (hw : ∀ x, wipe ((wipe σ vs).set k (some x)) vs = wipe σ vs)
    (el : ∀ (i : Nat) (b : A) (x : V) (F1 H1 : Hp), its[i]? = some b → xs[i]? = some x → Gr m F H F1 H1 → ∀ Q1 : VK, (∀ v F2 H2, Gr m F1 H1 F2 H2 → R b v F2 → Q1 v H2) → te ((wipe σ vs).set k (some x)) H1 Q1)
    (fin : ∀ D ys F2 H2, H D = none → Gr m F H F2 H2 → F2 D = some (.lst ys) → Paired (fun a y => R a y F2) its ys → Q (.ref D) H2) :
    LcIn (Itl K a) (gName k) tYes te vs σ H Q := by
  refine comp_core (A := A) (G := fun H => SqL K H a xs) (Y := YAt xs) wd its (by rw [hl]; exact walk_list) (fun F' H' g => g.s.seq (g.f.seq hS)) (fun _ => true) R mono (by rw [hl]; exact hn) ?_ ?_
  · rintro i b x F1 H1 H2 hi gr ⟨rfl, hx⟩ Q1 Qn k1 _
    exact ⟨hw _, iteT (B := Qn H2) (el i b x F1 _ hi hx gr Q1 (k1 rfl))⟩
  · intro D ys F2 H2 hD g e pr
    rw [filter_true] at pr
    exact fin D ys F2 H2 hD g e pr
/-- pairs to data -/
theorem paired_dt {K : PySem.W.Frag} {F : Hp} {A : Type} {f : A → PyData} : ∀ {its : List A} {ys : List V}, Paired (fun a y => Dt K F y (f a)) its ys → DtAll K F ys (its.map f)
  | _, _, .nil => .nil
  | _, _, .cons h t => .cons h (paired_dt t)
theorem paired_eq {A B : Type} {f : A → B} : ∀ {its : List A} {ys : List B}, Paired (fun a y => y = f a) its ys → ys = its.map f
  | _, _, .nil => rfl
  | _, _, .cons h t => by rw [h, paired_eq t]; rfl
/-- some data of a kind -/
theorem paired_ex {K : PySem.W.Frag} {F : Hp} {A D : Type} {f : D → PyData} {P : A → D → Prop} : ∀ {its : List A} {ys : List V}, Paired (fun a y => ∃ d, P a d ∧ Dt K F y (f d)) its ys → ∃ ds, Paired P its ds ∧ DtAll K F ys (ds.map f)
  | _, _, .nil => ⟨[], .nil, .nil⟩
  | _, _, .cons ⟨d, h1, h2⟩ t => by
    obtain ⟨ds, g1, g2⟩ := paired_ex t
    exact ⟨d :: ds, .cons h1 g1, .cons h2 g2⟩
end Ls
namespace Ls
open PySem PySem.Spec PyProof.Rows L2
/-- [.. for x in a list if ..], one name -/
theorem comp_listF {A : Type} {m : Mo} {K : PySem.W.Frag} {tt : TT} {te : TE} {k : Nat} {vs : List Nat} {σ : L2.St} {F H : Hp} {Q : VK} {a : Addr} {xs : List V} (wd : Wd m F H) (its : List A) (hl : its.length = xs.length) (hS : SqL K F a xs) (hn : xs.length ≤ 1000000) (p : A → Bool) (R : A → V → Hp → Prop)
    (mono : ∀ a v F1 F2, Same F1 F2 → R a v F1 → R a v F2) (hw : ∀ x, wipe ((wipe σ vs).set k (some x)) vs = wipe σ vs)
    (el : ∀ (i : Nat) (b : A) (x : V) (F1 H1 : Hp), its[i]? = some b → xs[i]? = some x → Gr m F H F1 H1 → ∀ (Q1 : VK) (Qn : Hp → Prop), (p b = true → ∀ v F2 H2, Gr m F1 H1 F2 H2 → R b v F2 → Q1 v H2) → (p b = false → ∀ F2 H2, Gr m F1 H1 F2 H2 → Qn H2) →
      tt ((wipe σ vs).set k (some x)) H1 fun b H4 => if b = true then te ((wipe σ vs).set k (some x)) H4 Q1 else Qn H4)
    (fin : ∀ D ys F2 H2, H D = none → Gr m F H F2 H2 → F2 D = some (.lst ys) → Paired (fun a y => R a y F2) (its.filter p) ys → Q (.ref D) H2) :
    LcIn (Itl K a) (gName k) tt te vs σ H Q := by
  refine comp_core (A := A) (G := fun H => SqL K H a xs) (Y := YAt xs) wd its (by rw [hl]; exact walk_list) (fun F' H' g => g.s.seq (g.f.seq hS)) p R mono (by rw [hl]; exact hn) ?_ fin
  rintro i b x F1 H1 H2 hi gr ⟨rfl, hx⟩ Q1 Qn k1 k2
  exact ⟨hw _, el i b x F1 _ hi hx gr Q1 Qn k1 k2⟩
end Ls
namespace Ls
open PySem PySem.Spec PyProof.Rows L2
theorem paired_all {A B : Type} {P : B → Prop} : ∀ {its : List A} {ys : List B}, Paired (fun _ y => P y) its ys → ∀ y ∈ ys, P y
  | _, _, .nil, _, h => by cases h
  | _, _, .cons a t, y, h => by
    rcases List.mem_cons.mp h with rfl | h
    · exact a
    · exact paired_all t y h
theorem paired_vals {A : Type} {P : Int → Prop} : ∀ {its : List A} {ys : List V}, Paired (fun _ y => ∃ c : Int, y = .int c ∧ P c) its ys → ∃ r : List Int, ys = r.map V.int ∧ r.length = its.length ∧ ∀ c ∈ r, P c
  | _, _, .nil => ⟨[], rfl, rfl, fun _ h => by cases h⟩
  | _, _, .cons ⟨c, e, h⟩ t => by
    obtain ⟨r, e1, e2, e3⟩ := paired_vals t
    exact ⟨c :: r, by rw [e, e1]; rfl, congrArg (· + 1) e2, fun x hx => by
      rcases List.mem_cons.mp hx with rfl | hx
      · exact h
      · exact e3 x hx⟩
end Ls

namespace Ls
open PySem PySem.Spec PyProof.Rows L2
/-! ### a def by its name -/
def Has (P : Program) (w : World) (K : PySem.W.Frag) (mg : Str → Option Value) (base : Heap) (k : Nat) (x : Str) (ps : List Str) (sp : Sp) : Prop :=
  ∃ f fd, FnOk P w K mg base (L2.CX P w) k f fd ps sp ∧ mg x = some (.ref f) ∧ PySem.W.keepIn K (.ref f) = true ∧ Binds K fd ps []
/-- a method of the class at C -/
def HasM (P : Program) (w : World) (K : PySem.W.Frag) (mg : Str → Option Value) (base : Heap) (k : Nat) (C : Addr) (x : Str) (ps : List Str) (sp : Sp) : Prop :=
  ∃ f fd, FnOk P w K mg base (L2.CX P w) k f fd ps sp ∧ Meth K C x f ∧ Binds K fd ps []
/-- a class's maker -/
def HasI (P : Program) (w : World) (K : PySem.W.Frag) (mg : Str → Option Value) (base : Heap) (k : Nat) (C : Addr) (x : Str) (ps : List Str) (sp : Sp) : Prop :=
  ∃ f fd, FnOk P w K mg base (L2.CX P w) k f fd ps sp ∧ mg x = some (.ref C) ∧ Mk K C f ∧ Binds K fd ps []
section
variable {P : Program} {w : World} {K : PySem.W.Frag} {mg : Str → Option Value} {base : Heap} {k j : Nat} {C : Addr} {x : Str} {ps : List Str} {sp : Sp}
theorem Has.mono (h : Has P w K mg base k x ps sp) (q : k ≤ j) : Has P w K mg base j x ps sp := by
  obtain ⟨f, fd, a, b⟩ := h
  exact ⟨f, fd, a.mono q, b⟩
theorem HasM.mono (h : HasM P w K mg base k C x ps sp) (q : k ≤ j) : HasM P w K mg base j C x ps sp := by
  obtain ⟨f, fd, a, b⟩ := h
  exact ⟨f, fd, a.mono q, b⟩
theorem HasI.mono (h : HasI P w K mg base k C x ps sp) (q : k ≤ j) : HasI P w K mg base j C x ps sp := by
  obtain ⟨f, fd, a, b⟩ := h
  exact ⟨f, fd, a.mono q, b⟩
end
section
variable {X : Cx} {k : Nat} {C : Addr} {ps : List Str} {sp : Sp} {x m : Str} {p pos apos : Pos} {e o : Expr} {es : List Expr} {ta : TE} {t : TA} {W : WX}
theorem pe_fn (G : Has X.prog X.w X.K X.mg X.base k x ps sp) (hr : Room k X.A) (hg : Gl X x) (ha : PA X (e :: es) t) (hdb : (x == ("__debug__" : Str)) = false := by decide)
    (he : starEach (e :: es) X.env = (false, eval e X.env) :: starEach es X.env := by rfl) (hpl : (backTo pos (starEach es X.env)).any (·.1) = false := by rfl) : PE X (.Call (.Name x p) (e :: es) [] pos) (tCall sp [] E0 t) := by
  obtain ⟨f, fd, F, hm, hk, hb⟩ := G
  exact pe_call F hr hg hm hk hb .nil passL ha hdb he hpl
theorem pe_fnX (G : Has X.prog X.w X.K X.mg X.base k x ps sp) (hr : Room k X.A) (hg : Gl X x) (tk : Takes X W) (ha : PA X (e :: es) t) (hdb : (x == ("__debug__" : Str)) = false := by decide)
    (he : starEach (e :: es) X.env = (false, eval e X.env) :: starEach es X.env := by rfl) (hpl : (backTo pos (starEach es X.env)).any (·.1) = false := by rfl) : PE X (.Call (.Name x p) (e :: es) [] pos) (tCallS sp (WE W) t) := by
  obtain ⟨f, fd, F, hm, hk, hb⟩ := G
  exact pe_callS F hr hg hm hk hb (fun σ => passAt tk σ) ha hdb he hpl
theorem pe_me {pl : Sem Bool} (he : PE X o ta) (c : Cls X.K C) (G : HasM X.prog X.w X.K X.mg X.base k C m ps sp) (hr : Room k X.A) (ha : PA X (e :: es) t)
    (hst : starEach (e :: es) X.env = (false, eval e X.env) :: starEach es X.env := by rfl) (hpl : (backTo pos (starEach es X.env)).any (·.1) = false := by rfl)
    (ht : eval (.Call (.Attribute o m apos) (e :: es) [] pos) X.env = (do
      let ov ← eval o X.env
      standAt apos.atName
      let (f, first) ← holding [ov] (getMethod ov m pl)
      callWith pos f first (backTo pos (starEach (e :: es) X.env)) (backToKw pos (keywordEach [] X.env))) := by rfl) :
    PE X (.Call (.Attribute o m apos) (e :: es) [] pos) (tMeth C m sp [] E0 ta t) := by
  obtain ⟨f, fd, F, hm, hb⟩ := G
  exact pe_meth he c hm F hr hb .nil passL ha hst hpl ht
theorem pe_me0 {pl : Sem Bool} (he : PE X o ta) (c : Cls X.K C) (G : HasM X.prog X.w X.K X.mg X.base k C m ps sp) (hr : Room k X.A)
    (ht : eval (.Call (.Attribute o m apos) [] [] pos) X.env = (do
      let ov ← eval o X.env
      standAt apos.atName
      let (f, first) ← holding [ov] (getMethod ov m pl)
      callWith pos f first (backTo pos (starEach [] X.env)) (backToKw pos (keywordEach [] X.env))) := by rfl) :
    PE X (.Call (.Attribute o m apos) [] [] pos) (tMeth C m sp [] E0 ta tNil) := by
  obtain ⟨f, fd, F, hm, hb⟩ := G
  exact pe_meth0 he c hm F hr hb .nil passL ht
theorem pe_mkI (G : HasI X.prog X.w X.K X.mg X.base k C x ps sp) (hr : Room (k + 1) X.A) (hg : Gl X x) (ha : PA X (e :: es) t) (hdb : (x == ("__debug__" : Str)) = false := by decide)
    (he : starEach (e :: es) X.env = (false, eval e X.env) :: starEach es X.env := by rfl) (hpl : (backTo pos (starEach es X.env)).any (·.1) = false := by rfl) : PE X (.Call (.Name x p) (e :: es) [] pos) (tMake C sp [] E0 t) := by
  obtain ⟨f, fd, F, hm, M, hb⟩ := G
  exact pe_make M F hr hg hm hb .nil passL ha hdb he hpl
theorem hu_room {A : Around} {k : Nat} (hr : Room k A) : A.units + 1 < cLine := Nat.lt_of_le_of_lt (Nat.add_le_add_left (by decide : 1 ≤ 64) _) hr.units
end
end Ls
namespace Ls
open PySem PySem.Spec PyProof.Rows L2
theorem FnOk.cx {P : Program} {w : World} {K : PySem.W.Frag} {mg : Str → Option Value} {base : Heap} {CX CX' : CXT} {k : Nat} {f : Addr} {fd : FuncData} {ps : List Str} {sp : Sp} (F : FnOk P w K mg base CX k f fd ps sp)
    (h : ∀ a b c d e g, CX a b c d e g → CX' a b c d e g) : L2.FnOk P w K mg base CX' k f fd ps sp :=
  ⟨F.len, fun A outer s H args us vs Q E hr he hb hv hs => codeAny_mono (F.run A outer s H args us vs Q E hr he hb hv hs) fun r s' hq => by
    cases r with
    | ok fl => cases fl <;> exact hq
    | error e => exact h _ _ _ _ _ _ hq⟩
end Ls

namespace Ls
open PySem PySem.Spec PyProof.Rows L2
/-! ### small heaps' facts -/
theorem sql_of {K : PySem.W.Frag} {H : Hp} {a : Addr} {xs : List V} (h : H a = some (.lst xs)) : SqL K H a xs := .inl (.inl h)
theorem sqt_of {K : PySem.W.Frag} {H : Hp} {a : Addr} {xs : List V} (h : H a = some (.tup xs)) : SqT K H a xs := .inl (.inl h)
theorem atI_of {A : Type} {xs : List A} {i : Nat} {x : A} (h : xs[i]? = some x) : atI xs ((i : Nat) : Int) = some x := atI_nat h
theorem atI_ofI {A : Type} {xs : List A} {i : Int} {x : A} (h0 : 0 ≤ i) (h : xs[i.toNat]? = some x) : atI xs i = some x := by
  have e : i = ((i.toNat : Nat) : Int) := by omega
  rw [e]
  exact atI_nat h
theorem map_get {A B : Type} {f : A → B} {xs : List A} {i : Nat} {x : A} (h : xs[i]? = some x) : (xs.map f)[i]? = some (f x) := by
  rw [List.getElem?_map, h]
  rfl
theorem map_get_inv {A B : Type} {f : A → B} {xs : List A} {i : Nat} {y : B} (h : (xs.map f)[i]? = some y) : ∃ x, xs[i]? = some x ∧ y = f x := by
  rw [List.getElem?_map] at h
  cases e : xs[i]? with
  | none =>
    rw [e] at h
    cases h
  | some x =>
    rw [e] at h
    exact ⟨x, rfl, (Option.some.inj h).symm⟩
/-! ### the dice: a list of ints that are not below 0, two at least -/
def DiceL (ns : List Int) : Prop := 2 ≤ ns.length ∧ ns.length ≤ 100 ∧ ∀ x ∈ ns, 0 ≤ x
def Dice (H : Hp) (d : Addr) : Prop := ∃ ns : List Int, H d = some (.lst (ns.map V.int)) ∧ DiceL ns
def mD (d : Addr) : Mo := ⟨fun b => b = d, fun H => Dice H d, fun _ _ h e => by
  obtain ⟨ns, h1, _⟩ := h
  subst e
  exact ⟨_, h1⟩, fun _ _ h k => by
  obtain ⟨ns, h1, h2⟩ := h
  exact ⟨ns, k d _ rfl h1, h2⟩⟩
theorem gr_dice {F H : Hp} {d : Addr} {ns : List Int} (w : Wd (mD d) F H) (h : DiceL ns) : Gr (mD d) F H F (upd H d (.lst (ns.map V.int))) := by
  have fd : F d = none := w.n d rfl
  refine ⟨Same.refl F, fun b o e => ?_, fun b o q e => ?_, fun _ _ _ e => e, ⟨ns, upd_same, h⟩⟩
  · rw [upd_ne (ne_of_none e fd)]
    exact w.s b o e
  · rw [upd_ne (show b ≠ d from q)]
    exact e
/-! ### pictures -/
def IsPic (m : List (List Int)) : Prop := 1 ≤ m.length ∧ m.length ≤ 16 ∧ ∀ r ∈ m, (1 ≤ r.length ∧ r.length ≤ 16) ∧ r.length = (m.headD []).length ∧ ∀ c ∈ r, 0 ≤ c ∧ c ≤ 255
/-- h rows of w cells, each a cell -/
structure PicP (P : Int → Prop) (h w : Nat) (m : List (List Int)) : Prop where
  hi : m.length = h
  wi : ∀ r ∈ m, r.length = w
  ce : ∀ r ∈ m, ∀ c ∈ r, P c
abbrev PicHW (h w : Nat) (m : List (List Int)) : Prop := PicP (fun c => 0 ≤ c ∧ c ≤ 255) h w m
theorem PicP.pic {h w : Nat} {m : List (List Int)} (p : PicHW h w m) (h1 : 1 ≤ h) (h2 : h ≤ 16) (w1 : 1 ≤ w) (w2 : w ≤ 16) : IsPic m := by
  refine ⟨by rw [p.hi]; exact h1, by rw [p.hi]; exact h2, fun r hr => ⟨⟨by rw [p.wi r hr]; exact w1, by rw [p.wi r hr]; exact w2⟩, ?_, p.ce r hr⟩⟩
  cases m with
  | nil => cases hr
  | cons a t =>
    show r.length = a.length
    rw [p.wi r hr, p.wi a List.mem_cons_self]
theorem IsPic.hw {m : List (List Int)} (p : IsPic m) : PicHW m.length (m.headD []).length m := ⟨rfl, fun r hr => (p.2.2 r hr).2.1, fun r hr => (p.2.2 r hr).2.2⟩
theorem IsPic.w1 {m : List (List Int)} (p : IsPic m) : 1 ≤ (m.headD []).length ∧ (m.headD []).length ≤ 16 := by
  cases m with
  | nil => exact absurd p.1 (by decide)
  | cons a t => exact (p.2.2 a List.mem_cons_self).1
/-! ### a matrix that is new since H, all its rows apart -/
structure MatF (H H' : Hp) (p : Addr) (rs : List Addr) (m : List (List Int)) : Prop where
  top : H' p = some (.lst (rs.map V.ref))
  len : rs.length = m.length
  row : ∀ (i : Nat) (r : List Int) (a : Addr), m[i]? = some r → rs[i]? = some a → H' a = some (.lst (r.map V.int))
  nd : (p :: rs).Nodup
  new : ∀ a ∈ p :: rs, H a = none
theorem MatF.same {H H' H'' : Hp} {p : Addr} {rs : List Addr} {m : List (List Int)} (f : MatF H H' p rs m) (s : Same H' H'') : MatF H H'' p rs m :=
  ⟨s _ _ f.top, f.len, fun i r a h1 h2 => s _ _ (f.row i r a h1 h2), f.nd, f.new⟩
theorem dtAll_rows {K : PySem.W.Frag} {H : Hp} : ∀ (rs : List Addr) (m : List (List Int)), rs.length = m.length → (∀ (i : Nat) (r : List Int) (a : Addr), m[i]? = some r → rs[i]? = some a → H a = some (.lst (r.map V.int))) → DtAll K H (rs.map V.ref) (m.map dRow)
  | [], [], _, _ => .nil
  | [], _ :: _, h, _ => by cases h
  | _ :: _, [], h, _ => by cases h
  | a :: rs, r :: m, h, f => .cons (dt_row_mk (f 0 r a rfl rfl)) (dtAll_rows rs m (Nat.succ.inj h) fun i r' a' h1 h2 => f (i + 1) r' a' h1 h2)
theorem MatF.dp {K : PySem.W.Frag} {H H' : Hp} {p : Addr} {rs : List Addr} {m : List (List Int)} (f : MatF H H' p rs m) : Dt K H' (.ref p) (dMat m) :=
  .lst f.top (dtAll_rows rs m f.len f.row)
/-- frozen: all that is new -/
def frzAll (F H' : Hp) (as : List Addr) : Hp := fun b => if b ∈ as then H' b else F b
theorem frz_in {F H' : Hp} {as : List Addr} {b : Addr} (h : b ∈ as) : frzAll F H' as b = H' b := if_pos h
theorem frz_out {F H' : Hp} {as : List Addr} {b : Addr} (h : b ∉ as) : frzAll F H' as b = F b := if_neg h
theorem gr_all {m : Mo} {F H F' H' : Hp} {as : List Addr} (w : Wd m F H) (g : Gr m F H F' H') (new : ∀ a ∈ as, H a = none) (fr : ∀ a ∈ as, F' a = none) : Gr m F H (frzAll F' H' as) H' := by
  refine ⟨fun b o e => ?_, fun b o e => ?_, g.h, fun b o e z => ?_, g.j⟩
  · have hb : b ∉ as := fun q => by
      have := new b q
      rw [w.s b o e] at this
      cases this
    rw [frz_out hb]
    exact g.f b o e
  · by_cases hb : b ∈ as
    · rw [frz_in hb] at e
      exact e
    · rw [frz_out hb] at e
      exact g.s b o e
  · have hb : b ∉ as := fun q => by
      have := new b q
      rw [e] at this
      cases this
    rw [frz_out hb]
    exact g.n b o e z
theorem MatF.frz {K : PySem.W.Frag} {F H' : Hp} {H : Hp} {p : Addr} {rs : List Addr} {m : List (List Int)} (f : MatF H H' p rs m) : Dt K (frzAll F H' (p :: rs)) (.ref p) (dMat m) := by
  refine .lst ?_ (dtAll_rows rs m f.len fun i r a h1 h2 => ?_)
  · rw [frz_in List.mem_cons_self]
    exact f.top
  · rw [frz_in (List.mem_cons_of_mem _ (List.mem_of_getElem? h2))]
    exact f.row i r a h1 h2
end Ls
namespace Ls
open PySem PySem.Spec PyProof.Rows L2
theorem ixN_of {n j : Nat} (h : j < n) : ixN n ((j : Nat) : Int) = some j := by
  unfold ixN
  rw [if_pos (by omega), if_pos (by omega)]
  simp
theorem seqIx_of {n j : Nat} (h : j < n) : PySem.seqIndex? ((j : Nat) : Int) n = some j := (ixN_seq (ixN_of h)).1
end Ls
namespace Ls
open PySem PySem.Spec PyProof.Rows L2
/-- a <= b <= c, written c -/
theorem le_le {a b c : Int} {σ : L2.St} {H : Hp} {Q : VK} (q : Q (.bl (decide (a ≤ b ∧ b ≤ c))) H) :
    rI0 (fun i j => V.bl (decide (i ≤ j))) (.int a) (.int b) H fun z H3 => ∃ k, z = .bl k ∧ (if k = true then tC (.int c) σ H3 fun w' H4 => rI0 (fun i j => V.bl (decide (i ≤ j))) (.int b) w' H4 Q else Q (.bl false) H3) := by
  refine ⟨a, b, rfl, rfl, _, rfl, ?_⟩
  by_cases h : a ≤ b
  · rw [if_pos (decide_eq_true h)]
    refine ⟨b, c, rfl, rfl, ?_⟩
    show Q (.bl (decide (b ≤ c))) H
    rw [show decide (b ≤ c) = decide (a ≤ b ∧ b ≤ c) by simp [h]]
    exact q
  · rw [if_neg (by simp [h])]
    rw [show decide (a ≤ b ∧ b ≤ c) = false by simp [h]] at q
    exact q
/-- a row as need_picture wants it -/
def RowOk (n : Nat) (r : List Int) : Prop := (1 ≤ r.length ∧ r.length ≤ 16) ∧ r.length = n ∧ ∀ c ∈ r, 0 ≤ c ∧ c ≤ 255
theorem isPic_iff {m : List (List Int)} : IsPic m ↔ (1 ≤ m.length ∧ m.length ≤ 16) ∧ ∀ r ∈ m, RowOk (m.headD []).length r :=
  ⟨fun h => ⟨⟨h.1, h.2.1⟩, h.2.2⟩, fun h => ⟨h.1.1, h.1.2, h.2⟩⟩
end Ls
namespace Ls
open PySem PySem.Spec PyProof.Rows L2
theorem isum_app : ∀ (xs ys : List Int), (xs ++ ys).sum = xs.sum + ys.sum
  | [], ys => by simp
  | x :: xs, ys => by
    rw [List.cons_append, List.sum_cons, List.sum_cons, isum_app xs ys]
    omega
theorem isum_more {l : List Int} {i : Nat} {x : Int} (h : l[i]? = some x) : (l.take (i + 1)).sum = (l.take i).sum + x := by
  rw [take_more h, isum_app]
  simp
theorem range_map_succ {A : Type} (f : Nat → A) (n : Nat) : (List.range (n + 1)).map f = (List.range n).map f ++ [f n] := by
  rw [List.range_succ, List.map_append]
  rfl
theorem range_map_get {A : Type} (f : Nat → A) {n i : Nat} (h : i < n) : ((List.range n).map f)[i]? = some (f i) := by
  rw [List.getElem?_map, List.getElem?_range h]
  rfl
theorem MatF.more {H H' : Hp} {p q : Addr} {rs : List Addr} {m : List (List Int)} {row : List Int} (f : MatF H H' p rs m) (hq : H' q = some (.lst (row.map V.int))) (nq : q ∉ p :: rs) (zq : H q = none) :
    MatF H (upd H' p (.lst ((rs ++ [q]).map V.ref))) p (rs ++ [q]) (m ++ [row]) := by
  have np : ∀ a ∈ rs, a ≠ p := fun a ha e => by
    have := (List.nodup_cons.mp f.nd).1
    rw [e] at ha
    exact this ha
  have nqp : q ≠ p := fun e => nq (by rw [e]; exact List.mem_cons_self)
  refine ⟨upd_same, by rw [List.length_append, List.length_append, f.len]; rfl, fun i r a h1 h2 => ?_, ?_, fun a ha => ?_⟩
  · by_cases hi : i < m.length
    · rw [List.getElem?_append_left hi] at h1
      rw [List.getElem?_append_left (by rw [f.len]; exact hi)] at h2
      rw [upd_ne (np a (List.mem_of_getElem? h2))]
      exact f.row i r a h1 h2
    · have e : i = m.length := by
        have := (List.getElem?_eq_some_iff.mp h1).1
        rw [List.length_append] at this
        simp at this
        omega
      subst e
      rw [List.getElem?_append_right (Nat.le_refl _), Nat.sub_self] at h1
      rw [← f.len, List.getElem?_append_right (Nat.le_refl _), Nat.sub_self] at h2
      have e1 : row = r := Option.some.inj h1
      have e2 : q = a := Option.some.inj h2
      subst e1 e2
      rw [upd_ne nqp]
      exact hq
  · have h := f.nd
    rw [show p :: (rs ++ [q]) = (p :: rs) ++ [q] from rfl, List.nodup_append]
    refine ⟨h, by simp, fun a ha b hb => ?_⟩
    rw [List.mem_singleton] at hb
    subst hb
    exact fun e => nq (e ▸ ha)
  · rw [show p :: (rs ++ [q]) = (p :: rs) ++ [q] from rfl] at ha
    rcases List.mem_append.mp ha with ha | ha
    · exact f.new a ha
    · rw [List.mem_singleton] at ha
      rw [ha]
      exact zq
end Ls
namespace Ls
open PySem PySem.Spec PyProof.Rows L2
theorem MatF.gr {m : Mo} {F F' H H1 H3 : Hp} {p : Addr} {rs : List Addr} {M : List (List Int)} (f : MatF H H1 p rs M) (nM : ∀ b, H b = none → ¬ m.M b) (g : Gr m F H1 F' H3) : MatF H H3 p rs M :=
  ⟨g.h _ _ (nM _ (f.new p List.mem_cons_self)) f.top, f.len, fun i r a h1 h2 => g.h _ _ (nM _ (f.new a (List.mem_cons_of_mem _ (List.mem_of_getElem? h2)))) (f.row i r a h1 h2), f.nd, f.new⟩
theorem MatF.there {H H' : Hp} {p : Addr} {rs : List Addr} {m : List (List Int)} (f : MatF H H' p rs m) {a : Addr} (h : a ∈ p :: rs) : ∃ o, H' a = some o := by
  rcases List.mem_cons.mp h with rfl | h
  · exact ⟨_, f.top⟩
  · obtain ⟨i, hi⟩ := List.getElem?_of_mem h
    have hl : i < m.length := by
      rw [← f.len]
      exact (List.getElem?_eq_some_iff.mp hi).1
    exact ⟨_, f.row i _ a (List.getElem?_eq_getElem hl) hi⟩
/-- a comprehension whose items are new rows of ints -/
theorem comp_mat {A : Type} {m : Mo} {J : It} {G : Hp → Prop} {Y : Nat → Hp → V → Hp → Prop} {g : TG} {te : TE} {vs : List Nat} {σ : L2.St} {F H : Hp} {Q : VK}
    (wd : Wd m F H) (its : List A) (w : Walk J its.length G Y) (hG : ∀ H', Gr m F H F H' → G H') (f : A → List Int) (hz : its.length ≤ 1000000)
    (turn : ∀ i a x H1 H2, its[i]? = some a → Gr m F H F H1 → Y i H1 x H2 → ∀ Q1 : VK, (∀ b H3, H1 b = none → Gr m F H1 F H3 → H3 b = some (.lst ((f a).map V.int)) → Q1 (.ref b) H3) →
      g x (wipe σ vs) H2 fun σ2 H3 => wipe σ2 vs = wipe σ vs ∧ te σ2 H3 Q1)
    (fin : ∀ D rs H2, Gr m F H F H2 → MatF H H2 D rs (its.map f) → Q (.ref D) H2)
    (gm : ∀ x σ H Q Q', (∀ σ H, Q σ H → Q' σ H) → g x σ H Q → g x σ H Q') : LcIn J g tYes te vs σ H Q := by
  intro D hD
  have nM : ∀ b, H b = none → ¬ m.M b := fun b h => wd.nM h
  refine lc_it w (Qd := fun H' => Q (.ref D) H') (fun i H' => ∃ rs, Gr m F H F H' ∧ MatF H H' D rs ((its.take i).map f)) ?_ ?_ ?_ ?_
  · refine ⟨[], (Gr.refl wd).wr wd hD (wd.s.free hD), upd_same, rfl, fun i r a h1 _ => by simp at h1, by simp, fun a ha => ?_⟩
    rcases List.mem_cons.mp ha with rfl | ha
    · exact hD
    · cases ha
  · rintro i H' _ ⟨rs, gr, _⟩
    exact hG H' gr
  · rintro i x H1 H2 hi ⟨rs, gr, M⟩ hy
    have hit : its[i]? = some its[i] := List.getElem?_eq_getElem hi
    have T := turn i its[i] x H1 H2 hit gr hy (fun y H4 => ∃ acc, H4 D = some (.lst acc) ∧ acc.length < sizeLine ∧ (∃ rs, Gr m F H F (upd H4 D (.lst (acc ++ [y]))) ∧ MatF H (upd H4 D (.lst (acc ++ [y]))) D rs ((its.take (i + 1)).map f))) (fun b H3 zb g3 e3 => by
      have M3 := M.gr nM g3
      have hlen : rs.length ≤ i := by
        rw [M.len, List.length_map, List.length_take]
        exact Nat.min_le_left _ _
      refine ⟨rs.map V.ref, M3.top, by rw [List.length_map]; exact size_lt (by omega), rs ++ [b], (gr.trans wd g3).wr wd hD (wd.s.free hD), ?_⟩
      have nb : b ∉ D :: rs := fun hm => by
        obtain ⟨o, e⟩ := M.there hm
        rw [zb] at e
        cases e
      have M4 := M3.more e3 nb (gr.same wd zb)
      rw [take_more hit, List.map_append]
      have e5 : List.map V.ref rs ++ [V.ref b] = (rs ++ [b]).map V.ref := by simp
      rw [e5]
      exact M4)
    exact gm x _ H2 _ _ (fun σ2 H3 q => ⟨q.1, q.2⟩) T
  · rintro H' ⟨rs, gr, M⟩
    rw [List.take_length] at M
    exact fin D rs H' gr M
theorem gName_mono {k : Nat} : ∀ x σ H Q Q', (∀ σ H, Q σ H → Q' σ H) → gName k x σ H Q → gName k x σ H Q' := fun _ σ H _ _ h q => h _ _ q
/-- .. over a list, one name -/
theorem comp_matL {A : Type} {m : Mo} {K : PySem.W.Frag} {te : TE} {k : Nat} {vs : List Nat} {σ : L2.St} {F H : Hp} {Q : VK} {a : Addr} {xs : List V} (wd : Wd m F H) (its : List A) (hl : its.length = xs.length) (hS : SqL K F a xs) (hn : xs.length ≤ 1000000) (f : A → List Int)
    (hw : ∀ x, wipe ((wipe σ vs).set k (some x)) vs = wipe σ vs)
    (el : ∀ (i : Nat) (b : A) (x : V) (H1 : Hp), its[i]? = some b → xs[i]? = some x → Gr m F H F H1 → ∀ Q1 : VK, (∀ c H3, H1 c = none → Gr m F H1 F H3 → H3 c = some (.lst ((f b).map V.int)) → Q1 (.ref c) H3) → te ((wipe σ vs).set k (some x)) H1 Q1)
    (fin : ∀ D rs H2, Gr m F H F H2 → MatF H H2 D rs (its.map f) → Q (.ref D) H2) : LcIn (Itl K a) (gName k) tYes te vs σ H Q := by
  refine comp_mat (A := A) (G := fun H => SqL K H a xs) (Y := YAt xs) wd its (by rw [hl]; exact walk_list) (fun H' g => g.s.seq hS) f (by rw [hl]; exact hn) ?_ fin gName_mono
  rintro i b x H1 H2 hi gr ⟨rfl, hx⟩ Q1 k1
  exact ⟨hw _, el i b x _ hi hx gr Q1 k1⟩
/-- .. over a range -/
theorem comp_matR {m : Mo} {te : TE} {k : Nat} {vs : List Nat} {σ : L2.St} {F H : Hp} {Q : VK} {lo : Int} {n : Nat} (wd : Wd m F H) (hn : n ≤ 1000000) (f : Nat → List Int)
    (hw : ∀ x, wipe ((wipe σ vs).set k (some x)) vs = wipe σ vs)
    (el : ∀ (i : Nat) (H1 : Hp), i < n → Gr m F H F H1 → ∀ Q1 : VK, (∀ c H3, H1 c = none → Gr m F H1 F H3 → H3 c = some (.lst ((f i).map V.int)) → Q1 (.ref c) H3) → te ((wipe σ vs).set k (some (.int (lo + i)))) H1 Q1)
    (fin : ∀ D rs H2, Gr m F H F H2 → MatF H H2 D rs ((List.range n).map f) → Q (.ref D) H2) : LcIn (Itr lo n) (gName k) tYes te vs σ H Q := by
  refine comp_mat (A := Nat) (G := fun _ => True) (Y := YFn fun i => .int (lo + i)) wd (List.range n) (by rw [List.length_range]; exact walk_range) (fun _ _ => trivial) f (by rw [List.length_range]; exact hn) ?_ fin gName_mono
  rintro i b x H1 H2 hi gr ⟨rfl, rfl⟩ Q1 k1
  have hl : i < n := by
    have := (List.getElem?_eq_some_iff.mp hi).1
    rwa [List.length_range] at this
  have ea : b = i := by
    rw [List.getElem?_range hl] at hi
    exact (Option.some.inj hi).symm
  subst ea
  exact ⟨hw _, el b _ hl gr Q1 k1⟩
end Ls

namespace Ls
open PySem PySem.Spec PyProof.Rows L2
/-! ### isinstance of data -/
def tyN : PyData → String
  | .none => "NoneType"
  | .bool _ => "bool"
  | .int _ => "int"
  | .str _ => "str"
  | .list _ => "list"
  | .tuple _ => "tuple"
  | .dict _ => "dict"
theorem tyx_of {K : PySem.W.Frag} {H : Hp} {v : V} {d : PyData} (h : Dt K H v d) : TyX K H v (.type (tyN d)) := by
  cases h with
  | non => exact .base .non
  | bl b => exact .base (.bl b)
  | int i => exact .base (.int i)
  | str x => exact .base (.str x)
  | lst h _ => exact .base (.lst h)
  | tup h _ =>
    rcases h with (h | ⟨o, h⟩) | ⟨o, its, n, h1, h2, _⟩
    · exact .base (.tup h)
    · exact .fTuple h
    · exact .kTuple h1 h2
  | dic h _ => exact .base (.dK h)
mutual
/-- no dict within, no list longer than 1000 -/
def fine : PyData → Bool
  | .list xs => decide (xs.length ≤ 1000) && fines xs
  | .tuple xs => decide (xs.length ≤ 1000) && fines xs
  | .dict _ => false
  | .none => true
  | .bool _ => true
  | .int _ => true
  | .str x => PyData.strOk x
def fines : List PyData → Bool
  | [] => true
  | x :: xs => fine x && fines xs
end
theorem fines_get : ∀ {ds : List PyData} {i : Nat} {d : PyData}, fines ds = true → ds[i]? = some d → fine d = true
  | [], _, _, _, h => by simp at h
  | a :: r, 0, d, q, h => by
    have e : a = d := Option.some.inj h
    subst e
    rw [fines] at q
    exact (Bool.and_eq_true_iff.mp q).1
  | a :: r, i + 1, d, q, h => by
    rw [fines] at q
    exact fines_get (Bool.and_eq_true_iff.mp q).2 (i := i) (by simpa using h)
theorem fines_of : ∀ {ds : List PyData}, (∀ d ∈ ds, fine d = true) → fines ds = true
  | [], _ => by rw [fines]
  | a :: r, h => by
    rw [fines, h a List.mem_cons_self, fines_of fun d hd => h d (List.mem_cons_of_mem _ hd)]
    rfl
theorem depthAll_of {n : Nat} : ∀ {ds : List PyData}, (∀ d ∈ ds, d.depth ≤ n) → PyData.depthAll ds ≤ n
  | [], _ => by rw [PyData.depthAll]; exact Nat.zero_le _
  | a :: r, h => by
    rw [PyData.depthAll]
    exact Nat.max_le.mpr ⟨h a List.mem_cons_self, depthAll_of fun d hd => h d (List.mem_cons_of_mem _ hd)⟩
theorem fine_row {r : List Int} (h : r.length ≤ 1000) : fine (dRow r) = true := by
  unfold dRow
  rw [fine, List.length_map, decide_eq_true h, fines_of fun d hd => ?_]
  · rfl
  · obtain ⟨x, _, rfl⟩ := List.mem_map.mp hd
    rw [fine]
theorem depth_row (r : List Int) : (dRow r).depth ≤ 1 := by
  unfold dRow
  rw [PyData.depth]
  have : PyData.depthAll (r.map PyData.int) ≤ 0 := depthAll_of fun d hd => by
    obtain ⟨x, _, rfl⟩ := List.mem_map.mp hd
    rw [PyData.depth]
    exact Nat.le_refl 0
  omega
theorem fine_mat {m : List (List Int)} (h : m.length ≤ 1000) (hr : ∀ r ∈ m, r.length ≤ 1000) : fine (dMat m) = true := by
  unfold dMat
  rw [fine, List.length_map, decide_eq_true h, fines_of fun d hd => ?_]
  · rfl
  · obtain ⟨x, hx, rfl⟩ := List.mem_map.mp hd
    exact fine_row (hr x hx)
theorem depth_mat (m : List (List Int)) : (dMat m).depth ≤ 2 := by
  unfold dMat
  rw [PyData.depth]
  have : PyData.depthAll (m.map dRow) ≤ 1 := depthAll_of fun d hd => by
    obtain ⟨x, _, rfl⟩ := List.mem_map.mp hd
    exact depth_row x
  omega
theorem FnOk.vac {P : Program} {w : World} {K : PySem.W.Frag} {mg : Str → Option Value} {base : Heap} {CX : CXT} {k : Nat} {f : Addr} {fd : FuncData} {ps : List Str} {sp : Sp} (h : ∀ vs H Q E, ¬ sp vs H Q E) : L2.FnOk P w K mg base CX k f fd ps sp :=
  ⟨fun vs H Q E z => absurd z (h vs H Q E), fun _ _ _ _ _ _ _ _ _ _ _ _ _ z => absurd z (h _ _ _ _)⟩
theorem depthAll_get : ∀ {ds : List PyData} {i : Nat} {d : PyData}, ds[i]? = some d → d.depth ≤ PyData.depthAll ds
  | [], _, _, h => by simp at h
  | a :: r, 0, d, h => by
    have e : a = d := Option.some.inj h
    subst e
    rw [PyData.depthAll]
    exact Nat.le_max_left _ _
  | a :: r, i + 1, d, h => by
    have ih := depthAll_get (ds := r) (i := i) (d := d) (by simpa using h)
    rw [PyData.depthAll]
    exact Nat.le_trans ih (Nat.le_max_right _ _)
theorem paired_trues {A : Type} : ∀ {its : List A} {ys : List V}, Paired (fun _ y => y = V.bl true) its ys → ys = (its.map fun _ => true).map V.bl
  | _, _, .nil => rfl
  | _, _, .cons h t => by rw [h, paired_trues t]; rfl
theorem all_trues {A : Type} (its : List A) : (its.map fun _ => true).all id = true := by simp
end Ls
namespace Ls
open PySem PySem.Spec PyProof.Rows L2
mutual
theorem canLay_of_fine : ∀ {d : PyData}, fine d = true → d.canLay0 = true
  | .none, _ => rfl
  | .bool _, _ => rfl
  | .int _, _ => rfl
  | .str x, h => by
    rw [fine] at h
    exact h
  | .list xs, h => by
    rw [fine] at h
    exact canLayAll_of_fines (Bool.and_eq_true_iff.mp h).2
  | .tuple xs, h => by
    rw [fine] at h
    exact canLayAll_of_fines (Bool.and_eq_true_iff.mp h).2
  | .dict _, h => by
    rw [fine] at h
    cases h
theorem canLayAll_of_fines : ∀ {ds : List PyData}, fines ds = true → PyData.canLayAll0 ds = true
  | [], _ => rfl
  | x :: xs, h => by
    rw [fines] at h
    obtain ⟨h1, h2⟩ := Bool.and_eq_true_iff.mp h
    rw [PyData.canLayAll0, canLay_of_fine h1, canLayAll_of_fines h2]
    rfl
end
/-- what == and != ask -/
theorem shaped_of {d : PyData} (h : fine d = true) (hd : d.depth ≤ 64) : SeqAt.shaped d = true := by
  unfold SeqAt.shaped
  rw [canLay_of_fine h, decide_eq_true hd]
  rfl
mutual
theorem fine_noDic : ∀ {d : PyData}, fine d = true → noDic d = true
  | .none, _ => by rw [noDic]
  | .bool _, _ => by rw [noDic]
  | .int _, _ => by rw [noDic]
  | .str _, _ => by rw [noDic]
  | .list xs, h => by
    rw [fine] at h
    rw [noDic]
    exact fines_noDics (Bool.and_eq_true_iff.mp h).2
  | .tuple xs, h => by
    rw [fine] at h
    rw [noDic]
    exact fines_noDics (Bool.and_eq_true_iff.mp h).2
  | .dict _, h => by
    rw [fine] at h
    cases h
theorem fines_noDics : ∀ {ds : List PyData}, fines ds = true → noDics ds = true
  | [], _ => by rw [noDics]
  | x :: xs, h => by
    rw [fines] at h
    obtain ⟨h1, h2⟩ := Bool.and_eq_true_iff.mp h
    rw [noDics, fine_noDic h1, fines_noDics h2]
    rfl
end
/-- == of the same data -/
theorem eqD_same {K : PySem.W.Frag} {H : Hp} {x y : V} {d : PyData} {Q : VK} (hx : Dt K H x d) (hy : Dt K H y d) (hf : fine d = true) (hd : d.depth ≤ 64) (q : Q (.bl true) H) : rEqD K x y H Q := by
  refine ⟨d, d, hx.dp (fine_noDic hf), hy.dp (fine_noDic hf), shaped_of hf hd, shaped_of hf hd, ?_⟩
  rw [PySem.SeqAt.eqv_refl d (canLay_of_fine hf)]
  exact q
theorem neD_same {K : PySem.W.Frag} {H : Hp} {x y : V} {d : PyData} {Q : VK} (hx : Dt K H x d) (hy : Dt K H y d) (hf : fine d = true) (hd : d.depth ≤ 64) (q : Q (.bl false) H) : rNeD K x y H Q := by
  refine ⟨d, d, hx.dp (fine_noDic hf), hy.dp (fine_noDic hf), shaped_of hf hd, shaped_of hf hd, ?_⟩
  rw [PySem.SeqAt.eqv_refl d (canLay_of_fine hf)]
  exact q
/-- slices by natural ends -/
theorem cutV_to (xs : List V) (k : Nat) : cutV xs none (some ((k : Nat) : Int)) = xs.take k := by
  unfold cutV
  rw [HT.sIx_none, HT.sIx_nat, List.drop_zero, Nat.sub_zero]
  by_cases h : k ≤ xs.length
  · rw [Nat.min_eq_left h]
  · rw [Nat.min_eq_right (by omega), List.take_length, List.take_of_length_le (by omega)]
theorem cutV_from (xs : List V) (k : Nat) : cutV xs (some ((k : Nat) : Int)) none = xs.drop k := by
  unfold cutV
  rw [HT.sIx_none, HT.sIx_nat]
  by_cases h : k ≤ xs.length
  · rw [Nat.min_eq_left h, List.take_of_length_le (by rw [List.length_drop]; exact Nat.le_refl _)]
  · rw [Nat.min_eq_right (by omega), List.drop_length, List.drop_eq_nil_of_le (by omega)]
    simp
theorem cutV_fromto (xs : List V) (k j : Nat) (h : k ≤ j) : cutV xs (some ((k : Nat) : Int)) (some ((j : Nat) : Int)) = (xs.drop k).take (j - k) := by
  unfold cutV
  rw [HT.sIx_nat, HT.sIx_nat]
  by_cases h1 : k ≤ xs.length
  · rw [Nat.min_eq_left h1]
    by_cases h2 : j ≤ xs.length
    · rw [Nat.min_eq_left h2]
    · rw [Nat.min_eq_right (by omega), List.take_of_length_le (by rw [List.length_drop]; exact Nat.le_refl _), List.take_of_length_le (by rw [List.length_drop]; omega)]
  · rw [Nat.min_eq_right (by omega : xs.length ≤ k), List.drop_length, List.drop_eq_nil_of_le (by omega : xs.length ≤ k)]
    simp
end Ls

namespace Ls
open PySem PySem.Spec PyProof.Rows L2
/-! ### the layer's rules with the written part told (for use within comprehensions) -/
section
variable {X : Cx} {K : PySem.W.Frag}
theorem ixL (h : X.K = K) : IxR X (rIxL K) := by subst h; exact ix_list
theorem ixT (h : X.K = K) : IxR X (rIxT K) := by subst h; exact ix_tup
def rLenQ (K : PySem.W.Frag) : List V → Hp → VK → Prop := fun xs H Q => ∃ p ys, xs = [.ref p] ∧ (SqL K H p ys ∨ SqT K H p ys) ∧ Q (.int ys.length) H
theorem lenQ (h : X.K = K) : CallR X (.builtin "len") (rLenQ K) := by subst h; exact call_len_seq
def rLstQ (K : PySem.W.Frag) : List V → Hp → VK → Prop := fun xs H Q => ∃ p ys, xs = [.ref p] ∧ (SqL K H p ys ∨ SqT K H p ys) ∧ ∀ l, H l = none → Q (.ref l) (upd H l (.lst ys))
theorem lstQ (h : X.K = K) : CallR X (.type "list") (rLstQ K) := by subst h; exact call_list_of
theorem sumQ (h : X.K = K) (hc : X.calm = true) : CallR X (.builtin "sum") (rSum K) := by subst h; exact cr_sum hc
theorem minQ (h : X.K = K) (hc : X.calm = true) : CallR X (.builtin "min") (rMin K) := by subst h; exact cr_min hc
theorem allQ (h : X.K = K) (hc : X.calm = true) : CallR X (.builtin "all") (rAll K) := by subst h; exact cr_all hc
theorem isiQ (h : X.K = K) : CallR X (.builtin "isinstance") (rIsi K) := by subst h; exact call_isi
theorem sorQ (h : X.K = K) : CallR X (.builtin "sorted") (rSortedI K) := by subst h; exact cr_sortedI
theorem sorSQ (h : X.K = K) : CallR X (.builtin "sorted") (rSortedS K) := by subst h; exact cr_sortedS
theorem slL (h : X.K = K) : SlR X (rSlL K) := by subst h; exact sl_list
theorem inQ (h : X.K = K) : OpR X (compareOp .In) (rIn K false) := by subst h; exact op_in_seq
theorem ninQ (h : X.K = K) : OpR X (compareOp .NotIn) (rIn K true) := by subst h; exact op_notIn_seq
theorem eqQ (h : X.K = K) (hu : X.A.units + 64 < cLine) : OpR X (compareOp .Eq) (rEqD K) := by subst h; exact op_eqD hu
theorem neQ (h : X.K = K) (hu : X.A.units + 64 < cLine) : OpR X (compareOp .NotEq) (rNeD K) := by subst h; exact op_neD hu
theorem idxQ (h : X.K = K) : MtR X "list.index" (rIndex K) := by subst h; exact mt_index
end
section
variable {X : Cx} {K : PySem.W.Frag} {o e value : Expr} {f : Str} {pos pos' tpos p cpos apos : Pos} {ta tv tl to te : TE} {t : TA}
theorem pe_fldQ (h : X.K = K) (he : PE X e ta) (hb : attributeBase e f X.env (eval e X.env) = eval e X.env) : PE X (.Attribute e f pos) (tFld K ta f) := by subst h; exact pe_fld he hb
theorem ps_fldQ (h : X.K = K) (ha : PE X o ta) (hv : PE X value tv) (hs : swapsWith value (some (.Attribute o f pos')) pos.line X.env = pure false) : PS X (.Assign [.Attribute o f pos'] value pos) (sFld K ta tv f) := by subst h; exact ps_fld ha hv hs
theorem pi_listQ {tg l : Expr} (h : X.K = K) (hl : PE X l tl) : PI X tg l (iList K tl) := by subst h; exact pi_list hl
theorem pi_tupQ {tg l : Expr} (h : X.K = K) (hl : PE X l tl) : PI X tg l (iTup K tl) := by subst h; exact pi_tup hl
theorem pi_zipQ {e2 : Expr} {elts : List Expr} {kk : Nat} (h : X.K = K) (hg : Gl X "zip") (hm : X.mg "zip" = none) (ha : PA X [e, e2] t)
    (hs : starEach [e, e2] X.env = (false, eval e X.env) :: starEach [e2] X.env := by rfl) (hpl : (backTo pos (starEach [e2] X.env)).any (·.1) = false := by rfl) :
    PI X (.Tuple elts kk tpos) (.Call (.Name "zip" p) [e, e2] [] pos) (iZip K t) := by subst h; exact pi_zip hg hm ha hs hpl
theorem pg_tupQ {es : List Expr} {k n : Nat} {t : TGs} (h : X.K = K) (hc : X.calm = true) (ht : PGs X es t)
    (hn : (assignEach es X.env).length = n := by rfl) (hst : (assignEach es X.env).findIdx? (·.1) = none := by rfl) : PG X (.Tuple es k pos) (gTup K n t) := by subst h; exact pg_tup hc ht hn hst
theorem pe_revLQ {k : Nat} {p1 p2 p3 : Pos} (h : X.K = K) (he : PE X e te) : PE X (.Subscript e (.Slice none none (some (.UnaryOp .USub (.Constant (.int 1) k p1) p2)) p3) pos) (tRevL K te) := by subst h; exact pe_revL he
variable {es : List Expr} {name : Str} {T id : String} {r : V → List V → Hp → VK → Prop}
theorem pe_bm0Q (h : X.K = K) (pa : PlainAttrs T) (slot : Slot T name id) (hty : typeOf (.builtin id) = pure (.type "method_descriptor")) (hm : MtR X id r) (ho : PE X o to)
    (hbase : attributeBase o name X.env (eval o X.env) = eval o X.env := by rfl) (hline : (apos.endLine == cpos.line) = true := by rfl) : PE X (.Call (.Attribute o name apos) [] [] cpos) (tBM0 K T r to) := by
  subst h
  exact pe_bm0 pa slot hty hm ho hbase hline
theorem pe_bmQ (h : X.K = K) (pa : PlainAttrs T) (slot : Slot T name id) (hty : typeOf (.builtin id) = pure (.type "method_descriptor")) (hm : MtR X id r) (ho : PE X o to) (ha : PA X (e :: es) t)
    (hbase : attributeBase o name X.env (eval o X.env) = eval o X.env := by rfl)
    (hfew : ((backTo cpos (starEach (e :: es) X.env)).all (fun x => !x.1) && (backToKw cpos (keywordEach [] X.env)).all (fun x => x.1.isSome)
      && decide ((e :: es).length + ([] : List Keyword).length + (if ([] : List Keyword).isEmpty then 0 else 1) < 30)) = true := by rfl)
    (hline : (apos.endLine == cpos.line) = true := by rfl) (hs : starEach (e :: es) X.env = (false, eval e X.env) :: starEach es X.env := by rfl) (hplain : (backTo cpos (starEach es X.env)).any (·.1) = false := by rfl) :
    PE X (.Call (.Attribute o name apos) (e :: es) [] cpos) (tBM K T r to t) := by
  subst h
  exact pe_bm pa slot hty hm ho ha hbase hfew hline hs hplain
end
end Ls

namespace Ls
open PySem PySem.Spec PyProof.Rows L2 RT
/-! ### list(reversed(a list)) -/
section
variable {prog : Program} {w : World} {A : Around} {E : Value → Shared → Prop} {s : Shared}
theorem extend_revit {it l S : Addr} {items : Array Value} {c0 : Nat} {res : Value} {R : Result → Shared → Prop} (hh : A.handled = none) (hit : s.heap.IsRevIter it l ((items.size : Int) - 1)) (hl : s.heap.IsList l items) (hne : l ≠ it) (hn : items.size ≤ sizeLine)
    (hSi : S ≠ it) (hSl : S ≠ l) (hS : s.heap.get? S = some { cls := .type "list", data := .seq #[] c0 })
    (hR : ∀ h' tk acc' c', (∀ b o, b ≠ S → b ≠ it → s.heap.get? b = some o → h'.get? b = some o) → h'.get? S = some { cls := .type "list", dict := none, data := .seq acc' c', slots := #[] } → ItemsOf (fun i v => items[items.size - 1 - i]? = some v) acc' items.size → R (.ok (.ret res)) { s with heap := h', toks := tk }) :
    wpAny (model prog w) A.in1 (Builtin.List.listExtendWith (.ref S) (.ref it) res)
      (fun fin s' => match fin with | .done f => R (.ok f) s' | .again c' => c'.quiet = true ∧ codeAny (model prog w) A c' R s') (fun e s' => R (.error e) s') s := by
  have W := (Walks.listRev (prog := prog) (w := w) (A := A.in1) hh it l hne items).toS
  have hSf : S ∉ [it, l] := by simp only [List.mem_cons, List.not_mem_nil, or_false, not_or]; exact ⟨hSi, hSl⟩
  have hT : s.TypeIs (.ref it) "list_reverseiterator" := hit.typeIs
  have h1 : Builtin.List.listSameRef (.ref S) (.ref it) = false := by simp [Builtin.List.listSameRef, hSi]
  unfold Builtin.List.listExtendWith
  refine wpAny_bind (wpAny_typeOf hT ?_)
  rw [if_neg (by rw [h1]; decide)]
  refine wpAny_bind (wpAny_pyIter_revIter hit ?_)
  refine wpAny_bind (wpAny_holding ?_)
  unfold Builtin.List.listLengthHint
  refine wpAny_bind (wpAny_specialOf hT nolen_lri ?_)
  show wpAny _ A.in1 (specialOf (Value.ref it) (Str.ofString "__length_hint__") >>= _) _ _ _
  refine wpAny_bind (wpAny_specialOf hT hint_lri ?_)
  generalize hid : ("list_reverseiterator.__length_hint__" : String) = id0
  wp_delta
  rw [show splitId id0 = some ("list_reverseiterator", "__length_hint__") from by subst hid; decide +kernel]
  subst hid
  refine wpAny_bind (wpAny_isInstance (b := true) hT (by rw [isSubtype_type]; kernel_rfl) ?_)
  refine wpAny_pure ?_
  rw [if_neg (by decide)]
  have e0 : ((items.size : Nat) : Int) - 1 - ((0 : Nat) : Int) = (items.size : Int) - 1 := by omega
  refine wpAny_pure ⟨plainId_quiet PySem.F.plain_extend_loop _, codeAny_extend_loopS W hn S hSf res items.size 0 _ _ _ rfl (Nat.zero_le _) ⟨Nat.zero_le _, by rw [e0]; exact hit, hl⟩ hS (ItemsOf.nil _) fun s' acc' c' hm hS' hacc => ?_⟩
  rw [Moved.eq_with hm]
  refine hR s'.heap s'.toks acc' c' (fun b o hb hb2 e => hm.heap b o (fun hmem => ?_) e) hS' hacc
  rcases List.mem_cons.mp hmem with e' | hmem
  · exact hb e'
  · exact hb2 (List.mem_singleton.mp hmem)
theorem init_revit {it l S : Addr} {items : Array Value} {R : Result → Shared → Prop} (hh : A.handled = none) (hit : s.heap.IsRevIter it l ((items.size : Int) - 1)) (hl : s.heap.IsList l items) (hne : l ≠ it) (hn : items.size ≤ sizeLine)
    (hSi : S ≠ it) (hSl : S ≠ l) (hS : s.heap.get? S = some { cls := .type "list", data := .seq #[] })
    (hR : ∀ h' tk acc' c', (∀ b o, b ≠ S → b ≠ it → s.heap.get? b = some o → h'.get? b = some o) → h'.get? S = some { cls := .type "list", dict := none, data := .seq acc' c', slots := #[] } → ItemsOf (fun i v => items[items.size - 1 - i]? = some v) acc' items.size → R (.ok (.ret .none)) { s with heap := h', toks := tk }) :
    wpAny (model prog w) A.in1 (Builtin.«list.__init__» ⟨[.ref S, .ref it], []⟩)
      (fun fin s' => match fin with | .done f => R (.ok f) s' | .again c' => c'.quiet = true ∧ codeAny (model prog w) A c' R s') (fun e s' => R (.error e) s') s := by
  show wpAny _ _ (do let old ← Builtin.List.listItems (.ref S); Builtin.List.listUpdate (.ref S) (fun _ => #[]); letGo old.toList.reverse; Builtin.List.listExtendWith (.ref S) (.ref it) .none) _ _ s
  refine wpAny_bind ?_
  unfold Builtin.List.listItems
  refine wpAny_bind (wpAny_seqItems hS rfl (wpAny_pure ?_))
  show wpAny _ _ (updateSeq S (fun _ => #[]) >>= fun _ => letGo (#[] : Array Value).toList.reverse >>= fun _ => Builtin.List.listExtendWith (.ref S) (.ref it) .none) _ _ s
  refine wpAny_bind (wpAny_updateSeq hS rfl ?_)
  have hS₂ := Heap.get?_update_self (Obj.mapSeq (fun _ => (#[] : Array Value))) hS rfl
  have oth : ∀ b o, b ≠ S → s.heap.get? b = some o → (s.heap.update S (Obj.mapSeq (fun _ => (#[] : Array Value)))).get? b = some o :=
    fun b o hb e => (Heap.get?_update_other _ _ (Ne.symm hb)).trans e
  refine wpAny_bind (wpAny_letGo ?_)
  refine extend_revit (c0 := _) hh (hit.at fun o e => oth it o (Ne.symm hSi) e) ?_ hne hn hSi hSl hS₂ (fun h' tk acc' c' hk hS' hacc => ?_)
  · obtain ⟨o, ho, x⟩ := hl
    exact ⟨o, oth l o (Ne.symm hSl) ho, x⟩
  · exact hR h' tk acc' c' (fun b o hb hb2 e => hk b o hb hb2 (oth b o hb e)) hS' hacc
theorem call_list_revit {it l : Addr} {items : Array Value} {Q : Value → Shared → Prop} (hh : A.handled = none) (hit : s.heap.IsRevIter it l ((items.size : Int) - 1)) (hl : s.heap.IsList l items) (hne : l ≠ it) (hn : items.size ≤ sizeLine)
    (hQ : ∀ h' tk acc' c', (∀ b o, b ≠ it → s.heap.get? b = some o → h'.get? b = some o) → h'.get? s.heap.objs.size = some { cls := .type "list", dict := none, data := .seq acc' c', slots := #[] } → ItemsOf (fun i v => items[items.size - 1 - i]? = some v) acc' items.size →
      Q (.ref s.heap.objs.size) { s with heap := h', toks := tk }) :
    wpAny (model prog w) A (call (.type "list") [.ref it]) Q E s := by
  refine callType_codes (Q₁ := fun obj s₁ => obj = .ref s.heap.objs.size ∧ s₁ = { s with heap := s.heap.push { cls := .type "list", data := .seq #[] } }) PySem.F.called_list (PySem.F.typeCall_list_1 _) PySem.F.entry_list_init
    (code_list_new _ ⟨rfl, rfl⟩) fun obj s₁ h₁ => ?_
  obtain ⟨rfl, rfl⟩ := h₁
  have hS : (s.heap.push { cls := .type "list", data := .seq #[] }).get? s.heap.objs.size = some { cls := .type "list", data := .seq #[] } := Heap.get?_push_size _ rfl
  obtain ⟨oi, hoi, _⟩ := id hit
  obtain ⟨ol, hol, _⟩ := id hl
  refine ⟨⟨_, hS, rfl⟩, PySem.F.args_list_init_2 _ _, init_revit (A := A.in1) hh (hit.at fun o e => Heap.get?_push_of_some _ e) (hl.push _) hne hn (Nat.ne_of_gt (Heap.lt_size hoi)) (Nat.ne_of_gt (Heap.lt_size hol)) hS (fun h' tk acc' c' hk hS' hacc => ?_)⟩
  exact ⟨rfl, hQ h' tk acc' c' (fun b o hb e => hk b o (Nat.ne_of_lt (Heap.lt_size e)) hb (Heap.get?_push_of_some _ e)) hS' hacc⟩
end
def tLstRev (K : PySem.W.Frag) (te : TE) : TE := fun σ H Q => te σ H fun v H1 => ∃ (a : Addr) (xs : List V), v = .ref a ∧ SqL K H1 a xs ∧ ∀ q, H1 q = none → Q (.ref q) (upd H1 q (.lst xs.reverse))
theorem pe_lstRev {X : Cx} {K : PySem.W.Frag} {e : Expr} {te : TE} {p p2 pos pos2 : Pos} (hK : X.K = K) (hc : X.calm = true) (hg : Gl X "list") (hm : X.mg "list" = none) (hg2 : Gl X "reversed") (hm2 : X.mg "reversed" = none) (he : PE X e te)
    (hs : starEach [e] X.env = (false, eval e X.env) :: starEach [] X.env := by rfl)
    (hs2 : starEach [.Call (.Name "reversed" p2) [e] [] pos2] X.env = (false, eval (.Call (.Name "reversed" p2) [e] [] pos2) X.env) :: starEach [] X.env := by rfl) :
    PE X (.Call (.Name "list" p) [.Call (.Name "reversed" p2) [e] [] pos2] [] pos) (tLstRev K te) := by
  subst hK
  refine ⟨fun pins s σ H Q I h => ?_⟩
  refine Call_ (ld_blt I hg hm boot_list (PyProof.Rows.callWith_type1 (args_cons (Call_ (ld_blt I hg2 hm2 PyProof.Rows.boot_reversed (PyProof.Rows.callWith_type1 (args_cons (thn (he.run pins s σ H _ I h) fun u s1 ⟨v, H1, I1, r1, q1⟩ => args_nil ?_) hs) hs rfl))) hs2) hs2 rfl))
  obtain ⟨a, xs, ev, hq, q⟩ := q1
  subst ev
  obtain rfl : u = Value.ref a := r1
  obtain ⟨its, rv, p', hz⟩ := I1.list hq
  refine call_reversed_list p'.isList (args_nil ?_)
  have k0 : ∀ b o, s1.heap.get? b = some o → (s1.heap.push (revObj a ((its.toArray.size : Int) - 1))).get? b = some o := fun b o e => Heap.get?_push_of_some _ e
  have I2 : Inv X pins σ H1 { s1 with heap := s1.heap.push (revObj a ((its.toArray.size : Int) - 1)) } := I1.kept (t' := s1.toks) k0
  obtain ⟨f0, f1, f2, f3, f4, f5⟩ := I1.fpOk (H' := H1) (b := s1.heap.objs.size) (Nat.le_refl _) (I1.hok.fresh (Nat.le_refl _))
  have hl := p'.isList
  obtain ⟨ol, hol, _⟩ := id hl
  have hne : a ≠ s1.heap.objs.size := Nat.ne_of_lt (Heap.lt_size hol)
  have hn : its.toArray.size ≤ sizeLine := by rw [List.size_toArray, ← rv.length]; exact hz
  refine call_list_revit (s := { s1 with heap := s1.heap.push (revObj a ((its.toArray.size : Int) - 1)) }) (I1.ok.hd hc) ⟨_, Heap.get?_push_size _ rfl, rfl, rfl⟩ (hl.push _) hne hn fun h' tk acc c' hk hS hi => ?_
  have hS2 : h'.get? (s1.heap.push (revObj a ((its.toArray.size : Int) - 1))).objs.size = some { cls := .type "list", dict := none, data := .seq acc c', slots := #[] } := hS
  generalize hD : (s1.heap.push (revObj a ((its.toArray.size : Int) - 1))).objs.size = D at hS2
  have hle : s1.heap.objs.size ≤ D := by
    rw [← hD, Heap.size_push]
    exact Nat.le_succ _
  have hDn : H1 D = none := I1.hok.fresh hle
  have J : Inv X pins σ (upd H1 D (.lst xs.reverse)) { s1 with heap := h', toks := tk } := by
    refine I1.laid (t' := tk) (fun b o e => hk b o (Nat.ne_of_lt (Heap.lt_size e)) (k0 b o e)) hle ⟨by rw [List.length_reverse]; exact hz, acc.toList, c', vals_rev rv hi, ?_⟩
    rw [Array.toArray_toList]
    exact hS2
  exact ⟨.ref D, _, J, by rw [← hD]; rfl, q D hDn⟩
end Ls

namespace Ls
open PySem PySem.Spec PyProof.Rows L2
/-! ### pictures moved: the plain law -/
def mirT (m : List (List Int)) : List (List Int) := m.map List.reverse
def turnT (m : List (List Int)) : List (List Int) := (List.range (m.headD []).length).map fun k => m.map fun r => r.getD ((m.headD []).length - 1 - k) 0
def turnsT : Nat → List (List Int) → List (List Int)
  | 0, m => m
  | n + 1, m => turnT (turnsT n m)
def moveT (m : List (List Int)) (t s : Nat) : List (List Int) := turnsT t (if s = 1 then mirT m else m)
def cellAt (m : List (List Int)) (i j : Nat) : Int := (m.getD i []).getD j 0
theorem PicP.head {P : Int → Prop} {h w : Nat} {m : List (List Int)} (p : PicP P h w m) (h1 : 1 ≤ h) : (m.headD []).length = w := by
  cases m with
  | nil =>
    have := p.hi
    simp at this
    omega
  | cons a t => exact p.wi a List.mem_cons_self
theorem getD_get {A : Type} {l : List A} {i : Nat} {d x : A} (h : l[i]? = some x) : l.getD i d = x := by
  rw [List.getD_eq_getElem?_getD, h]
  rfl
theorem PicP.row {P : Int → Prop} {h w : Nat} {m : List (List Int)} (p : PicP P h w m) {i : Nat} (hi : i < h) : ∃ r, m[i]? = some r ∧ r.length = w ∧ m.getD i [] = r := by
  have h1 : i < m.length := by rw [p.hi]; exact hi
  exact ⟨m[i], List.getElem?_eq_getElem h1, p.wi _ (List.getElem_mem h1), getD_get (List.getElem?_eq_getElem h1)⟩
theorem PicP.cell {P : Int → Prop} {h w : Nat} {m : List (List Int)} (p : PicP P h w m) {i j : Nat} (hi : i < h) (hj : j < w) : P (cellAt m i j) := by
  obtain ⟨r, e1, e2, e3⟩ := p.row hi
  have hj2 : j < r.length := by omega
  have e4 : r.getD j 0 = r[j] := getD_get (List.getElem?_eq_getElem hj2)
  unfold cellAt
  rw [e3, e4]
  exact p.ce r (List.mem_of_getElem? e1) _ (List.getElem_mem hj2)
theorem PicP.ext {P : Int → Prop} {h w : Nat} {m m' : List (List Int)} (p : PicP P h w m) (p' : PicP P h w m') (e : ∀ i j, i < h → j < w → cellAt m i j = cellAt m' i j) : m = m' := by
  apply List.ext_getElem?
  intro i
  by_cases hi : i < h
  · obtain ⟨r, e1, e2, e3⟩ := p.row hi
    obtain ⟨r', g1, g2, g3⟩ := p'.row hi
    rw [e1, g1]
    congr 1
    apply List.ext_getElem?
    intro j
    by_cases hj : j < w
    · have z := e i j hi hj
      unfold cellAt at z
      rw [e3, g3] at z
      have a1 : r[j]? = some r[j] := List.getElem?_eq_getElem (by omega)
      have a2 : r'[j]? = some r'[j] := List.getElem?_eq_getElem (by omega)
      rw [getD_get a1, getD_get a2] at z
      rw [a1, a2, z]
    · rw [List.getElem?_eq_none (by omega), List.getElem?_eq_none (by omega)]
  · rw [List.getElem?_eq_none (by rw [p.hi]; omega), List.getElem?_eq_none (by rw [p'.hi]; omega)]
theorem mir_hw {P : Int → Prop} {h w : Nat} {m : List (List Int)} (p : PicP P h w m) : PicP P h w (mirT m) := by
  refine ⟨by unfold mirT; rw [List.length_map, p.hi], fun r hr => ?_, fun r hr c hc => ?_⟩
  · unfold mirT at hr
    obtain ⟨z, hz, rfl⟩ := List.mem_map.mp hr
    rw [List.length_reverse, p.wi z hz]
  · unfold mirT at hr
    obtain ⟨z, hz, rfl⟩ := List.mem_map.mp hr
    exact p.ce z hz c (List.mem_reverse.mp hc)
theorem mir_at {P : Int → Prop} {h w : Nat} {m : List (List Int)} (p : PicP P h w m) {i j : Nat} (hi : i < h) (hj : j < w) : cellAt (mirT m) i j = cellAt m i (w - 1 - j) := by
  obtain ⟨r, e1, e2, e3⟩ := p.row hi
  have e4 : (mirT m)[i]? = some r.reverse := by
    unfold mirT
    rw [List.getElem?_map, e1]
    rfl
  unfold cellAt
  rw [getD_get e4, e3, List.getD_eq_getElem?_getD, List.getD_eq_getElem?_getD, List.getElem?_reverse (by omega), e2]
theorem turn_hw {P : Int → Prop} {h w : Nat} {m : List (List Int)} (p : PicP P h w m) (h1 : 1 ≤ h) : PicP P w h (turnT m) := by
  have hh := p.head h1
  refine ⟨by unfold turnT; rw [List.length_map, List.length_range, hh], fun r hr => ?_, fun r hr c hc => ?_⟩
  · unfold turnT at hr
    obtain ⟨k, hk, rfl⟩ := List.mem_map.mp hr
    rw [List.length_map, p.hi]
  · unfold turnT at hr
    obtain ⟨k, hk, rfl⟩ := List.mem_map.mp hr
    obtain ⟨z, hz, rfl⟩ := List.mem_map.mp hc
    rw [List.mem_range, hh] at hk
    rw [hh]
    have hl : w - 1 - k < z.length := by
      rw [p.wi z hz]
      omega
    rw [getD_get (List.getElem?_eq_getElem hl)]
    exact p.ce z hz _ (List.getElem_mem hl)
theorem turn_at {P : Int → Prop} {h w : Nat} {m : List (List Int)} (p : PicP P h w m) {k a : Nat} (hk : k < w) (ha : a < h) : cellAt (turnT m) k a = cellAt m a (w - 1 - k) := by
  have hh := p.head (by omega)
  obtain ⟨r, e1, e2, e3⟩ := p.row ha
  have e4 : (turnT m)[k]? = some (m.map fun r => r.getD (w - 1 - k) 0) := by
    unfold turnT
    rw [hh]
    exact range_map_get _ hk
  unfold cellAt
  rw [getD_get e4, e3, List.getD_eq_getElem?_getD, List.getElem?_map, e1]
  rfl
theorem turns_hw {P : Int → Prop} {h w : Nat} {m : List (List Int)} (p : PicP P h w m) (h1 : 1 ≤ h) (w1 : 1 ≤ w) : ∀ n, (n % 2 = 0 → PicP P h w (turnsT n m)) ∧ (n % 2 = 1 → PicP P w h (turnsT n m))
  | 0 => ⟨fun _ => p, fun z => by simp at z⟩
  | n + 1 => ⟨fun z => turn_hw ((turns_hw p h1 w1 n).2 (by omega)) w1, fun z => turn_hw ((turns_hw p h1 w1 n).1 (by omega)) h1⟩
theorem move_hw {P : Int → Prop} {h w : Nat} {m : List (List Int)} (p : PicP P h w m) (h1 : 1 ≤ h) (w1 : 1 ≤ w) (t s : Nat) : (t % 2 = 0 → PicP P h w (moveT m t s)) ∧ (t % 2 = 1 → PicP P w h (moveT m t s)) := by
  unfold moveT
  refine turns_hw ?_ h1 w1 t
  by_cases e : s = 1
  · rw [if_pos e]
    exact mir_hw p
  · rw [if_neg e]
    exact p
theorem turn4 {P : Int → Prop} {h w : Nat} {m : List (List Int)} (p : PicP P h w m) (h1 : 1 ≤ h) (w1 : 1 ≤ w) : turnT (turnT (turnT (turnT m))) = m := by
  have p1 := turn_hw p h1
  have p2 := turn_hw p1 w1
  have p3 := turn_hw p2 h1
  have p4 := turn_hw p3 w1
  refine p4.ext p fun i j hi hj => ?_
  rw [turn_at p3 hi hj, turn_at p2 hj (by omega), turn_at p1 (by omega) (by omega), turn_at p (by omega) (by omega)]
  rw [show h - 1 - (h - 1 - i) = i by omega, show w - 1 - (w - 1 - j) = j by omega]
end Ls
namespace Ls
open PySem PySem.Spec PyProof.Rows L2
theorem MatF.back {H H1 H2 : Hp} {p : Addr} {rs : List Addr} {m : List (List Int)} (s : Same H H1) (f : MatF H1 H2 p rs m) : MatF H H2 p rs m := ⟨f.top, f.len, f.row, f.nd, fun a ha => s.free (f.new a ha)⟩
theorem range_getD {A B : Type} (f : A → B) (d : A) (m : List A) : (List.range m.length).map (fun i => f (m.getD i d)) = m.map f := by
  apply List.ext_getElem?
  intro i
  by_cases hi : i < m.length
  · rw [range_map_get _ hi, List.getElem?_map, List.getElem?_eq_getElem hi, getD_get (List.getElem?_eq_getElem hi)]
    rfl
  · rw [List.getElem?_eq_none (by simp; omega), List.getElem?_eq_none (by simp; omega)]
end Ls
namespace Ls
open PySem PySem.Spec PyProof.Rows L2
theorem fine_pic {P : Int → Prop} {h w : Nat} {m : List (List Int)} (p : PicP P h w m) (h1 : h ≤ 1000) (w1 : w ≤ 1000) : fine (dMat m) = true := fine_mat (by rw [p.hi]; exact h1) fun r hr => by rw [p.wi r hr]; exact w1
theorem fine_move {P : Int → Prop} {h w : Nat} {m : List (List Int)} (p : PicP P h w m) (h0 : 1 ≤ h) (w0 : 1 ≤ w) (h1 : h ≤ 1000) (w1 : w ≤ 1000) (t s : Nat) : fine (dMat (moveT m t s)) = true := by
  by_cases e : t % 2 = 0
  · exact fine_pic ((move_hw p h0 w0 t s).1 e) h1 w1
  · exact fine_pic ((move_hw p h0 w0 t s).2 (by omega)) w1 h1
theorem len_move {P : Int → Prop} {h w : Nat} {m : List (List Int)} (p : PicP P h w m) (h0 : 1 ≤ h) (w0 : 1 ≤ w) (h1 : h ≤ 1000) (w1 : w ≤ 1000) (t s : Nat) : 1 ≤ (moveT m t s).length ∧ (moveT m t s).length ≤ 1000 ∧ ∀ r ∈ moveT m t s, 1 ≤ r.length ∧ r.length ≤ 1000 := by
  by_cases e : t % 2 = 0
  · have q := (move_hw p h0 w0 t s).1 e
    exact ⟨by rw [q.hi]; exact h0, by rw [q.hi]; exact h1, fun r hr => by rw [q.wi r hr]; exact ⟨w0, w1⟩⟩
  · have q := (move_hw p h0 w0 t s).2 (by omega)
    exact ⟨by rw [q.hi]; exact w0, by rw [q.hi]; exact w1, fun r hr => by rw [q.wi r hr]; exact ⟨h0, h1⟩⟩
end Ls

namespace Ls
open PySem PySem.Spec PyProof.Rows L2
/-! ### the kinds of likeness: the module's table -/
def kindsTab : List (Str × List (Nat × Nat)) := [("plain", [(0, 0)]), ("half", [(0, 0), (2, 0)]), ("turn", [(0, 0), (1, 0), (2, 0), (3, 0)]), ("mirror", [(0, 0), (0, 1)]), ("both", [(0, 0), (2, 0), (0, 1), (2, 1)]),
  ("all", [(0, 0), (1, 0), (2, 0), (3, 0), (0, 1), (1, 1), (2, 1), (3, 1)])]
def waysT (kind : Str) : List (Nat × Nat) := (kindsTab.lookup kind).getD []
def IsKind (kind : Str) : Prop := kind ∈ kindsTab.map (·.1)
def dWay (w : Nat × Nat) : PyData := .tuple [.int w.1, .int w.2]
def dWays (ws : List (Nat × Nat)) : PyData := .tuple (ws.map dWay)
def vWay (w : Nat × Nat) : List V := [.int w.1, .int w.2]
def tupIs (K : PySem.W.Frag) (a : Addr) (vs : List V) : Bool := match K.lookup a with
  | some ⟨.type c, _, .seq its _, _⟩ => decide (c = "tuple") && (decide (its.size ≤ sizeLine) && He.relAll vs its.toList)
  | _ => false
theorem tupIs_ok {K : PySem.W.Frag} {a : Addr} {vs : List V} (h : tupIs K a vs = true) (H : Hp) : SqT K H a vs := by
  unfold tupIs at h
  cases q : K.lookup a with
  | none =>
    rw [q] at h
    cases h
  | some o =>
    obtain ⟨oc, od, dt, osl⟩ := o
    rw [q] at h
    cases oc with
    | type c =>
      cases dt with
      | seq its n =>
        obtain ⟨h1, h2⟩ := He.ba h
        obtain ⟨h3, h4⟩ := He.ba h2
        exact .inr ⟨_, its, n, q, congrArg Value.type (of_decide_eq_true h1), rfl, of_decide_eq_true h3, He.relAll_ok h4⟩
      | _ => cases h
    | _ => cases dt <;> cases h
/-- the addresses of a written tuple's items -/
def refsAt (K : PySem.W.Frag) (a : Addr) : List V := match K.lookup a with
  | some ⟨_, _, .seq its _, _⟩ => its.toList.map fun v => match v with
    | .ref b => V.ref b
    | _ => .non
  | _ => []
def waysAt (K : PySem.W.Frag) : List V → List (Nat × Nat) → Bool
  | [], [] => true
  | .ref b :: vs, w :: ws => tupIs K b (vWay w) && waysAt K vs ws
  | _, _ => false
theorem waysAt_ok {K : PySem.W.Frag} {H : Hp} : ∀ {vs : List V} {ws : List (Nat × Nat)}, waysAt K vs ws = true → DtAll K H vs (ws.map dWay)
  | [], [], _ => .nil
  | [], _ :: _, h => by cases h
  | v :: _, [], h => by cases v <;> cases h
  | .ref b :: vs, w :: ws, h => by
    obtain ⟨h1, h2⟩ := He.ba (show (tupIs K b (vWay w) && waysAt K vs ws) = true from h)
    exact .cons (.tup (tupIs_ok h1 H) (.cons (.int _) (.cons (.int _) .nil))) (waysAt_ok h2)
  | .non :: _, _ :: _, h => by cases h
  | .bl _ :: _, _ :: _, h => by cases h
  | .int _ :: _, _ :: _, h => by cases h
  | .str _ :: _, _ :: _, h => by cases h
  | .byt _ :: _, _ :: _, h => by cases h
  | .flt _ :: _, _ :: _, h => by cases h
  | .ty _ :: _, _ :: _, h => by cases h
def kindB (K : PySem.W.Frag) (q : Str × List (Nat × Nat)) : Bool := match PySem.W.nsIn K (He.ga K "KINDS") q.1 with
  | some (some (.ref T)) => tupIs K T (refsAt K T) && waysAt K (refsAt K T) q.2
  | _ => false
def kindsB (K : PySem.W.Frag) : Bool := kindsTab.all fun q => kindB K q
def kindsB2 (K : PySem.W.Frag) : Bool := kindsB K && He.tupB K "SQUARE" [.str "turn", .str "all"]
theorem kind_ok {K : PySem.W.Frag} {q : Str × List (Nat × Nat)} (h : kindB K q = true) : ∃ T, PySem.W.nsIn K (He.ga K "KINDS") q.1 = some (some (.ref T)) ∧ ∀ F, Dt K F (.ref T) (dWays q.2) := by
  unfold kindB at h
  cases e : PySem.W.nsIn K (He.ga K "KINDS") q.1 with
  | none =>
    rw [e] at h
    cases h
  | some r =>
    rw [e] at h
    cases r with
    | none => cases h
    | some v =>
      cases v with
      | ref T =>
        obtain ⟨h1, h2⟩ := He.ba h
        exact ⟨T, rfl, fun F => .tup (tupIs_ok h1 F) (waysAt_ok h2)⟩
      | _ => cases h
theorem kinds_ok {K : PySem.W.Frag} {w : World} {es : Array DictEntry} {n : Nat} (D : KDict K w (He.ga K "KINDS") es n) (h : kindsB K = true) : ∀ q ∈ kindsTab, ∃ T, KDct K w (He.ga K "KINDS") q.1 (.ref T) ∧ ∀ F, Dt K F (.ref T) (dWays q.2) := fun q hq => by
  obtain ⟨T, h1, h2⟩ := kind_ok (List.all_eq_true.mp h q hq)
  exact ⟨T, ⟨es, n, _, D.at_, D.lit, h1, rfl⟩, h2⟩
theorem ixKD {X : Cx} {K : PySem.W.Frag} {w : World} (h : X.K = K) (hw : X.w = w) : IxR X (rIxD K w) := by subst h hw; exact ix_kdict
theorem lookup_tab : ∀ {l : List (Str × List (Nat × Nat))} {k : Str}, k ∈ l.map (·.1) → (k, (l.lookup k).getD []) ∈ l
  | [], _, h => by cases h
  | (a, b) :: r, k, h => by
    by_cases e : k = a
    · subst e
      rw [List.lookup_cons_self]
      exact List.mem_cons_self
    · have e2 : (k == a) = false := by simpa using e
      rw [List.lookup_cons, e2]
      rcases List.mem_cons.mp h with h | h
      · exact absurd h e
      · exact List.mem_cons_of_mem _ (lookup_tab h)
theorem kind_mem {k : Str} (h : IsKind k) : (k, waysT k) ∈ kindsTab := lookup_tab h
theorem ways_ne {k : Str} (h : IsKind k) : ∃ r, waysT k = (0, 0) :: r := by
  have h2 := kind_mem h
  generalize waysT k = ws at h2
  simp only [kindsTab, List.mem_cons, Prod.mk.injEq, List.not_mem_nil, or_false] at h2
  rcases h2 with ⟨_, rfl⟩ | ⟨_, rfl⟩ | ⟨_, rfl⟩ | ⟨_, rfl⟩ | ⟨_, rfl⟩ | ⟨_, rfl⟩ <;> exact ⟨_, rfl⟩
theorem ways_lt {k : Str} (h : IsKind k) : ∀ w ∈ waysT k, w.1 ≤ 3 ∧ w.2 ≤ 1 := by
  have h2 := kind_mem h
  generalize waysT k = ws at h2
  simp only [kindsTab, List.mem_cons, Prod.mk.injEq, List.not_mem_nil, or_false] at h2
  rcases h2 with ⟨_, rfl⟩ | ⟨_, rfl⟩ | ⟨_, rfl⟩ | ⟨_, rfl⟩ | ⟨_, rfl⟩ | ⟨_, rfl⟩ <;> (intro w hw; simp only [List.mem_cons, List.not_mem_nil, or_false] at hw; rcases hw with h | h | h | h | h | h | h | h) <;> simp_all
end Ls

namespace Ls
open PySem PySem.Spec PyProof.Rows L2
/-! ### how far two are apart -/
def iabs (x : Int) : Int := if x < 0 then -x else x
def diffR (r s : List Int) : Int := ((r.zip s).map fun q => iabs (q.1 - q.2)).sum
def diffT (a b : List (List Int)) : Int := ((a.zip b).map fun p => diffR p.1 p.2).sum
/-- the least one, the first such -/
def bestT {A : Type} : List (Int × A) → Option (Int × A)
  | [] => none
  | x :: r => match bestT r with
    | none => some x
    | some y => if y.1 < x.1 then some y else some x
def stepB {A : Type} (b : Option (Int × A)) (x : Int × A) : Option (Int × A) := match b with
  | none => some x
  | some y => if x.1 < y.1 then some x else some y
theorem bestT_cons {A : Type} (x : Int × A) (r : List (Int × A)) : bestT (x :: r) = match bestT r with
    | none => some x
    | some y => if y.1 < x.1 then some y else some x := rfl
theorem stepB_fold {A : Type} : ∀ (l : List (Int × A)) (b : Option (Int × A)), l.foldl stepB b = match b, bestT l with
    | none, o => o
    | some x, none => some x
    | some x, some y => if y.1 < x.1 then some y else some x
  | [], none => rfl
  | [], some x => rfl
  | x :: r, none => by
    rw [List.foldl_cons, show stepB none x = some x from rfl, stepB_fold r (some x), bestT_cons]
    cases bestT r <;> rfl
  | x :: r, some b => by
    rw [List.foldl_cons]
    show r.foldl stepB (if x.1 < b.1 then some x else some b) = _
    rw [bestT_cons]
    by_cases h : x.1 < b.1
    · rw [if_pos h, stepB_fold r (some x)]
      cases e : bestT r with
      | none =>
        show some x = if x.1 < b.1 then some x else some b
        rw [if_pos h]
      | some y =>
        show (if y.1 < x.1 then some y else some x) = (match (some b : Option (Int × A)), (if y.1 < x.1 then some y else some x) with | none, o => o | some x, none => some x | some x, some y => if y.1 < x.1 then some y else some x)
        by_cases h2 : y.1 < x.1
        · rw [if_pos h2]
          show some y = if y.1 < b.1 then some y else some b
          rw [if_pos (by omega)]
        · rw [if_neg h2]
          show some x = if x.1 < b.1 then some x else some b
          rw [if_pos h]
    · rw [if_neg h, stepB_fold r (some b)]
      cases e : bestT r with
      | none =>
        show some b = if x.1 < b.1 then some x else some b
        rw [if_neg h]
      | some y =>
        show (if y.1 < b.1 then some y else some b) = (match (some b : Option (Int × A)), (if y.1 < x.1 then some y else some x) with | none, o => o | some x, none => some x | some x, some y => if y.1 < x.1 then some y else some x)
        by_cases h2 : y.1 < x.1
        · rw [if_pos h2]
        · rw [if_neg h2]
          show (if y.1 < b.1 then some y else some b) = if x.1 < b.1 then some x else some b
          rw [if_neg h, if_neg (by omega)]
theorem best_fold {A : Type} (l : List (Int × A)) : l.foldl stepB none = bestT l := stepB_fold l none
theorem bestT_some {A : Type} : ∀ {l : List (Int × A)}, l ≠ [] → ∃ y, bestT l = some y
  | [], h => absurd rfl h
  | x :: r, _ => by
    rw [bestT_cons]
    cases bestT r with
    | none => exact ⟨_, rfl⟩
    | some y =>
      show ∃ z, (if y.1 < x.1 then some y else some x) = some z
      by_cases h : y.1 < x.1
      · exact ⟨y, if_pos h⟩
      · exact ⟨x, if_neg h⟩
theorem bestT_mem {A : Type} : ∀ {l : List (Int × A)} {y : Int × A}, bestT l = some y → y ∈ l ∧ ∀ x ∈ l, y.1 ≤ x.1
  | [], _, h => by cases h
  | x :: r, y, h => by
    rw [bestT_cons] at h
    cases e : bestT r with
    | none =>
      rw [e] at h
      cases h
      have hr : r = [] := by
        cases r with
        | nil => rfl
        | cons a b =>
          obtain ⟨z, hz⟩ := bestT_some (l := a :: b) (List.cons_ne_nil _ _)
          rw [hz] at e
          cases e
      subst hr
      exact ⟨List.mem_cons_self, fun z hz => by
        rcases List.mem_cons.mp hz with rfl | hz
        · exact Int.le_refl _
        · cases hz⟩
    | some z =>
      rw [e] at h
      obtain ⟨h1, h2⟩ := bestT_mem e
      have h' : (if z.1 < x.1 then some z else some x) = some y := h
      by_cases c : z.1 < x.1
      · rw [if_pos c] at h'
        cases h'
        exact ⟨List.mem_cons_of_mem _ h1, fun u hu => by
          rcases List.mem_cons.mp hu with rfl | hu
          · omega
          · exact h2 u hu⟩
      · rw [if_neg c] at h'
        cases h'
        exact ⟨List.mem_cons_self, fun u hu => by
          rcases List.mem_cons.mp hu with rfl | hu
          · exact Int.le_refl _
          · have := h2 u hu
            omega⟩
/-- the first of those that are the least -/
theorem bestT_first {A : Type} : ∀ {l : List (Int × A)} {y : Int × A} {n : Int}, bestT l = some y → y.1 = n → (l.filter fun x => decide (x.1 = n)).head? = some y
  | [], _, _, h, _ => by cases h
  | x :: r, y, n, h, hn => by
    have hm := bestT_mem h
    rw [bestT_cons] at h
    cases e : bestT r with
    | none =>
      rw [e] at h
      cases h
      rw [List.filter_cons, if_pos (by rw [hn]; exact decide_eq_true rfl)]
      rfl
    | some z =>
      rw [e] at h
      have h' : (if z.1 < x.1 then some z else some x) = some y := h
      by_cases c : z.1 < x.1
      · rw [if_pos c] at h'
        cases h'
        rw [List.filter_cons, if_neg (by simp; omega)]
        exact bestT_first e hn
      · rw [if_neg c] at h'
        cases h'
        rw [List.filter_cons, if_pos (by rw [hn]; exact decide_eq_true rfl)]
        rfl
def farsT (m1 m2 : List (List Int)) (kind : Str) : List (Int × (Nat × Nat)) := (waysT kind).map fun w => (diffT m1 (moveT m2 w.1 w.2), w)
def apartT (m1 m2 : List (List Int)) (kind : Str) : Int × (Nat × Nat) := (bestT (farsT m1 m2 kind)).getD (0, (0, 0))
def farT (m1 m2 : List (List Int)) (kind : Str) : Int := (apartT m1 m2 kind).1
def dFar (x : Int × (Nat × Nat)) : PyData := .tuple [.int x.1, dWay x.2]
theorem apart_some {m1 m2 : List (List Int)} {kind : Str} (h : IsKind kind) : bestT (farsT m1 m2 kind) = some (apartT m1 m2 kind) := by
  obtain ⟨r, e⟩ := ways_ne h
  obtain ⟨y, hy⟩ := bestT_some (l := farsT m1 m2 kind) (by unfold farsT; rw [e]; simp)
  unfold apartT
  rw [hy]
  rfl
theorem paired_zip_sum {A B : Type} (f : A → B → Int) : ∀ (xs : List A) (ys : List B), ((List.range (min xs.length ys.length)).map fun i => match xs[i]?, ys[i]? with | some x, some y => f x y | _, _ => 0) = (xs.zip ys).map fun q => f q.1 q.2
  | [], ys => by simp
  | x :: xs, [] => by simp
  | x :: xs, y :: ys => by
    have ih := paired_zip_sum f xs ys
    rw [List.zip_cons_cons, List.map_cons, ← ih, List.length_cons, List.length_cons, Nat.succ_min_succ, List.range_succ_eq_map, List.map_cons, List.map_map]
    rfl
end Ls
namespace Ls
open PySem PySem.Spec PyProof.Rows L2
theorem forin_it {J : It} {n : Nat} {G : Hp → Prop} {Y : Nat → Hp → V → Hp → Prop} (w : Walk J n G Y) {g : TG} {tb : TS} {D : Ends} {σ : L2.St} {H : Hp} (Pv : Nat → L2.St → Hp → Prop) (h0 : Pv 0 σ H) (hG : ∀ i σ H, i ≤ n → Pv i σ H → G H)
    (hs : ∀ i x σ H H', i < n → Pv i σ H → Y i H x H' → g x σ H' fun σ2 H2 => tb { D with nx := Pv (i + 1), ct := Pv (i + 1), bk := D.nx } σ2 H2) (hd : ∀ σ H, Pv n σ H → D.nx σ H) : ForIn J g tb D σ H := for_it w Pv h0 hG hs hd
theorem zip_get {A B : Type} {xs : List A} {ys : List B} {i : Nat} {a : A × B} (h : (xs.zip ys)[i]? = some a) : xs[i]? = some a.1 ∧ ys[i]? = some a.2 := by
  rw [List.getElem?_zip_eq_some] at h
  exact h
theorem zip_get_of {A B : Type} {xs : List A} {ys : List B} {i : Nat} {a : A} {b : B} (h1 : xs[i]? = some a) (h2 : ys[i]? = some b) : (xs.zip ys)[i]? = some (a, b) := by
  rw [List.getElem?_zip_eq_some]
  exact ⟨h1, h2⟩
end Ls

namespace Ls
open PySem PySem.Spec PyProof.Rows L2
/-! ### ways written out -/
def wayTE (w : Nat × Nat) : TE := tTup (tCons (tC (.int w.1)) (tCons (tC (.int w.2)) tNil))
def waysTA : List (Nat × Nat) → TA
  | [] => tNil
  | w :: r => tCons (wayTE w) (waysTA r)
theorem ways_ta {K : PySem.W.Frag} {m : Mo} {σ : L2.St} : ∀ (ws : List (Nat × Nat)) {F H : Hp} {Q : List V → Hp → Prop}, Wd m F H → (∀ ys F' H', Gr m F H F' H' → DtAll K F' ys (ws.map dWay) → Q ys H') → waysTA ws σ H Q
  | [], F, H, _, wd, q => q [] F H (Gr.refl wd) .nil
  | w :: r, F, H, Q, wd, q => by
    refine ⟨by show 2 ≤ sizeLine; decide, fun p hp => ?_⟩
    have g := (Gr.refl wd).new (o := .tup [.int w.1, .int w.2]) wd hp
    exact ways_ta (K := K) r (g.wd wd) fun ys F' H' g' h => q _ F' H' (g.trans wd g') (.cons (.tup (sqt_of (g'.f _ _ upd_same)) (.cons (.int _) (.cons (.int _) .nil))) h)
theorem ways_lst {K : PySem.W.Frag} {m : Mo} {σ : L2.St} {F H : Hp} {Q : VK} (ws : List (Nat × Nat)) (hl : ws.length ≤ 1000) (wd : Wd m F H) (q : ∀ D ys F' H', Gr m F H F' H' → F' D = some (.lst ys) → DtAll K F' ys (ws.map dWay) → Q (.ref D) H') : tLst (waysTA ws) σ H Q :=
  ways_ta (K := K) ws wd fun ys F1 H1 g h => by
    have hl2 := dtAll_len h
    rw [List.length_map] at hl2
    exact ⟨size_le (by omega), fun D hD => q D ys _ _ (g.new wd hD) upd_same (h.up (same_new (g.s.free hD)))⟩
theorem ways_pair {x : Str} {ws : List (Nat × Nat)} {r : List (TE × TE)} {σ : L2.St} {H : Hp} {Q : List (V × V) → Hp → Prop} (h : tLst (waysTA ws) σ H fun y H2 => tPairs r σ H2 fun ps H3 => Q ((.str x, y) :: ps) H3) : tPairs ((tC (.str x), tLst (waysTA ws)) :: r) σ H Q := h
theorem ways_put {td ty : TE} {ws : List (Nat × Nat)} {D : Ends} {σ : L2.St} {H : Hp} (h : tLst (waysTA ws) σ H fun v H1 => td σ H1 fun x H2 => ty σ H2 fun y H3 => ∃ a H4, x = .ref a ∧ DPut H3 a y v H4 ∧ D.nx σ H4) : sDPut td ty (tLst (waysTA ws)) D σ H := h
/-- a kind that pictures of this size may have -/
def KFit (kind : Str) (h w : Nat) : Prop := IsKind kind ∧ ∀ q ∈ waysT kind, q.1 % 2 = 1 → h = w
theorem KFit.pic {P : Int → Prop} {kind : Str} {h w : Nat} {m : List (List Int)} (f : KFit kind h w) (p : PicP P h w m) (h1 : 1 ≤ h) (w1 : 1 ≤ w) {q : Nat × Nat} (hq : q ∈ waysT kind) : PicP P h w (moveT m q.1 q.2) := by
  obtain ⟨a, b⟩ := move_hw p h1 w1 q.1 q.2
  by_cases e : q.1 % 2 = 0
  · exact a e
  · have e2 := f.2 q hq (by omega)
    subst e2
    exact b (by omega)
theorem dt_way {K : PySem.W.Frag} {F : Hp} {v : V} {w : Nat × Nat} (h : Dt K F v (dWay w)) : ∃ T, v = .ref T ∧ SqT K F T [.int w.1, .int w.2] := by
  obtain ⟨T, xs, rfl, hT, ha⟩ := dt_tup_inv h
  have e : xs = [.int w.1, .int w.2] := dtAll_int_inv (ns := [(w.1 : Int), (w.2 : Int)]) ha
  subst e
  exact ⟨T, rfl, hT⟩
theorem dt_far {K : PySem.W.Frag} {F : Hp} {v : V} {x : Int × (Nat × Nat)} (h : Dt K F v (dFar x)) : ∃ T y, v = .ref T ∧ SqT K F T [.int x.1, y] ∧ Dt K F y (dWay x.2) := by
  obtain ⟨T, xs, rfl, hT, ha⟩ := dt_tup_inv h
  cases ha with
  | cons a t =>
    cases t with
    | cons b t =>
      cases t
      have := dt_int_inv a
      subst this
      exact ⟨T, _, rfl, hT, b⟩
theorem kind_cases {k : Str} (h : IsKind k) : k = "plain" ∨ k = "half" ∨ k = "turn" ∨ k = "mirror" ∨ k = "both" ∨ k = "all" := by
  have h2 : k ∈ (["plain", "half", "turn", "mirror", "both", "all"] : List Str) := h
  simpa using h2
theorem head?_get {A : Type} {l : List A} {x : A} (h : l.head? = some x) : l[0]? = some x := by
  cases l with
  | nil => cases h
  | cons a r => exact h
theorem MatF.set {H H' : Hp} {p : Addr} {rs : List Addr} {m : List (List Int)} (f : MatF H H' p rs m) {i j : Nat} {r : List Int} {a : Addr} {c : Int} (h1 : m[i]? = some r) (h2 : rs[i]? = some a) :
    MatF H (upd H' a (.lst ((r.set j c).map V.int))) p rs (m.set i (r.set j c)) := by
  have na : p ≠ a := fun e => (List.nodup_cons.mp f.nd).1 (e ▸ List.mem_of_getElem? h2)
  refine ⟨by rw [upd_ne na]; exact f.top, by rw [List.length_set]; exact f.len, fun i' r' a' g1 g2 => ?_, f.nd, f.new⟩
  by_cases e : i = i'
  · subst e
    rw [h2] at g2
    cases g2
    rw [List.getElem?_set_self (List.getElem?_eq_some_iff.mp h1).1] at g1
    cases g1
    rw [upd_same]
  · rw [List.getElem?_set_ne e] at g1
    have n2 : a' ≠ a := fun z => by
      subst z
      exact e (List.getElem?_inj (List.getElem?_eq_some_iff.mp h2).1 (List.nodup_cons.mp f.nd).2 |>.mp (h2.trans g2.symm))
    rw [upd_ne n2]
    exact f.row i' r' a' g1 g2
theorem PicP.set {P : Int → Prop} {h w : Nat} {m : List (List Int)} (p : PicP P h w m) {i j : Nat} {r : List Int} {c : Int} (h1 : m[i]? = some r) (hc : P c) : PicP P h w (m.set i (r.set j c)) := by
  refine ⟨by rw [List.length_set]; exact p.hi, fun r' hr => ?_, fun r' hr x hx => ?_⟩
  · rcases List.mem_or_eq_of_mem_set hr with hr | rfl
    · exact p.wi r' hr
    · rw [List.length_set]
      exact p.wi r (List.mem_of_getElem? h1)
  · rcases List.mem_or_eq_of_mem_set hr with hr | rfl
    · exact p.ce r' hr x hx
    · rcases List.mem_or_eq_of_mem_set hx with hx | rfl
      · exact p.ce r (List.mem_of_getElem? h1) x hx
      · exact hc
end Ls

namespace Ls
open PySem PySem.Spec PyProof.Rows L2
/-! ### sums by a number -/
def isum (f : Nat → Int) : Nat → Int
  | 0 => 0
  | n + 1 => isum f n + f n
theorem isum_congr {f g : Nat → Int} : ∀ {n : Nat}, (∀ i, i < n → f i = g i) → isum f n = isum g n
  | 0, _ => rfl
  | n + 1, h => by
    show isum f n + f n = isum g n + g n
    rw [isum_congr fun i hi => h i (Nat.lt_succ_of_lt hi), h n (Nat.lt_succ_self n)]
theorem isum_add (f g : Nat → Int) : ∀ n : Nat, isum (fun i => f i + g i) n = isum f n + isum g n
  | 0 => rfl
  | n + 1 => by
    show isum (fun i => f i + g i) n + (f n + g n) = (isum f n + f n) + (isum g n + g n)
    rw [isum_add f g n]
    omega
theorem isum_le {f g : Nat → Int} : ∀ {n : Nat}, (∀ i, i < n → f i ≤ g i) → isum f n ≤ isum g n
  | 0, _ => Int.le_refl _
  | n + 1, h => by
    have a := isum_le fun i hi => h i (Nat.lt_succ_of_lt hi)
    have b := h n (Nat.lt_succ_self n)
    show isum f n + f n ≤ isum g n + g n
    omega
theorem isum_zero : ∀ n : Nat, isum (fun _ => 0) n = 0
  | 0 => rfl
  | n + 1 => by
    show isum (fun _ => 0) n + 0 = 0
    rw [isum_zero n]
    rfl
theorem isum_swap (f : Nat → Nat → Int) (w : Nat) : ∀ h : Nat, isum (fun i => isum (fun j => f i j) w) h = isum (fun j => isum (fun i => f i j) h) w
  | 0 => (isum_zero w).symm
  | h + 1 => by
    show isum (fun i => isum (fun j => f i j) w) h + isum (fun j => f h j) w = isum (fun j => isum (fun i => f i j) h + f h j) w
    rw [isum_swap f w h, isum_add]
theorem isum_front (f : Nat → Int) : ∀ n : Nat, isum f (n + 1) = f 0 + isum (fun j => f (j + 1)) n
  | 0 => by
    show (0 : Int) + f 0 = f 0 + 0
    omega
  | n + 1 => by
    show isum f (n + 1) + f (n + 1) = f 0 + (isum (fun j => f (j + 1)) n + f (n + 1))
    rw [isum_front f n]
    omega
theorem isum_rev (f : Nat → Int) : ∀ n : Nat, isum (fun j => f (n - 1 - j)) n = isum f n
  | 0 => rfl
  | n + 1 => by
    rw [isum_front]
    show f (n + 1 - 1 - 0) + isum (fun j => f (n + 1 - 1 - (j + 1))) n = isum f n + f n
    have e : isum (fun j => f (n + 1 - 1 - (j + 1))) n = isum (fun j => f (n - 1 - j)) n := isum_congr fun i hi => by
      rw [show n + 1 - 1 - (i + 1) = n - 1 - i by omega]
    rw [e, isum_rev f n, show n + 1 - 1 - 0 = n by omega]
    omega
theorem sum_isum {f : Nat → Int} {l : List Int} {n : Nat} (hl : l.length = n) (h : ∀ i, i < n → l[i]? = some (f i)) : l.sum = isum f n := by
  have go : ∀ k, k ≤ n → (l.take k).sum = isum f k := by
    intro k
    induction k with
    | zero => exact fun _ => rfl
    | succ k ih =>
      intro hk
      rw [isum_more (h k (by omega)), ih (by omega)]
      rfl
  have e := go n (Nat.le_refl n)
  rw [← hl, List.take_length] at e
  rw [e, hl]
/-! ### how far, cell by cell -/
def gapAt (a b : List (List Int)) (i j : Nat) : Int := iabs (cellAt a i j - cellAt b i j)
theorem iabs_nn (x : Int) : 0 ≤ iabs x := by
  unfold iabs
  split <;> omega
theorem iabs_sub (x y : Int) : iabs (x - y) = iabs (y - x) := by
  unfold iabs
  split <;> split <;> omega
theorem iabs_tri (x y z : Int) : iabs (x - z) ≤ iabs (x - y) + iabs (y - z) := by
  unfold iabs
  split <;> split <;> split <;> omega
section
variable {P : Int → Prop} {h w : Nat} {a b c m : List (List Int)}
theorem diff_isum (p1 : PicP P h w a) (p2 : PicP P h w b) : diffT a b = isum (fun i => isum (fun j => gapAt a b i j) w) h := by
  unfold diffT
  refine sum_isum (by rw [List.length_map, List.length_zip, p1.hi, p2.hi, Nat.min_self]) fun i hi => ?_
  obtain ⟨r, r1, r2, r3⟩ := p1.row hi
  obtain ⟨t, t1, t2, t3⟩ := p2.row hi
  rw [map_get (zip_get_of r1 t1)]
  congr 1
  unfold diffR
  refine sum_isum (by rw [List.length_map, List.length_zip, r2, t2, Nat.min_self]) fun j hj => ?_
  have rj : r[j]? = some (r[j]'(by omega)) := List.getElem?_eq_getElem (by omega)
  have tj : t[j]? = some (t[j]'(by omega)) := List.getElem?_eq_getElem (by omega)
  rw [map_get (zip_get_of rj tj)]
  unfold gapAt cellAt
  rw [r3, t3, getD_get rj, getD_get tj]
theorem diff_self (p : PicP P h w a) : diffT a a = 0 := by
  rw [diff_isum p p]
  have e : ∀ i j, gapAt a a i j = 0 := fun i j => by
    unfold gapAt iabs
    rw [Int.sub_self]
    rfl
  rw [isum_congr (g := fun _ => 0) fun i _ => (isum_congr (g := fun _ => 0) fun j _ => e i j).trans (isum_zero w), isum_zero]
theorem diff_nn (p1 : PicP P h w a) (p2 : PicP P h w b) : 0 ≤ diffT a b := by
  rw [diff_isum p1 p2, ← isum_zero h]
  refine isum_le fun i _ => ?_
  rw [← isum_zero w]
  exact isum_le fun j _ => iabs_nn _
theorem diff_comm (p1 : PicP P h w a) (p2 : PicP P h w b) : diffT a b = diffT b a := by
  rw [diff_isum p1 p2, diff_isum p2 p1]
  exact isum_congr fun i _ => isum_congr fun j _ => iabs_sub _ _
theorem diff_tri (p1 : PicP P h w a) (p2 : PicP P h w b) (p3 : PicP P h w c) : diffT a c ≤ diffT a b + diffT b c := by
  rw [diff_isum p1 p2, diff_isum p2 p3, diff_isum p1 p3, ← isum_add]
  refine isum_le fun i _ => ?_
  rw [← isum_add]
  exact isum_le fun j _ => iabs_tri _ _ _
theorem diff_mir (p1 : PicP P h w a) (p2 : PicP P h w b) : diffT (mirT a) (mirT b) = diffT a b := by
  rw [diff_isum (mir_hw p1) (mir_hw p2), diff_isum p1 p2]
  refine isum_congr fun i hi => ?_
  rw [← isum_rev (fun j => gapAt a b i j)]
  refine isum_congr fun j hj => ?_
  unfold gapAt
  rw [mir_at p1 hi hj, mir_at p2 hi hj]
theorem diff_turn (p1 : PicP P h w a) (p2 : PicP P h w b) (h1 : 1 ≤ h) : diffT (turnT a) (turnT b) = diffT a b := by
  rw [diff_isum (turn_hw p1 h1) (turn_hw p2 h1), diff_isum p1 p2, isum_swap (fun i j => gapAt a b i j) w h, ← isum_rev (fun j => isum (fun i => gapAt a b i j) h) w]
  refine isum_congr fun k hk => isum_congr fun i hi => ?_
  unfold gapAt
  rw [turn_at p1 hk hi, turn_at p2 hk hi]
theorem diff_turns (p1 : PicP P h w a) (p2 : PicP P h w b) (h1 : 1 ≤ h) (w1 : 1 ≤ w) : ∀ n, diffT (turnsT n a) (turnsT n b) = diffT a b
  | 0 => rfl
  | n + 1 => by
    have ih := diff_turns p1 p2 h1 w1 n
    obtain ⟨a1, a2⟩ := turns_hw p1 h1 w1 n
    obtain ⟨b1, b2⟩ := turns_hw p2 h1 w1 n
    show diffT (turnT (turnsT n a)) (turnT (turnsT n b)) = _
    by_cases e : n % 2 = 0
    · rw [diff_turn (a1 e) (b1 e) h1, ih]
    · rw [diff_turn (a2 (by omega)) (b2 (by omega)) w1, ih]
theorem diff_move (p1 : PicP P h w a) (p2 : PicP P h w b) (h1 : 1 ≤ h) (w1 : 1 ≤ w) (t s : Nat) : diffT (moveT a t s) (moveT b t s) = diffT a b := by
  unfold moveT
  by_cases e : s = 1
  · rw [if_pos e, if_pos e, diff_turns (mir_hw p1) (mir_hw p2) h1 w1, diff_mir p1 p2]
  · rw [if_neg e, if_neg e, diff_turns p1 p2 h1 w1]
/-! ### the ways are a group -/
theorem turns_add (x y : Nat) (m : List (List Int)) : turnsT (x + y) m = turnsT x (turnsT y m) := by
  induction x with
  | zero => rw [Nat.zero_add]; rfl
  | succ x ih =>
    rw [Nat.succ_add]
    show turnT (turnsT (x + y) m) = turnT (turnsT x (turnsT y m))
    rw [ih]
theorem turns_four (p : PicP P h w m) (h1 : 1 ≤ h) (w1 : 1 ≤ w) (r : Nat) : ∀ q, turnsT (4 * q + r) m = turnsT r m
  | 0 => by rw [Nat.mul_zero, Nat.zero_add]
  | q + 1 => by
    rw [show 4 * (q + 1) + r = 4 + (4 * q + r) by omega, turns_add, turns_four p h1 w1 r q]
    obtain ⟨a1, a2⟩ := turns_hw p h1 w1 r
    by_cases e : r % 2 = 0
    · exact turn4 (a1 e) h1 w1
    · exact turn4 (a2 (by omega)) w1 h1
theorem turns_mod (p : PicP P h w m) (h1 : 1 ≤ h) (w1 : 1 ≤ w) (n : Nat) : turnsT (n % 4) m = turnsT n m := by
  have e := turns_four p h1 w1 (n % 4) (n / 4)
  rw [show 4 * (n / 4) + n % 4 = n by omega] at e
  exact e.symm
theorem mir_mir (m : List (List Int)) : mirT (mirT m) = m := by
  unfold mirT
  rw [List.map_map]
  conv => rhs; rw [← List.map_id m]
  exact List.map_congr_left fun r _ => List.reverse_reverse r
theorem mir_turn (p : PicP P h w m) (h1 : 1 ≤ h) (w1 : 1 ≤ w) : mirT (turnT m) = turnsT 3 (mirT m) := by
  have q0 := mir_hw p
  have q1 := turn_hw q0 h1
  have q2 := turn_hw q1 w1
  have q3 := turn_hw q2 h1
  refine PicP.ext (mir_hw (turn_hw p h1)) q3 fun k i hk hi => ?_
  show _ = cellAt (turnT (turnT (turnT (mirT m)))) k i
  rw [mir_at (turn_hw p h1) hk hi, turn_at p hk (by omega : h - 1 - i < h), turn_at q2 hk hi, turn_at q1 hi (by omega : w - 1 - k < w), turn_at q0 (by omega : w - 1 - k < w) (by omega : h - 1 - i < h), mir_at p (by omega : h - 1 - i < h) (by omega : w - 1 - (w - 1 - k) < w)]
  congr 1
  omega
theorem mir_turns (p : PicP P h w m) (h1 : 1 ≤ h) (w1 : 1 ≤ w) : ∀ n, mirT (turnsT n m) = turnsT (3 * n) (mirT m)
  | 0 => rfl
  | n + 1 => by
    have ih := mir_turns p h1 w1 n
    obtain ⟨a1, a2⟩ := turns_hw p h1 w1 n
    show mirT (turnT (turnsT n m)) = _
    have e : mirT (turnT (turnsT n m)) = turnsT 3 (mirT (turnsT n m)) := by
      by_cases e : n % 2 = 0
      · exact mir_turn (a1 e) h1 w1
      · exact mir_turn (a2 (by omega)) w1 h1
    rw [e, ih, ← turns_add, show 3 + 3 * n = 3 * (n + 1) by omega]
def mulW (x y : Nat × Nat) : Nat × Nat := if y.2 = 1 then ((y.1 + 3 * x.1) % 4, 1 - x.2) else ((x.1 + y.1) % 4, x.2)
theorem move_mul (p : PicP P h w m) (h1 : 1 ≤ h) (w1 : 1 ≤ w) {x y : Nat × Nat} (hx : x.2 ≤ 1) : moveT (moveT m x.1 x.2) y.1 y.2 = moveT m (mulW x y).1 (mulW x y).2 := by
  have q0 := mir_hw p
  unfold mulW
  by_cases e : y.2 = 1
  · rw [if_pos e]
    show turnsT y.1 (if y.2 = 1 then mirT (moveT m x.1 x.2) else moveT m x.1 x.2) = turnsT ((y.1 + 3 * x.1) % 4) (if 1 - x.2 = 1 then mirT m else m)
    rw [if_pos e]
    unfold moveT
    have hx2 : x.2 = 0 ∨ x.2 = 1 := by omega
    rcases hx2 with hx2 | hx2 <;> rw [hx2]
    · rw [if_neg (by decide), if_pos (by decide), mir_turns p h1 w1, ← turns_add, turns_mod q0 h1 w1]
    · rw [if_pos rfl, if_neg (by decide), mir_turns q0 h1 w1, mir_mir, ← turns_add, turns_mod p h1 w1]
  · rw [if_neg e]
    show turnsT y.1 (if y.2 = 1 then mirT (moveT m x.1 x.2) else moveT m x.1 x.2) = turnsT ((x.1 + y.1) % 4) (if x.2 = 1 then mirT m else m)
    rw [if_neg e]
    unfold moveT
    rw [← turns_add, Nat.add_comm y.1]
    by_cases e2 : x.2 = 1
    · rw [if_pos e2, turns_mod q0 h1 w1]
    · rw [if_neg e2, turns_mod p h1 w1]
end
def groupOk (ws : List (Nat × Nat)) : Bool := (ws.all fun x => ws.all fun y => ws.contains (mulW x y)) && ws.all fun x => ws.any fun y => mulW x y == (0, 0)
theorem group_kind {k : Str} (h : IsKind k) : groupOk (waysT k) = true := by
  rcases kind_cases h with rfl | rfl | rfl | rfl | rfl | rfl <;> decide
theorem ways_mul {k : Str} (h : IsKind k) {x y : Nat × Nat} (hx : x ∈ waysT k) (hy : y ∈ waysT k) : mulW x y ∈ waysT k := by
  have g := (He.ba (group_kind h)).1
  have := List.all_eq_true.mp (List.all_eq_true.mp g x hx) y hy
  exact List.contains_iff_mem.mp this
theorem ways_inv {k : Str} (h : IsKind k) {x : Nat × Nat} (hx : x ∈ waysT k) : ∃ y ∈ waysT k, mulW x y = (0, 0) := by
  have g := (He.ba (group_kind h)).2
  obtain ⟨y, hy, e⟩ := List.any_eq_true.mp (List.all_eq_true.mp g x hx)
  exact ⟨y, hy, by simpa using e⟩
theorem ways_id {k : Str} (h : IsKind k) : (0, 0) ∈ waysT k := by
  obtain ⟨r, e⟩ := ways_ne h
  rw [e]
  exact List.mem_cons_self
theorem move_id (m : List (List Int)) : moveT m 0 0 = m := rfl
section
variable {P : Int → Prop} {h w : Nat} {a b c : List (List Int)} {k : Str}
theorem far_mem (hk : IsKind k) : ∃ q ∈ waysT k, farT a b k = diffT a (moveT b q.1 q.2) := by
  obtain ⟨h1, _⟩ := bestT_mem (apart_some (m1 := a) (m2 := b) hk)
  obtain ⟨q, hq, e⟩ := List.mem_map.mp h1
  exact ⟨q, hq, by unfold farT; rw [← e]⟩
theorem far_le (hk : IsKind k) {q : Nat × Nat} (hq : q ∈ waysT k) : farT a b k ≤ diffT a (moveT b q.1 q.2) :=
  (bestT_mem (apart_some (m1 := a) (m2 := b) hk)).2 _ (List.mem_map.mpr ⟨q, hq, rfl⟩)
theorem far_nn (f : KFit k h w) (p1 : PicP P h w a) (p2 : PicP P h w b) (h1 : 1 ≤ h) (w1 : 1 ≤ w) : 0 ≤ farT a b k := by
  obtain ⟨q, hq, e⟩ := far_mem (a := a) (b := b) f.1
  rw [e]
  exact diff_nn p1 (f.pic p2 h1 w1 hq)
/-- what is undone -/
theorem far_back (f : KFit k h w) (p2 : PicP P h w b) (h1 : 1 ≤ h) (w1 : 1 ≤ w) {q : Nat × Nat} (hq : q ∈ waysT k) : ∃ z ∈ waysT k, moveT (moveT b q.1 q.2) z.1 z.2 = b := by
  obtain ⟨z, hz, e⟩ := ways_inv f.1 hq
  refine ⟨z, hz, ?_⟩
  rw [move_mul p2 h1 w1 (ways_lt f.1 q hq).2, e]
  rfl
theorem far_symm_le (f : KFit k h w) (p1 : PicP P h w a) (p2 : PicP P h w b) (h1 : 1 ≤ h) (w1 : 1 ≤ w) : farT a b k ≤ farT b a k := by
  obtain ⟨q, hq, e⟩ := far_mem (a := b) (b := a) f.1
  obtain ⟨z, hz, e2⟩ := far_back f p1 h1 w1 hq
  have h2 := far_le (a := a) (b := b) f.1 hz
  have p3 := f.pic p1 h1 w1 hq
  rw [e, diff_comm p2 p3]
  have := diff_move p3 p2 h1 w1 z.1 z.2
  rw [e2] at this
  omega
theorem far_symm (f : KFit k h w) (p1 : PicP P h w a) (p2 : PicP P h w b) (h1 : 1 ≤ h) (w1 : 1 ≤ w) : farT a b k = farT b a k := by
  have x := far_symm_le f p1 p2 h1 w1
  have y := far_symm_le f p2 p1 h1 w1
  omega
theorem far_tri (f : KFit k h w) (p1 : PicP P h w a) (p2 : PicP P h w b) (p3 : PicP P h w c) (h1 : 1 ≤ h) (w1 : 1 ≤ w) : farT a c k ≤ farT a b k + farT b c k := by
  obtain ⟨q, hq, e⟩ := far_mem (a := a) (b := b) f.1
  obtain ⟨z, hz, e2⟩ := far_mem (a := b) (b := c) f.1
  have m := ways_mul f.1 hz hq
  have h2 := far_le (a := a) (b := c) f.1 m
  have pz := f.pic p3 h1 w1 hz
  rw [← move_mul p3 h1 w1 (ways_lt f.1 z hz).2] at h2
  have t := diff_tri p1 (f.pic p2 h1 w1 hq) (f.pic pz h1 w1 hq)
  rw [diff_move p2 pz h1 w1] at t
  omega
theorem far_self (f : KFit k h w) (p1 : PicP P h w a) (h1 : 1 ≤ h) (w1 : 1 ≤ w) : farT a a k = 0 := by
  have x := far_le (a := a) (b := a) f.1 (ways_id f.1)
  have y := far_nn f p1 p1 h1 w1
  have z : diffT a (moveT a 0 0) = 0 := diff_self p1
  have x : farT a a k ≤ diffT a (moveT a 0 0) := x
  omega
theorem far_moved (f : KFit k h w) (p1 : PicP P h w a) (h1 : 1 ≤ h) (w1 : 1 ≤ w) {q : Nat × Nat} (hq : q ∈ waysT k) : farT a (moveT a q.1 q.2) k = 0 := by
  obtain ⟨z, hz, e2⟩ := far_back f p1 h1 w1 hq
  have x := far_le (a := a) (b := moveT a q.1 q.2) f.1 hz
  rw [e2, diff_self p1] at x
  have y := far_nn f p1 (f.pic p1 h1 w1 hq) h1 w1
  omega
theorem far_move (f : KFit k h w) (p1 : PicP P h w a) (p2 : PicP P h w b) (h1 : 1 ≤ h) (w1 : 1 ≤ w) {q : Nat × Nat} (hq : q ∈ waysT k) : farT (moveT a q.1 q.2) b k = farT a b k := by
  have p3 := f.pic p1 h1 w1 hq
  have x := far_tri f p3 p1 p2 h1 w1
  have y := far_tri f p1 p3 p2 h1 w1
  have z := far_moved f p1 h1 w1 hq
  have z2 := far_symm f p1 p3 h1 w1
  omega
theorem apart_self (f : KFit k h w) (p1 : PicP P h w a) (h1 : 1 ≤ h) (w1 : 1 ≤ w) : apartT a a k = (0, (0, 0)) := by
  have hf := bestT_first (apart_some (m1 := a) (m2 := a) f.1) (far_self f p1 h1 w1)
  obtain ⟨r, e⟩ := ways_ne f.1
  have e2 : farsT a a k = (0, (0, 0)) :: r.map fun w => (diffT a (moveT a w.1 w.2), w) := by
    unfold farsT
    rw [e, List.map_cons]
    congr 2
    exact diff_self p1
  rw [e2, List.filter_cons, if_pos (by exact decide_eq_true rfl)] at hf
  exact (Option.some.inj hf).symm
end
end Ls
namespace Ls
open PySem PySem.Spec PyProof.Rows L2
def top (i : Nat) : Stmt := PySem.Challenge.pw_likeshelf_k04_whole_likeness_is_a_distan.main.body.getD i (.Pass ⟨0, 0, 0, 0⟩)
abbrev s_copied : Stmt := top 1
abbrev s_mirrored : Stmt := top 2
abbrev s_turned : Stmt := top 3
abbrev s_moved : Stmt := top 4
abbrev s_difference : Stmt := top 5
abbrev s_apart : Stmt := top 8
abbrev s__law_cell : Stmt := top 10
abbrev s__law_dice : Stmt := top 11
abbrev s__law_off : Stmt := top 12
abbrev s__law_cells : Stmt := top 13
abbrev s__law_frame : Stmt := top 14
abbrev s__law_ways : Stmt := top 15
abbrev s__law_moved : Stmt := top 16
abbrev s__law_near : Stmt := top 17
abbrev s_law : Stmt := top 18
structure Tx (w : World) (K : PySem.W.Frag) (mg : Str → Option Value) : Prop where
  g_copied : mg "copied" = some (.ref (He.ga K "copied"))
  g_mirrored : mg "mirrored" = some (.ref (He.ga K "mirrored"))
  g_turned : mg "turned" = some (.ref (He.ga K "turned"))
  g_moved : mg "moved" = some (.ref (He.ga K "moved"))
  g_difference : mg "difference" = some (.ref (He.ga K "difference"))
  g_apart : mg "apart" = some (.ref (He.ga K "apart"))
  g__law_cell : mg "_law_cell" = some (.ref (He.ga K "_law_cell"))
  g__law_dice : mg "_law_dice" = some (.ref (He.ga K "_law_dice"))
  g__law_off : mg "_law_off" = some (.ref (He.ga K "_law_off"))
  g__law_cells : mg "_law_cells" = some (.ref (He.ga K "_law_cells"))
  g__law_frame : mg "_law_frame" = some (.ref (He.ga K "_law_frame"))
  g__law_ways : mg "_law_ways" = some (.ref (He.ga K "_law_ways"))
  g__law_moved : mg "_law_moved" = some (.ref (He.ga K "_law_moved"))
  g__law_near : mg "_law_near" = some (.ref (He.ga K "_law_near"))
  g_law : mg "law" = some (.ref (He.ga K "law"))
  z_len : mg "len" = none
  z_range : mg "range" = none
  z_sum : mg "sum" = none
  z_list : mg "list" = none
  z_zip : mg "zip" = none
  z_abs : mg "abs" = none
  z_min : mg "min" = none
  z_max : mg "max" = none
  z_reversed : mg "reversed" = none
  g_KINDS : mg "KINDS" = some (.ref (He.ga K "KINDS"))
  d_copied : ∃ fd, FunD K "copied" "copied" (defArgs s_copied) (defBody s_copied) (defScope s_copied) [] [] (He.fAd K ("copied", none)) fd
  d_mirrored : ∃ fd, FunD K "mirrored" "mirrored" (defArgs s_mirrored) (defBody s_mirrored) (defScope s_mirrored) [] [] (He.fAd K ("mirrored", none)) fd
  d_turned : ∃ fd, FunD K "turned" "turned" (defArgs s_turned) (defBody s_turned) (defScope s_turned) [] [] (He.fAd K ("turned", none)) fd
  d_moved : ∃ fd, FunD K "moved" "moved" (defArgs s_moved) (defBody s_moved) (defScope s_moved) [] [] (He.fAd K ("moved", none)) fd
  d_difference : ∃ fd, FunD K "difference" "difference" (defArgs s_difference) (defBody s_difference) (defScope s_difference) [] [] (He.fAd K ("difference", none)) fd
  d_apart : ∃ fd, FunD K "apart" "apart" (defArgs s_apart) (defBody s_apart) (defScope s_apart) [] [] (He.fAd K ("apart", none)) fd
  d__law_cell : ∃ fd, FunD K "_law_cell" "_law_cell" (defArgs s__law_cell) (defBody s__law_cell) (defScope s__law_cell) [] [] (He.fAd K ("_law_cell", none)) fd
  d__law_dice : ∃ fd, FunD K "_law_dice" "_law_dice" (defArgs s__law_dice) (defBody s__law_dice) (defScope s__law_dice) [] [] (He.fAd K ("_law_dice", none)) fd
  d__law_off : ∃ fd, FunD K "_law_off" "_law_off" (defArgs s__law_off) (defBody s__law_off) (defScope s__law_off) [] [] (He.fAd K ("_law_off", none)) fd
  d__law_cells : ∃ fd, FunD K "_law_cells" "_law_cells" (defArgs s__law_cells) (defBody s__law_cells) (defScope s__law_cells) [] [] (He.fAd K ("_law_cells", none)) fd
  d__law_frame : ∃ fd, FunD K "_law_frame" "_law_frame" (defArgs s__law_frame) (defBody s__law_frame) (defScope s__law_frame) [] [] (He.fAd K ("_law_frame", none)) fd
  d__law_ways : ∃ fd, FunD K "_law_ways" "_law_ways" (defArgs s__law_ways) (defBody s__law_ways) (defScope s__law_ways) [] [] (He.fAd K ("_law_ways", none)) fd
  d__law_moved : ∃ fd, FunD K "_law_moved" "_law_moved" (defArgs s__law_moved) (defBody s__law_moved) (defScope s__law_moved) [] [] (He.fAd K ("_law_moved", none)) fd
  d__law_near : ∃ fd, FunD K "_law_near" "_law_near" (defArgs s__law_near) (defBody s__law_near) (defScope s__law_near) [] [] (He.fAd K ("_law_near", none)) fd
  d_law : ∃ fd, FunD K "law" "law" (defArgs s_law) (defBody s_law) (defScope s_law) [] [] (He.fAd K ("law", none)) fd
  kd : ∀ q ∈ kindsTab, ∃ T, KDct K w (He.ga K "KINDS") q.1 (.ref T) ∧ ∀ F, Dt K F (.ref T) (dWays q.2)
/-! ### copied -/
def sp_copied (K : PySem.W.Frag) : Sp := fun vs H Q _ => ∃ (v : V) (m : List (List Int)), vs = [v] ∧ Dt K H v (dMat m) ∧ m.length ≤ 1000 ∧ ∀ p rs H', Same H H' → MatF H H' p rs m → Q (.ref p) H'
/-! ### mirrored -/
def sp_mirrored (K : PySem.W.Frag) : Sp := fun vs H Q _ => ∃ (v : V) (m : List (List Int)), vs = [v] ∧ Dt K H v (dMat m) ∧ m.length ≤ 1000 ∧ ∀ p rs H', Same H H' → MatF H H' p rs (mirT m) → Q (.ref p) H'
/-! ### turned -/
def sp_turned (K : PySem.W.Frag) : Sp := fun vs H Q _ => ∃ (v : V) (m : List (List Int)) (P : Int → Prop) (h w : Nat), vs = [v] ∧ Dt K H v (dMat m) ∧ PicP P h w m ∧ 1 ≤ h ∧ 1 ≤ w ∧ h ≤ 1000 ∧ w ≤ 1000 ∧ ∀ p rs H', Same H H' → MatF H H' p rs (turnT m) → Q (.ref p) H'
/-! ### moved -/
def sp_moved (K : PySem.W.Frag) : Sp := fun vs H Q _ => ∃ (v : V) (m : List (List Int)) (P : Int → Prop) (h w : Nat) (t s : Nat) (wy : Addr), vs = [v, .ref wy] ∧ SqT K H wy [.int t, .int s] ∧ Dt K H v (dMat m) ∧ PicP P h w m ∧ 1 ≤ h ∧ 1 ≤ w ∧ h ≤ 1000 ∧ w ≤ 1000 ∧ t ≤ 100 ∧
  ∀ p rs H', Same H H' → MatF H H' p rs (moveT m t s) → Q (.ref p) H'
/-! ### difference -/
def sp_difference (K : PySem.W.Frag) : Sp := fun vs H Q _ => ∃ (v u : V) (m1 m2 : List (List Int)), vs = [v, u] ∧ Dt K H v (dMat m1) ∧ Dt K H u (dMat m2) ∧ m1.length ≤ 1000 ∧ (∀ r ∈ m1, r.length ≤ 1000) ∧ ∀ H', Same H H' → Q (.int (diffT m1 m2)) H'
/-! ### apart -/
def sp_apart (K : PySem.W.Frag) : Sp := fun vs H Q _ => ∃ (F : Hp) (v u : V) (m1 m2 : List (List Int)) (P : Int → Prop) (h w : Nat) (kind : Str), vs = [v, u, .str kind] ∧ Wd m0 F H ∧ Dt K F v (dMat m1) ∧ Dt K F u (dMat m2) ∧ PicP P h w m1 ∧ PicP P h w m2 ∧ 1 ≤ h ∧ 1 ≤ w ∧ h ≤ 1000 ∧ w ≤ 1000 ∧ KFit kind h w ∧
  ∀ y F' H', Gr m0 F H F' H' → Dt K F' y (dFar (apartT m1 m2 kind)) → Q y H'
/-! ### _law_cell -/
def sp__law_cell (K : PySem.W.Frag) : Sp := fun vs H Q _ => ∃ (a : Addr) (ns : List Int) (k : Nat), vs = [.ref a, .int k] ∧ SqL K H a (ns.map V.int) ∧ ∀ i : Int, Q (.int i) H
/-! ### _law_dice -/
def sp__law_dice (K : PySem.W.Frag) : Sp := fun vs H Q _ => ∃ (a : Addr) (ns : List Int), vs = [.ref a, .int 0] ∧ SqL K H a (ns.map V.int) ∧ ns.length ≤ 63 ∧ ∀ p ms H', Same H H' → H p = none → H' p = some (.lst (ms.map V.int)) → DiceL ms → Q (.ref p) H'
/-! ### _law_off -/
def sp__law_off (K : PySem.W.Frag) : Sp := fun vs H Q _ => ∃ (d : Addr) (n : Int), vs = [.ref d, .int n] ∧ Dice H d ∧ 1 ≤ n ∧ n ≤ 1000000 ∧ ∀ (i : Int) (ms : List Int), 0 ≤ i → i < n → DiceL ms → Q (.int i) (upd H d (.lst (ms.map V.int)))
/-- the draw behind the first step -/
theorem dice_set {ms : List Int} {i : Nat} {x : Int} (h : DiceL ms) (hx : 0 ≤ x) : DiceL (ms.set i x) := by
  refine ⟨by rw [List.length_set]; exact h.1, by rw [List.length_set]; exact h.2.1, fun y hy => ?_⟩
  rcases List.mem_or_eq_of_mem_set hy with hy | rfl
  · exact h.2.2 y hy
  · exact hx
theorem dice_pop {a b c : Int} {r : List Int} (h : DiceL (a :: b :: c :: r)) : DiceL (a :: c :: r) := by
  refine ⟨?_, ?_, fun y hy => h.2.2 y ?_⟩
  · show 2 ≤ (a :: c :: r).length
    rw [List.length_cons, List.length_cons]
    omega
  · have := h.2.1
    simp only [List.length_cons] at *
    omega
  · rcases List.mem_cons.mp hy with rfl | hy
    · exact List.mem_cons_self
    · exact List.mem_cons_of_mem _ (List.mem_cons_of_mem _ hy)
/-- the rest of a draw -/
theorem off_two {x0 x1 : Int} {r : List Int} (h : DiceL (x0 :: x1 :: r)) : 0 ≤ x0 ∧ 0 ≤ x1 := ⟨h.2.2 _ List.mem_cons_self, h.2.2 _ (List.mem_cons_of_mem _ List.mem_cons_self)⟩
theorem dice_cases {ms : List Int} (h : DiceL ms) : ∃ x0 x1 r, ms = x0 :: x1 :: r := by
  match ms, h with
  | x0 :: x1 :: r, _ => exact ⟨x0, x1, r, rfl⟩
  | [_], h => exact absurd h.1 (by simp)
  | [], h => exact absurd h.1 (by simp)
/-! ### _law_cells -/
def sp__law_cells (K : PySem.W.Frag) : Sp := fun vs H Q _ => ∃ (F : Hp) (d : Addr) (h w : Nat), vs = [.ref d, .int h, .int w] ∧ Wd (mD d) F H ∧ h ≤ 100 ∧ w ≤ 100 ∧ ∀ v m F' H', Gr (mD d) F H F' H' → PicHW h w m → Dt K F' v (dMat m) → Q v H'
/-! ### _law_frame -/
def sp__law_frame (K : PySem.W.Frag) : Sp := fun vs H Q _ => ∃ (F : Hp) (d : Addr), vs = [.ref d] ∧ Wd (mD d) F H ∧ ∀ T F' H' (h w : Nat) (kind : Str), Gr (mD d) F H F' H' → SqT K F' T [.int h, .int w, .str kind] → 1 ≤ h → h ≤ 16 → 1 ≤ w → w ≤ 16 → KFit kind h w → Q (.ref T) H'
/-! ### _law_ways -/
def sp__law_ways (K : PySem.W.Frag) : Sp := fun vs H Q _ => ∃ (F : Hp) (kind : Str), vs = [.str kind] ∧ Wd m0 F H ∧ IsKind kind ∧ ∀ a ys F' H', Gr m0 F H F' H' → F' a = some (.lst ys) → DtAll K F' ys ((waysT kind).map dWay) → Q (.ref a) H'
/-! ### _law_moved -/
def sp__law_moved (K : PySem.W.Frag) : Sp := fun vs H Q _ => ∃ (v : V) (m : List (List Int)) (P : Int → Prop) (h w : Nat) (t s : Nat) (wy : Addr), vs = [v, .ref wy] ∧ SqT K H wy [.int t, .int s] ∧ Dt K H v (dMat m) ∧ PicP P h w m ∧ 1 ≤ h ∧ 1 ≤ w ∧ h ≤ 1000 ∧ w ≤ 1000 ∧ t ≤ 100 ∧
  ∀ p rs H', Same H H' → MatF H H' p rs (moveT m t s) → Q (.ref p) H'
/-! ### _law_near -/
def sp__law_near (K : PySem.W.Frag) : Sp := fun vs H Q _ => ∃ (F : Hp) (d : Addr) (v : V) (m : List (List Int)) (h w : Nat) (kind : Str), vs = [.ref d, v, .str kind] ∧ Wd (mD d) F H ∧ Dt K F v (dMat m) ∧ PicHW h w m ∧ 1 ≤ h ∧ 1 ≤ w ∧ h ≤ 100 ∧ w ≤ 100 ∧ KFit kind h w ∧
  ∀ y m' F' H', Gr (mD d) F H F' H' → PicHW h w m' → Dt K F' y (dMat m') → Q y H'
/-! ### law -/
def sp_law (K : PySem.W.Frag) : Sp := fun vs H Q _ => ∃ (a : Addr) (ns : List Int), vs = [.ref a] ∧ SqL K H a (ns.map V.int) ∧ ns.length ≤ 63 ∧ ∀ H', Q (.bl true) H'
theorem sc_copied : FnScope ["rows", "row"] ["rows"] (defScope s_copied) := ⟨rfl, rfl, rfl, by decide +kernel, rfl, by decide +kernel, by decide +kernel⟩
theorem has_copied {P : Program} {w : World} {K : PySem.W.Frag} {mg : Str → Option Value} {base : Heap} {k : Nat} (T : Tx w K mg)  : Has P w K mg base (k + 1) "copied" ["rows"] (sp_copied K) := by
  obtain ⟨fd, F⟩ := T.d_copied
  refine ⟨_, fd, ?_, T.g_copied, F.kp, F.bindsN fun _ _ _ _ _ _ us hl => match us, hl with | [_], _ => rfl⟩
  refine F.ok sc_copied (fun vs H Q E h => ?_) (fun cdv A outer s H vs Q E hr h => ?_)
  ·
    repeat first | (obtain ⟨rfl, _⟩ := h; rfl) | (obtain ⟨_, h⟩ := h)
  · have hu := hu_room hr
    refine ⟨_, PSs.nox ((pss_one (ps_ret (pe_lc (own := [("row", 1)]) (by rfl) sc_copied.nd (pi_listQ (K := K) rfl (pv 0)) (blkOk_by (N := ["rows", "row"]) (sc := defScope s_copied) (by decide +kernel)) (fun _ _ _ _ _ => (pg_name (i := 1) sc_copied.nd rfl (by first | exact Or.inl rfl | exact Or.inr rfl))) (fun _ _ _ _ _ => pts_nil) (fun _ _ _ _ _ => (pe_callTy (lstQ (K := K) rfl) (by rfl) T.z_list (by decide +kernel) (pa_cons (pv 1) pa_nil))))))), ?_⟩
    obtain ⟨v, m, rfl, hd, hm, q⟩ := h
    obtain ⟨a, xs, rfl, hS, hl, hrow⟩ := dt_mat hd
    dsimp only [tRet]
    refine lc_of ?_
    refine ⟨.ref a, rfl, a, rfl, ⟨_, sql_of hS⟩, comp_matL (m := m0) (F := H) (wd0 (Same.refl H)) m hl.symm (sql_of hS) (by omega) (fun r => r) (by exact fun _ => rfl) ?_ ?_⟩
    · intro i r x H1 hi hx g Q1 k1
      obtain ⟨b, hb1, hb2⟩ := hrow i r hi
      rw [hx] at hb1
      cases hb1
      have w1 := g.wd (wd0 (Same.refl H))
      exact ⟨.ref b, rfl, b, _, rfl, .inl (sql_of (g.s _ _ hb2)), fun l hl => k1 l _ hl (Gr.pure w1 (same_new hl)) upd_same⟩
    · intro D rs H2 g M
      rw [List.map_id'] at M
      exact q D rs H2 g.s M
theorem sc_mirrored : FnScope ["rows", "row"] ["rows"] (defScope s_mirrored) := ⟨rfl, rfl, rfl, by decide +kernel, rfl, by decide +kernel, by decide +kernel⟩
theorem has_mirrored {P : Program} {w : World} {K : PySem.W.Frag} {mg : Str → Option Value} {base : Heap} {k : Nat} (T : Tx w K mg)  : Has P w K mg base (k + 1) "mirrored" ["rows"] (sp_mirrored K) := by
  obtain ⟨fd, F⟩ := T.d_mirrored
  refine ⟨_, fd, ?_, T.g_mirrored, F.kp, F.bindsN fun _ _ _ _ _ _ us hl => match us, hl with | [_], _ => rfl⟩
  refine F.ok sc_mirrored (fun vs H Q E h => ?_) (fun cdv A outer s H vs Q E hr h => ?_)
  ·
    repeat first | (obtain ⟨rfl, _⟩ := h; rfl) | (obtain ⟨_, h⟩ := h)
  · have hu := hu_room hr
    refine ⟨_, PSs.nox ((pss_one (ps_ret (pe_lc (own := [("row", 1)]) (by rfl) sc_mirrored.nd (pi_listQ (K := K) rfl (pv 0)) (blkOk_by (N := ["rows", "row"]) (sc := defScope s_mirrored) (by decide +kernel)) (fun _ _ _ _ _ => (pg_name (i := 1) sc_mirrored.nd rfl (by first | exact Or.inl rfl | exact Or.inr rfl))) (fun _ _ _ _ _ => pts_nil) (fun _ _ _ _ _ => (pe_lstRev (K := K) rfl rfl (by rfl) T.z_list (by rfl) T.z_reversed (pv 1))))))), ?_⟩
    obtain ⟨v, m, rfl, hd, hm, q⟩ := h
    obtain ⟨a, xs, rfl, hS, hl, hrow⟩ := dt_mat hd
    dsimp only [tRet]
    refine lc_of ?_
    refine ⟨.ref a, rfl, a, rfl, ⟨_, sql_of hS⟩, comp_matL (m := m0) (F := H) (wd0 (Same.refl H)) m hl.symm (sql_of hS) (by omega) List.reverse (by exact fun _ => rfl) ?_ ?_⟩
    · intro i r x H1 hi hx g Q1 k1
      obtain ⟨b, hb1, hb2⟩ := hrow i r hi
      rw [hx] at hb1
      cases hb1
      have w1 := g.wd (wd0 (Same.refl H))
      exact ⟨.ref b, rfl, b, _, rfl, sql_of (g.s _ _ hb2), fun l hl => k1 l _ hl (Gr.pure w1 (same_new hl)) (by rw [upd_same, List.map_reverse])⟩
    · intro D rs H2 g M
      exact q D rs H2 g.s M
theorem sc_turned : FnScope ["rows", "wide", "row", "k"] ["rows"] (defScope s_turned) := ⟨rfl, rfl, rfl, by decide +kernel, rfl, by decide +kernel, by decide +kernel⟩
theorem has_turned {P : Program} {w : World} {K : PySem.W.Frag} {mg : Str → Option Value} {base : Heap} {k : Nat} (T : Tx w K mg)  : Has P w K mg base (k + 1) "turned" ["rows"] (sp_turned K) := by
  obtain ⟨fd, F⟩ := T.d_turned
  refine ⟨_, fd, ?_, T.g_turned, F.kp, F.bindsN fun _ _ _ _ _ _ us hl => match us, hl with | [_], _ => rfl⟩
  refine F.ok sc_turned (fun vs H Q E h => ?_) (fun cdv A outer s H vs Q E hr h => ?_)
  ·
    repeat first | (obtain ⟨rfl, _⟩ := h; rfl) | (obtain ⟨_, h⟩ := h)
  · have hu := hu_room hr
    refine ⟨_, PSs.nox ((pss_cons (ps_set (i := 1) sc_turned.nd rfl (by first | exact Or.inl rfl | exact Or.inr rfl) (pe_callB (lenQ (K := K) rfl) (by rfl) T.z_len (by decide +kernel) (pa_cons (pe_ix (ixL (K := K) rfl) (pv 0) pe_int (fun _ _ => rfl)) pa_nil)))
    (pss_one (ps_ret (pe_lc (own := [("k", 3)]) (by rfl) sc_turned.nd (pi_range1 (by rfl) T.z_range (pa_cons (pv 1) pa_nil)) (blkOk_by (N := ["rows", "wide", "row", "k"]) (sc := defScope s_turned) (by decide +kernel)) (fun _ _ _ _ _ => (pg_name (i := 3) sc_turned.nd rfl (by first | exact Or.inl rfl | exact Or.inr rfl))) (fun _ _ _ _ _ => pts_nil) (fun _ _ _ _ _ => (pe_lc (own := [("row", 2)]) (by rfl) sc_turned.nd (pi_listQ (K := K) rfl (pv 0)) (blkOk_by (by kernel_rfl)) (fun _ _ _ _ _ => (pg_name (i := 2) sc_turned.nd rfl (by first | exact Or.inl rfl | exact Or.inr rfl))) (fun _ _ _ _ _ => pts_nil) (fun _ _ _ _ _ => (pe_ix (ixL (K := K) rfl) (pv 2) (pe_op op_sub (pe_op op_sub (pv 1) pe_int) (pv 3)) (fun _ _ => rfl)))))))))), ?_⟩
    obtain ⟨v, m, Pc, hh, ww, rfl, hd, hp, h1, w1, h2, w2, q⟩ := h
    obtain ⟨a, xs, rfl, hS, hl, hrow⟩ := dt_mat hd
    have hml := hp.hi
    have hhead := hp.head h1
    have hm0 : m[0]? = some (m[0]'(by omega)) := List.getElem?_eq_getElem (by omega)
    obtain ⟨b0, hc1, hc2⟩ := hrow 0 _ hm0
    have hw0 : (m[0]'(by omega)).length = ww := hp.wi _ (List.getElem_mem _)
    refine ⟨.ref a, rfl, a, _, 0, _, rfl, rfl, sql_of hS, atI_nat (j := 0) hc1, b0, _, rfl, .inl (sql_of hc2), ?_⟩
    rw [List.length_map, hw0]
    dsimp only [gName, tRet]
    refine lc_of ?_
    refine ⟨_, rfl, ww, rfl, by omega, by omega, comp_matR (m := m0) (F := H) (n := ww) (wd0 (Same.refl H)) (by omega) (fun k => m.map fun r => r.getD (ww - 1 - k) 0) (by exact fun _ => rfl) ?_ ?_⟩
    · intro k H1 hk g Q1 k1
      have ek : (0 : Int) + (k : Int) = ((k : Nat) : Int) := by omega
      rw [ek]
      have wd1 := g.wd (wd0 (Same.refl H))
      refine lc_of ?_
      refine ⟨.ref a, rfl, a, rfl, ⟨_, sql_of (g.s _ _ hS)⟩, comp_list (m := m0) (F := H) wd1 m hl.symm (sql_of hS) (by omega) (fun r y _ => y = .int (r.getD (ww - 1 - k) 0)) (fun _ _ _ _ _ h => h) (by exact fun _ => rfl) ?_ ?_⟩
      · intro i r x F2 H2 hi hx g2 Q2 k2
        obtain ⟨b, hb1, hb2⟩ := hrow i r hi
        rw [hx] at hb1
        cases hb1
        have hrl := hp.wi r (List.mem_of_getElem? hi)
        have hk2 : ww - 1 - k < r.length := by omega
        refine ⟨.ref b, rfl, .int ww, rfl, ww, 1, rfl, rfl, .int k, rfl, _, k, rfl, rfl, b, _, ((ww - 1 - k : Nat) : Int), _, rfl, ?_, sql_of (g2.s _ _ (g2.f _ _ hb2)), atI_of (map_get (List.getElem?_eq_getElem hk2)), ?_⟩
        · show V.int ((ww : Int) - 1 - (k : Int)) = V.int ((ww - 1 - k : Nat) : Int)
          congr 1
          omega
        · refine k2 _ F2 H2 (Gr.refl (g2.wd wd1)) ?_
          rw [getD_get (List.getElem?_eq_getElem hk2)]
      · intro D ys F2 H2 hD g2 e pr
        have ey := paired_eq (f := fun r : List Int => V.int (r.getD (ww - 1 - k) 0)) pr
        refine k1 D H2 hD (Gr.pure wd1 fun b o z => g2.h b o (fun y => y) z) ?_
        rw [g2.s _ _ e, ey, List.map_map]
        rfl
    · intro D rs H2 g M
      refine q D rs H2 g.s ?_
      unfold turnT
      rw [hhead]
      exact M
theorem sc_moved : FnScope ["rows", "way", "turns", "is_mirrored", "found", "turn"] ["rows", "way"] (defScope s_moved) := ⟨rfl, rfl, rfl, by decide +kernel, rfl, by decide +kernel, by decide +kernel⟩
theorem has_moved {P : Program} {w : World} {K : PySem.W.Frag} {mg : Str → Option Value} {base : Heap} {k : Nat} (T : Tx w K mg) (G_turned : Has P w K mg base (k) "turned" ["rows"] (sp_turned K)) (G_mirrored : Has P w K mg base (k) "mirrored" ["rows"] (sp_mirrored K)) (G_copied : Has P w K mg base (k) "copied" ["rows"] (sp_copied K)) : Has P w K mg base (k + 1) "moved" ["rows", "way"] (sp_moved K) := by
  obtain ⟨fd, F⟩ := T.d_moved
  refine ⟨_, fd, ?_, T.g_moved, F.kp, F.bindsN fun _ _ _ _ _ _ us hl => match us, hl with | [_, _], _ => rfl⟩
  refine F.ok sc_moved (fun vs H Q E h => ?_) (fun cdv A outer s H vs Q E hr h => ?_)
  ·
    repeat first | (obtain ⟨rfl, _⟩ := h; rfl) | (obtain ⟨_, h⟩ := h)
  · have hu := hu_room hr
    refine ⟨_, PSs.nox ((pss_cons (ps_asg (pv 1) (pg_tupQ (K := K) (n := 2) rfl rfl (pgs_cons (pg_name (i := 2) sc_moved.nd rfl (by first | exact Or.inl rfl | exact Or.inr rfl)) (pgs_cons (pg_name (i := 3) sc_moved.nd rfl (by first | exact Or.inl rfl | exact Or.inr rfl)) pgs_nil))))
    (pss_cons (ps_set (i := 4) sc_moved.nd rfl (by first | exact Or.inl rfl | exact Or.inr rfl) (pe_ifExp (pt_cmpR op_eq (pv 3) pe_int (nomark _)) (pe_fn G_mirrored hr (by rfl) (pa_cons (pv 0) pa_nil)) (pe_fn G_copied hr (by rfl) (pa_cons (pv 0) pa_nil))))
    (pss_cons (ps_for PassesOwn.never rfl (pi_range1 (by rfl) T.z_range (pa_cons (pv 2) pa_nil)) (pg_name (i := 5) sc_moved.nd rfl (by first | exact Or.inl rfl | exact Or.inr rfl)) (pss_one (ps_set (i := 4) sc_moved.nd rfl (by first | exact Or.inl rfl | exact Or.inr rfl) (pe_fn G_turned hr (by rfl) (pa_cons (pv 4) pa_nil)))))
    (pss_one (ps_ret (pv 4))))))), ?_⟩
    obtain ⟨v, m, Pc, hh, ww, t, s, wy, rfl, hT, hd, hp, h1, w1, h2, w2, t2, q⟩ := h
    refine ⟨.ref wy, rfl, wy, _, rfl, hT, rfl, _, _, rfl, _, _, rfl, rfl, ?_⟩
    have hml := hp.hi
    -- behind the first copy
    have rest : ∀ (p : Addr) (rs : List Addr) (H1 : Hp) (b : List (List Int)), Same H H1 → MatF H H1 p rs b → (∀ n, (n % 2 = 0 → PicP Pc hh ww (turnsT n b)) ∧ (n % 2 = 1 → PicP Pc ww hh (turnsT n b))) → turnsT t b = moveT m t s →
        tSeq (tFor (iRng1 (tCons (tVar 2) tNil)) (gName 5) (tAsg (tCall (sp_turned K) [] E0 (tCons (tVar 4) tNil)) (gName 4))) (tRet (tVar 4)) { nx := fun x H' => Q V.non H', rt := Q } [some v, some (.ref wy), some (.int t), some (.int s), some (.ref p), none] H1 := by
      intro p rs H1 b s1 M hb et
      try dsimp only [tSeq]
      refine for_of ?_
      refine ⟨_, rfl, t, rfl, by omega, by omega, ?_⟩
      have e1 : ((t : Nat) : Int).toNat = t := by omega
      rw [e1]
      refine forin_range (fun i σ H' => ∃ y p rs, σ = [some v, some (.ref wy), some (.int t), some (.int s), some (.ref p), y] ∧ Same H H' ∧ MatF H H' p rs (turnsT i b)) ⟨_, p, rs, rfl, s1, M⟩ ?_ ?_
      · rintro i σ H' hi ⟨y, p, rs, rfl, s2, M2⟩
        have hcase : ∃ h w, PicP Pc h w (turnsT i b) ∧ 1 ≤ h ∧ 1 ≤ w ∧ h ≤ 1000 ∧ w ≤ 1000 := by
          by_cases e : i % 2 = 0
          · exact ⟨hh, ww, (hb i).1 e, h1, w1, h2, w2⟩
          · exact ⟨ww, hh, (hb i).2 (by omega), w1, h1, w2, h2⟩
        obtain ⟨h', w', hp', a1, a2, a3, a4⟩ := hcase
        exact ⟨_, rfl, _, _, Pc, h', w', rfl, M2.dp, hp', a1, a2, a3, a4, fun p2 rs2 H2 s3 M3 => ⟨_, p2, rs2, rfl, s2.trans s3, M3.back s2⟩⟩
      · rintro σ H' ⟨y, p, rs, rfl, s2, M2⟩
        refine ⟨_, rfl, q p rs H' s2 ?_⟩
        rw [← et]
        exact M2
    refine ⟨.int s, rfl, rfl, _, rfl, ite2 (fun e => ?_) (fun e => ?_)⟩
    · have e1 : s = 1 := by
        have := V.int.inj (of_decide_eq_true e)
        omega
      refine ⟨v, rfl, v, m, rfl, hd, by omega, fun p rs H1 s1 M => ?_⟩
      refine rest p rs H1 (mirT m) s1 M (turns_hw (mir_hw hp) h1 w1) ?_
      unfold moveT
      rw [if_pos e1]
    · have e1 : ¬ s = 1 := fun z => e (decide_eq_true (by rw [z]; rfl))
      refine ⟨v, rfl, v, m, rfl, hd, by omega, fun p rs H1 s1 M => ?_⟩
      refine rest p rs H1 m s1 M (turns_hw hp h1 w1) ?_
      unfold moveT
      rw [if_neg e1]
theorem sc_difference : FnScope ["one", "other", "found", "row", "beside", "cell", "more"] ["one", "other"] (defScope s_difference) := ⟨rfl, rfl, rfl, by decide +kernel, rfl, by decide +kernel, by decide +kernel⟩
theorem has_difference {P : Program} {w : World} {K : PySem.W.Frag} {mg : Str → Option Value} {base : Heap} {k : Nat} (T : Tx w K mg)  : Has P w K mg base (k + 1) "difference" ["one", "other"] (sp_difference K) := by
  obtain ⟨fd, F⟩ := T.d_difference
  refine ⟨_, fd, ?_, T.g_difference, F.kp, F.bindsN fun _ _ _ _ _ _ us hl => match us, hl with | [_, _], _ => rfl⟩
  refine F.ok sc_difference (fun vs H Q E h => ?_) (fun cdv A outer s H vs Q E hr h => ?_)
  ·
    repeat first | (obtain ⟨rfl, _⟩ := h; rfl) | (obtain ⟨_, h⟩ := h)
  · have hu := hu_room hr
    refine ⟨_, PSs.nox ((pss_cons (ps_set (i := 2) sc_difference.nd rfl (by first | exact Or.inl rfl | exact Or.inr rfl) pe_int)
    (pss_cons (ps_for PassesOwn.never rfl (pi_zipQ (K := K) rfl (by rfl) T.z_zip (pa_cons (pv 0) (pa_cons (pv 1) pa_nil))) (pg_tupQ (K := K) (n := 2) rfl rfl (pgs_cons (pg_name (i := 3) sc_difference.nd rfl (by first | exact Or.inl rfl | exact Or.inr rfl)) (pgs_cons (pg_name (i := 4) sc_difference.nd rfl (by first | exact Or.inl rfl | exact Or.inr rfl)) pgs_nil))) (pss_one (ps_set (i := 2) sc_difference.nd rfl (by first | exact Or.inl rfl | exact Or.inr rfl) (pe_op op_add (pv 2) (pe_callB (sumQ (K := K) rfl rfl) (by rfl) T.z_sum (by decide +kernel) (pa_cons (pe_lc (own := [("cell", 5), ("more", 6)]) (by rfl) sc_difference.nd (pi_zipQ (K := K) rfl (by rfl) T.z_zip (pa_cons (pv 3) (pa_cons (pv 4) pa_nil))) (blkOk_by (N := ["one", "other", "found", "row", "beside", "cell", "more"]) (sc := defScope s_difference) (by decide +kernel)) (fun _ _ _ _ _ => (pg_tupQ (K := K) (n := 2) rfl rfl (pgs_cons (pg_name (i := 5) sc_difference.nd rfl (by first | exact Or.inl rfl | exact Or.inr rfl)) (pgs_cons (pg_name (i := 6) sc_difference.nd rfl (by first | exact Or.inl rfl | exact Or.inr rfl)) pgs_nil)))) (fun _ _ _ _ _ => pts_nil) (fun _ _ _ _ _ => (pe_callB call_abs (by rfl) T.z_abs (by decide +kernel) (pa_cons (pe_op op_sub (pv 5) (pv 6)) pa_nil)))) pa_nil))))))
    (pss_one (ps_ret (pv 2)))))), ?_⟩
    obtain ⟨v, u, m1, m2, rfl, hv, hu1, hm, hr1, q⟩ := h
    obtain ⟨a, xs, rfl, hA, hla, rowA⟩ := dt_mat hv
    obtain ⟨b, ys, rfl, hB, hlb, rowB⟩ := dt_mat hu1
    dsimp only [tSeq, tAsg, gName]
    refine for_of ?_
    refine ⟨_, rfl, _, rfl, a, b, xs, ys, rfl, sql_of hA, sql_of hB, forin_it (walk_zip (K := K) (a := a) (b := b) (xs := xs) (ys := ys) (n := (m1.zip m2).length) (by rw [List.length_zip, hla, hlb]))
      (fun i σ H' => ∃ y3 y4 y5 y6, σ = [some (.ref a), some (.ref b), some (.int (((m1.zip m2).take i).map fun p => diffR p.1 p.2).sum), y3, y4, y5, y6] ∧ Same H H') ⟨_, _, _, _, rfl, Same.refl H⟩ ?_ ?_ ?_⟩
    · rintro i σ H' _ ⟨_, _, _, _, _, s⟩
      exact ⟨sql_of (s _ _ hA), sql_of (s _ _ hB)⟩
    · rintro i x σ H1 H2 hi ⟨y3, y4, y5, y6, rfl, s1⟩ ⟨T, x1, x2, rfl, hT, rfl, e1, e2⟩
      have hz : (m1.zip m2)[i]? = some ((m1.zip m2)[i]) := List.getElem?_eq_getElem hi
      generalize (m1.zip m2)[i] = p at hz
      obtain ⟨z1, z2⟩ := zip_get hz
      obtain ⟨c, hc1, hc2⟩ := rowA i _ z1
      obtain ⟨d, hd1, hd2⟩ := rowB i _ z2
      dsimp only at e1 e2
      rw [hc1] at e1
      rw [hd1] at e2
      cases e1
      cases e2
      refine ⟨T, _, rfl, sqt_of upd_same, rfl, _, _, rfl, _, _, rfl, rfl, ?_⟩
      have s2 : Same H (upd H1 T (.tup [.ref c, .ref d])) := s1.trans (same_new hT)
      have hrl : p.1.length ≤ 1000 := hr1 _ (List.mem_of_getElem? z1)
      generalize upd H1 T (.tup [.ref c, .ref d]) = H2 at s2
      refine ⟨_, rfl, ?_⟩
      dsimp only [tCB, tCons, tNil]
      refine lc_of ?_
      refine ⟨_, rfl, _, rfl, c, d, _, _, rfl, sql_of (s2 _ _ hc2), sql_of (s2 _ _ hd2), comp_core (m := m0) (F := H2) (wd0 (Same.refl H2)) (p.1.zip p.2) (walk_zip (K := K) (a := c) (b := d) (xs := p.1.map V.int) (ys := p.2.map V.int) (by rw [List.length_zip, List.length_map, List.length_map])) (fun F' H' g => ⟨sql_of (g.s _ _ (g.f _ _ (s2 _ _ hc2))), sql_of (g.s _ _ (g.f _ _ (s2 _ _ hd2)))⟩)
        (fun _ => true) (fun q y _ => y = .int (iabs (q.1 - q.2))) (fun _ _ _ _ _ h => h) (by rw [List.length_zip]; omega) ?_ ?_⟩
      · rintro j w x F3 H3 H4 hj g3 ⟨T2, x3, x4, rfl, hT2, rfl, f1, f2⟩ Q1 Qn k1 _
        obtain ⟨j1, j2⟩ := zip_get hj
        dsimp only at f1 f2
        rw [map_get j1] at f1
        rw [map_get j2] at f2
        cases f1
        cases f2
        refine ⟨T2, _, rfl, sqt_of upd_same, rfl, _, _, rfl, _, _, rfl, rfl, rfl, ?_⟩
        refine iteT (B := Qn (upd H3 T2 (.tup [.int w.1, .int w.2]))) ?_
        exact ⟨_, rfl, _, rfl, _, _, rfl, rfl, _, rfl, k1 rfl _ F3 (upd H3 T2 (.tup [.int w.1, .int w.2])) (Gr.pure (g3.wd (wd0 (Same.refl H2))) (same_new hT2)) rfl⟩
      · intro D zs F3 H3 hD g3 e pr
        rw [filter_true] at pr
        have ez := paired_eq (f := fun q : Int × Int => V.int (iabs (q.1 - q.2))) pr
        have e3 := g3.s _ _ e
        rw [ez] at e3
        refine ⟨D, (p.1.zip p.2).map fun q => iabs (q.1 - q.2), rfl, sql_of (by rw [e3, List.map_map]; rfl), _, _, rfl, rfl, some (.ref c), some (.ref d), y5, y6, ?_, s2.trans fun b o z => g3.h b o (fun y => y) z⟩
        rw [take_more hz, List.map_append, isum_app]
        simp only [List.map_cons, List.map_nil, List.sum_cons, List.sum_nil, Int.add_zero]
        rfl
    · rintro σ H' ⟨y3, y4, y5, y6, rfl, s⟩
      rw [List.take_length]
      exact ⟨_, rfl, q H' s⟩
theorem sc_apart : FnScope ["one", "other", "kind", "best", "way", "far"] ["one", "other", "kind"] (defScope s_apart) := ⟨rfl, rfl, rfl, by decide +kernel, rfl, by decide +kernel, by decide +kernel⟩
theorem has_apart {P : Program} {w : World} {K : PySem.W.Frag} {mg : Str → Option Value} {base : Heap} {k : Nat} (T : Tx w K mg) (G_difference : Has P w K mg base (k) "difference" ["one", "other"] (sp_difference K)) (G_moved : Has P w K mg base (k) "moved" ["rows", "way"] (sp_moved K)) : Has P w K mg base (k + 1) "apart" ["one", "other", "kind"] (sp_apart K) := by
  obtain ⟨fd, F⟩ := T.d_apart
  refine ⟨_, fd, ?_, T.g_apart, F.kp, F.bindsN fun _ _ _ _ _ _ us hl => match us, hl with | [_, _, _], _ => rfl⟩
  refine F.ok sc_apart (fun vs H Q E h => ?_) (fun cdv A outer s H vs Q E hr h => ?_)
  ·
    repeat first | (obtain ⟨rfl, _⟩ := h; rfl) | (obtain ⟨_, h⟩ := h)
  · have hu := hu_room hr
    refine ⟨_, PSs.nox ((pss_cons (ps_set (i := 3) sc_apart.nd rfl (by first | exact Or.inl rfl | exact Or.inr rfl) pe_non)
    (pss_cons (ps_for PassesOwn.never rfl (pi_tupQ (K := K) rfl (pe_ix (ixKD (K := K) (w := w) rfl rfl) (pe_glob (v := .ref (He.ga K "KINDS")) (by rfl) T.g_KINDS rfl) (pv 2) (fun _ _ => rfl))) (pg_name (i := 4) sc_apart.nd rfl (by first | exact Or.inl rfl | exact Or.inr rfl)) (pss_cons (ps_set (i := 5) sc_apart.nd rfl (by first | exact Or.inl rfl | exact Or.inr rfl) (pe_fn G_difference hr (by rfl) (pa_cons (pv 0) (pa_cons (pe_fn G_moved hr (by rfl) (pa_cons (pv 1) (pa_cons (pv 4) pa_nil))) pa_nil))))
    (pss_one (ps_if (PW.pt (pw_or (pt_cmpR op_isN (pv 3) pe_non (nomark _)) (pw_or1 (pt_cmpR op_lt (pv 5) (pe_ix (ixT (K := K) rfl) (pv 3) pe_int (fun _ _ => rfl)) (nomark _))))) (pss_one (ps_set (i := 3) sc_apart.nd rfl (by first | exact Or.inl rfl | exact Or.inr rfl) (pe_tup (pa_cons (pv 5) (pa_cons (pv 4) pa_nil))))) pss_nil))))
    (pss_one (ps_ret (pv 3)))))), ?_⟩
    obtain ⟨F, v, u, m1, m2, Pc, hh, ww, kind, rfl, wd, d1, d2, p1, p2, h1, w1, h2, w2, kf, q⟩ := h
    obtain ⟨KT, kd1, kd2⟩ := T.kd _ (kind_mem kf.1)
    dsimp only [tSeq, tAsg, gName, tNext]
    refine for_of ?_
    have sE : ∀ G : Hp, Same (fun _ => none) G := fun G b o e => by cases e
    obtain ⟨_, ws, eT, hT0, aT⟩ := dt_tup_inv (kd2 fun _ => none)
    cases eT
    have hT := Evl.ex_t (sE H) hT0
    have hlw := dtAll_len aT
    rw [List.length_map] at hlw
    refine ⟨.str kind, rfl, _, kind, _, rfl, rfl, kd1, KT, rfl, ⟨_, hT⟩, forin_tup (xs := ws) (fun i σ H' => ∃ F' y3 y4 y5, σ = [some v, some u, some (.str kind), some y3, y4, y5] ∧ Gr m0 F H F' H' ∧ (match ((farsT m1 m2 kind).take i).foldl stepB none with | none => y3 = .non | some x => Dt K F' y3 (dFar x))) ⟨F, _, _, _, rfl, Gr.refl wd, rfl⟩ ?_ ?_ ?_⟩
    · rintro i σ H' hi ⟨F', y3, y4, y5, rfl, g, _⟩
      exact Evl.ex_t (sE H') hT0
    · rintro i x σ H1 hx ⟨F1, y3, y4, y5, rfl, g, hb⟩
      have s1 : Same H H1 := fun b o e => g.h b o (fun z => z) e
      obtain ⟨dq, hq, hd⟩ := dtAll_at aT hx
      obtain ⟨qw, hqw, rfl⟩ := map_get_inv hq
      obtain ⟨Ty, rfl, hTy⟩ := dt_way hd
      have hm := List.mem_of_getElem? hqw
      have lt3 := (ways_lt kf.1 qw hm).1
      have hfar : (farsT m1 m2 kind)[i]? = some (diffT m1 (moveT m2 qw.1 qw.2), qw) := map_get hqw
      rw [take_more hfar, List.foldl_append]
      generalize ((farsT m1 m2 kind).take i).foldl stepB none = b at hb
      refine ⟨v, rfl, u, rfl, .ref Ty, rfl, u, m2, Pc, hh, ww, qw.1, qw.2, Ty, rfl, Evl.ex_t (sE H1) hTy, (d2.up wd.s).up s1, p2, h1, w1, h2, w2, by omega, fun p rs H2 s2 M2 => ?_⟩
      have s02 := (wd.s.trans s1).trans s2
      refine ⟨_, _, m1, _, rfl, d1.up s02, M2.dp, by rw [p1.hi]; exact h2, fun r hr => by rw [p1.wi r hr]; exact w2, fun H3 s3 => ?_⟩
      have g3 := g.trans wd (Gr.pure (g.wd wd) (s2.trans s3))
      generalize diffT m1 (moveT m2 qw.1 qw.2) = far
      have put : ∀ (N : Addr), H3 N = none → Gr m0 F H (upd F1 N (.tup [.int far, .ref Ty])) (upd H3 N (.tup [.int far, .ref Ty])) ∧ Dt K (upd F1 N (.tup [.int far, .ref Ty])) (.ref N) (dFar (far, qw)) := fun N hN =>
        ⟨g3.new wd hN, .tup (sqt_of upd_same) (.cons (.int far) (.cons (hd.up (sE _)) .nil))⟩
      cases b with
      | none =>
        have e3 : y3 = .non := hb
        subst e3
        refine ⟨.non, rfl, rfl, true, congrArg V.bl (decide_eq_true rfl), iteT (iteT ⟨.int far, rfl, .ref Ty, rfl, by show 2 ≤ sizeLine; decide, fun N hN => ?_⟩)⟩
        exact ⟨_, .ref N, some (.ref Ty), some (.int far), rfl, (put N hN).1, (put N hN).2⟩
      | some x =>
        have hb2 : Dt K F1 y3 (dFar x) := hb
        obtain ⟨Tx3, yw, rfl, hX, hyw⟩ := dt_far hb2
        refine ⟨.ref Tx3, rfl, rfl, false, congrArg V.bl (decide_eq_false (fun z => by cases z)), iteF ?_⟩
        refine ⟨.int far, rfl, .ref Tx3, rfl, Tx3, _, 0, _, rfl, rfl, Evl.ex_t ((g.s.trans s2).trans s3) hX, atI_nat (j := 0) rfl, far, x.1, rfl, rfl, _, rfl, ite2 (fun e => ?_) (fun e => ?_)⟩
        · have e1 := of_decide_eq_true e
          refine ⟨.int far, rfl, .ref Ty, rfl, by show 2 ≤ sizeLine; decide, fun N hN => ?_⟩
          refine ⟨_, .ref N, some (.ref Ty), some (.int far), rfl, (put N hN).1, ?_⟩
          have : [(far, qw)].foldl stepB (some x) = some (far, qw) := if_pos e1
          rw [this]
          exact (put N hN).2
        · have e1 : ¬ far < x.1 := fun z => e (decide_eq_true z)
          refine ⟨F1, .ref Tx3, some (.ref Ty), some (.int far), rfl, g3, ?_⟩
          have : [(far, qw)].foldl stepB (some x) = some x := if_neg e1
          rw [this]
          exact hb2
    · rintro σ H' ⟨F', y3, y4, y5, rfl, g, hb⟩
      have e : (farsT m1 m2 kind).take ws.length = farsT m1 m2 kind := List.take_of_length_le (by unfold farsT; rw [List.length_map, hlw]; exact Nat.le_refl _)
      rw [e, best_fold, apart_some kf.1] at hb
      exact ⟨y3, rfl, q y3 F' H' g hb⟩
theorem sc__law_cell : FnScope ["_law_script", "_law_k"] ["_law_script", "_law_k"] (defScope s__law_cell) := ⟨rfl, rfl, rfl, by decide +kernel, rfl, by decide +kernel, by decide +kernel⟩
theorem has__law_cell {P : Program} {w : World} {K : PySem.W.Frag} {mg : Str → Option Value} {base : Heap} {k : Nat} (T : Tx w K mg)  : Has P w K mg base (k + 1) "_law_cell" ["_law_script", "_law_k"] (sp__law_cell K) := by
  obtain ⟨fd, F⟩ := T.d__law_cell
  refine ⟨_, fd, ?_, T.g__law_cell, F.kp, F.bindsN fun _ _ _ _ _ _ us hl => match us, hl with | [_, _], _ => rfl⟩
  refine F.ok sc__law_cell (fun vs H Q E h => ?_) (fun cdv A outer s H vs Q E hr h => ?_)
  ·
    repeat first | (obtain ⟨rfl, _⟩ := h; rfl) | (obtain ⟨_, h⟩ := h)
  · have hu := hu_room hr
    refine ⟨_, PSs.nox ((pss_cons (ps_if (pt_cmpR op_lt (pv 1) (pe_callB (lenQ (K := K) rfl) (by rfl) T.z_len (by decide +kernel) (pa_cons (pv 0) pa_nil)) (nomark _)) (pss_one (ps_ret (pe_ix (ixL (K := K) rfl) (pv 0) (pv 1) (fun _ _ => rfl)))) pss_nil)
    (pss_one (ps_ret pe_int)))), ?_⟩
    obtain ⟨a, ns, k, rfl, hS, q⟩ := h
    refine ⟨_, rfl, .ref a, rfl, a, ns.map V.int, rfl, .inl hS, k, _, rfl, rfl, _, rfl, ite2 (fun e => ?_) (fun e => ?_)⟩
    · have e1 : k < ns.length := by
        have := of_decide_eq_true e
        rw [List.length_map] at this
        omega
      exact ⟨_, rfl, _, rfl, a, _, k, _, rfl, rfl, hS, atI_of (map_get (List.getElem?_eq_getElem e1)), q _⟩
    · exact q 0
theorem sc__law_dice : FnScope ["_law_script", "_law_k", "_law_cell_here"] ["_law_script", "_law_k"] (defScope s__law_dice) := ⟨rfl, rfl, rfl, by decide +kernel, rfl, by decide +kernel, by decide +kernel⟩
theorem has__law_dice {P : Program} {w : World} {K : PySem.W.Frag} {mg : Str → Option Value} {base : Heap} {k : Nat} (T : Tx w K mg) (G__law_cell : Has P w K mg base (k) "_law_cell" ["_law_script", "_law_k"] (sp__law_cell K)) : Has P w K mg base (k + 1) "_law_dice" ["_law_script", "_law_k"] (sp__law_dice K) := by
  obtain ⟨fd, F⟩ := T.d__law_dice
  refine ⟨_, fd, ?_, T.g__law_dice, F.kp, F.bindsN fun _ _ _ _ _ _ us hl => match us, hl with | [_, _], _ => rfl⟩
  refine F.ok sc__law_dice (fun vs H Q E h => ?_) (fun cdv A outer s H vs Q E hr h => ?_)
  ·
    repeat first | (obtain ⟨rfl, _⟩ := h; rfl) | (obtain ⟨_, h⟩ := h)
  · have hu := hu_room hr
    refine ⟨_, PSs.nox ((pss_one (ps_ret (pe_op op_cat (pe_lst (pa_cons (pe_op op_mod (pe_callB call_abs (by rfl) T.z_abs (by decide +kernel) (pa_cons (pe_fn G__law_cell hr (by rfl) (pa_cons (pv 0) (pa_cons (pv 1) pa_nil))) pa_nil)) pe_int) (pa_cons pe_int pa_nil))) (pe_lc (own := [("_law_cell_here", 2)]) (by rfl) sc__law_dice.nd (pi_listQ (K := K) rfl (pv 0)) (blkOk_by (N := ["_law_script", "_law_k", "_law_cell_here"]) (sc := defScope s__law_dice) (by decide +kernel)) (fun _ _ _ _ _ => (pg_name (i := 2) sc__law_dice.nd rfl (by first | exact Or.inl rfl | exact Or.inr rfl))) (fun _ _ _ _ _ => (pts_one (pt_cmpR op_ge (pv 2) (pe_op op_pow pe_int pe_int) (nomark _)))) (fun _ _ _ _ _ => (pv 2))))))), ?_⟩
    obtain ⟨a, ns, rfl, hS, hlen, q⟩ := h
    refine ⟨.ref a, rfl, .int 0, rfl, a, ns, 0, rfl, hS, fun i => ⟨i, rfl, _, _, rfl, rfl, (by show (0 : Int) < 2147483647; decide), by show 2 ≤ sizeLine; decide, fun l hl => ?_⟩⟩
    dsimp only
    generalize hx : (if i < 0 then -i else i) % 2147483647 = x0
    have hx0 : 0 ≤ x0 := by omega
    have s1 : Same H (upd H l (.lst [.int x0, .int 0])) := same_new hl
    have hS1 := s1.seq hS
    refine lc_of ⟨.ref a, rfl, a, rfl, ⟨_, hS1⟩, comp_listF (m := m0) (F := upd H l (.lst [.int x0, .int 0])) (wd0 (Same.refl _)) ns (by rw [List.length_map]) hS1 (by rw [List.length_map]; omega) (fun c => decide ((10 : Int) ^ (18 : Nat) ≤ c)) (fun c v _ => v = .int c) (fun _ _ _ _ _ h => h) (by exact fun _ => rfl) ?_ ?_⟩
    · intro i b x F1 H1 hi hx gr Q1 Qn k1 k2
      have ex : x = .int b := by
        rw [map_get hi] at hx
        exact (Option.some.inj hx).symm
      subst ex
      refine ⟨.int b, rfl, 10, 18, rfl, rfl, ⟨by decide, by decide, by decide⟩, b, _, rfl, rfl, _, rfl, ?_⟩
      refine ite2 (fun e => ?_) (fun e => ?_)
      · exact ⟨.int b, rfl, k1 e _ F1 H1 (Gr.refl (gr.wd (wd0 (Same.refl _)))) rfl⟩
      · exact k2 (eq_false_of_ne_true e) F1 H1 (Gr.refl (gr.wd (wd0 (Same.refl _))))
    · intro D ys F2 H2 hD g e pr
      have ey := paired_eq pr
      have e1 : H2 l = some (.lst [.int x0, .int 0]) := g.h l _ (fun z => z) upd_same
      refine ⟨l, D, _, _, rfl, rfl, e1, g.s D _ e, ?_, fun p hp => ?_⟩
      · rw [ey, List.length_map]
        have := List.length_filter_le (fun c => decide ((10 : Int) ^ (18 : Nat) ≤ c)) ns
        show 2 + _ ≤ sizeLine
        exact size_le (by omega)
      · refine q p ([x0, 0] ++ ns.filter fun c => decide ((10 : Int) ^ (18 : Nat) ≤ c)) _ (fun b o z => ?_) ?_ ?_ ?_
        · have z2 : H2 b = some o := g.h b o (fun z => z) (s1 b o z)
          rw [upd_ne (ne_of_none z2 hp)]
          exact z2
        · cases z : H p with
          | none => rfl
          | some o =>
            have z2 : H2 p = some o := g.h p o (fun z => z) (s1 p o z)
            rw [hp] at z2
            cases z2
        · rw [upd_same, ey, List.map_append]
          rfl
        · refine ⟨?_, ?_, fun x hx => ?_⟩
          · rw [List.length_append]
            show 2 ≤ 2 + _
            omega
          · have := List.length_filter_le (fun c => decide ((10 : Int) ^ (18 : Nat) ≤ c)) ns
            rw [List.length_append]
            show 2 + _ ≤ 100
            omega
          · rcases List.mem_cons.mp hx with rfl | hx
            · exact hx0
            · rcases List.mem_cons.mp hx with rfl | hx
              · exact Int.le_refl _
              · have := of_decide_eq_true (List.mem_filter.mp hx).2
                have h10 : (0 : Int) ≤ 10 ^ (18 : Nat) := by decide
                omega
theorem sc__law_off : FnScope ["_law_d", "_law_most", "_law_found"] ["_law_d", "_law_most"] (defScope s__law_off) := ⟨rfl, rfl, rfl, by decide +kernel, rfl, by decide +kernel, by decide +kernel⟩
theorem has__law_off {P : Program} {w : World} {K : PySem.W.Frag} {mg : Str → Option Value} {base : Heap} {k : Nat} (T : Tx w K mg)  : Has P w K mg base (k + 1) "_law_off" ["_law_d", "_law_most"] (sp__law_off K) := by
  obtain ⟨fd, F⟩ := T.d__law_off
  refine ⟨_, fd, ?_, T.g__law_off, F.kp, F.bindsN fun _ _ _ _ _ _ us hl => match us, hl with | [_, _], _ => rfl⟩
  refine F.ok sc__law_off (fun vs H Q E h => ?_) (fun cdv A outer s H vs Q E hr h => ?_)
  ·
    repeat first | (obtain ⟨rfl, _⟩ := h; rfl) | (obtain ⟨_, h⟩ := h)
  · have hu := hu_room hr
    refine ⟨_, PSs.nox ((pss_cons (ps_if (PW.pt (pw_and (pt_cmpR op_eq (pe_ix (ixL (K := K) rfl) (pv 0) pe_int (fun _ _ => rfl)) pe_int (nomark _)) (pw_and1 (pt_cmpR op_gt (pe_callB (lenQ (K := K) rfl) (by rfl) T.z_len (by decide +kernel) (pa_cons (pv 0) pa_nil)) pe_int (nomark _))))) (pss_one (ps_asg (pe_bmQ (K := K) rfl PySem.F.plainAttrs_list PySem.F.slot_list_pop PySem.F.type_list_pop mt_popAt (pv 0) (pa_cons pe_int pa_nil)) (pg_sub (pv 0) pe_int set_list))) pss_nil)
    (pss_cons (ps_if (pt_cmpR op_gt (pe_ix (ixL (K := K) rfl) (pv 0) pe_int (fun _ _ => rfl)) pe_int (nomark _)) (pss_cons (ps_set (i := 2) sc__law_off.nd rfl (by first | exact Or.inl rfl | exact Or.inr rfl) (pe_op op_mod (pe_ix (ixL (K := K) rfl) (pv 0) pe_int (fun _ _ => rfl)) (pv 1)))
    (pss_cons (ps_asg (pe_op op_fdiv (pe_ix (ixL (K := K) rfl) (pv 0) pe_int (fun _ _ => rfl)) (pv 1)) (pg_sub (pv 0) pe_int set_list))
    (pss_one (ps_ret (pv 2))))) pss_nil)
    (pss_cons (ps_asg (pe_op op_mod (pe_op op_add (pe_op op_mul (pe_ix (ixL (K := K) rfl) (pv 0) pe_int (fun _ _ => rfl)) pe_int) pe_int) pe_int) (pg_sub (pv 0) pe_int set_list))
    (pss_one (ps_ret (pe_op op_mod (pe_op op_fdiv (pe_ix (ixL (K := K) rfl) (pv 0) pe_int (fun _ _ => rfl)) pe_int) (pv 1)))))))), ?_⟩
    obtain ⟨d, n, rfl, ⟨ns, hD, hL⟩, n1, n2, q⟩ := h
    obtain ⟨x0, x1, r, rfl⟩ := dice_cases hL
    -- the second half, from any such state
    have tail : ∀ (H1 : Hp) (y0 y1 : Int) (s : List Int), H1 d = some (.lst ((y0 :: y1 :: s).map V.int)) → DiceL (y0 :: y1 :: s) → (∀ ms : List Int, upd H1 d (.lst (ms.map V.int)) = upd H d (.lst (ms.map V.int))) →
        (tSeq (tIfS (tTest (tOp (rI0 fun i j => V.bl (decide (j < i))) (tOp (rIxL K) (tVar 0) (tC (V.int 1))) (tC (V.int 0)))) (tSeq (tAsg (tOp (rI (fun x j => 0 < j) fun i j => V.int (i % j)) (tOp (rIxL K) (tVar 0) (tC (V.int 1))) (tVar 1)) (gName 2))
          (tSeq (tAsg (tOp (rI CDiv fun i j => V.int (i / j)) (tOp (rIxL K) (tVar 0) (tC (V.int 1))) (tVar 1)) (gSub (tVar 0) (tC (V.int 1)) rSetL)) (tRet (tVar 2)))) tNext)
          (tSeq (tAsg (tOp (rI (fun x j => 0 < j) fun i j => V.int (i % j)) (tOp (rI0 fun i j => V.int (i + j)) (tOp (rI CMul fun i j => V.int (i * j)) (tOp (rIxL K) (tVar 0) (tC (V.int 0))) (tC (V.int 48271))) (tC (V.int 11))) (tC (V.int 2147483647))) (gSub (tVar 0) (tC (V.int 0)) rSetL))
          (tRet (tOp (rI (fun x j => 0 < j) fun i j => V.int (i % j)) (tOp (rI CDiv fun i j => V.int (i / j)) (tOp (rIxL K) (tVar 0) (tC (V.int 0))) (tC (V.int 64))) (tVar 1))))) { nx := fun _ H' => Q .non H', rt := Q } [some (.ref d), some (.int n), none] H1 := by
      intro H1 y0 y1 s h1 hl eq
      obtain ⟨g0, g1⟩ := off_two hl
      refine ⟨.ref d, rfl, d, _, 1, .int y1, rfl, rfl, sql_of h1, atI_nat (j := 1) rfl, y1, 0, rfl, rfl, _, rfl, ite2 (fun e => ?_) (fun e => ?_)⟩
      · have hy : 0 < y1 := of_decide_eq_true e
        have m1 : 0 ≤ y1 % n := Int.emod_nonneg _ (by omega)
        have m2 : y1 % n < n := Int.emod_lt_of_pos _ (by omega)
        refine ⟨.ref d, rfl, d, _, 1, .int y1, rfl, rfl, sql_of h1, atI_nat (j := 1) rfl, .int n, rfl, y1, n, rfl, rfl, by omega, ?_⟩
        refine ⟨.ref d, rfl, d, _, 1, .int y1, rfl, rfl, sql_of h1, atI_nat (j := 1) rfl, .int n, rfl, y1, n, rfl, rfl, ⟨by omega, by omega⟩, ?_⟩
        refine ⟨.ref d, rfl, d, _, 1, 1, rfl, rfl, h1, ixN_of (j := 1) (by simp), ?_⟩
        refine ⟨.int (y1 % n), rfl, ?_⟩
        have hl2 := dice_set (i := 1) hl (x := y1 / n) (Int.ediv_nonneg (by omega) (by omega))
        have z := q (y1 % n) (y0 :: y1 / n :: s) m1 m2 hl2
        rw [← eq] at z
        exact z
      · refine ⟨.ref d, rfl, d, _, 0, .int y0, rfl, rfl, sql_of h1, atI_nat (j := 0) rfl, y0, 48271, rfl, rfl, .inr ⟨by decide, by decide⟩, _, 11, rfl, rfl, _, 2147483647, rfl, rfl, (by show (0 : Int) < 2147483647; decide), ?_⟩
        refine ⟨.ref d, rfl, d, _, 0, 0, rfl, rfl, h1, ixN_of (j := 0) (by simp), ?_⟩
        dsimp only
        generalize hz : (y0 * 48271 + 11) % 2147483647 = z0
        have hz0 : 0 ≤ z0 := by omega
        have h2 : upd H1 d (.lst (((y0 :: y1 :: s).map V.int).set 0 (.int z0))) d = some (.lst ((z0 :: y1 :: s).map V.int)) := upd_same
        refine ⟨.ref d, rfl, d, _, 0, .int z0, rfl, rfl, sql_of h2, atI_nat (j := 0) rfl, z0, 64, rfl, rfl, ⟨by decide, by decide⟩, .int n, rfl, _, n, rfl, rfl, by omega, ?_⟩
        have hl2 := dice_set (i := 0) hl (x := z0) hz0
        have z := q (z0 / 64 % n) (z0 :: y1 :: s) (Int.emod_nonneg _ (by omega)) (Int.emod_lt_of_pos _ (by omega)) hl2
        rw [← eq] at z
        exact z
    refine ⟨.ref d, rfl, d, _, 1, .int x1, rfl, rfl, sql_of hD, atI_nat (j := 1) rfl, rfl, _, rfl, ?_⟩
    
    refine ite2 (fun e => ?_) (fun e => ?_)
    · refine ⟨.ref d, rfl, d, _, rfl, .inl (sql_of hD), _, 2, rfl, rfl, _, rfl, ite2 (fun e2 => ?_) (fun e2 => ?_)⟩
      · match r, hL, hD, e2 with
        | c :: s, hL, hD, _ =>
          refine ⟨.ref d, rfl, .inl ⟨rfl, _, sql_of hD⟩, d, _, 2, 2, .int c, rfl, rfl, hD, by decide, by decide, seqIx_of (j := 2) (by simp), rfl, ?_⟩
          have h1 : upd H d (.lst (((x0 :: x1 :: c :: s).map V.int).eraseIdx 2)) d = some (.lst ((x0 :: x1 :: s).map V.int)) := upd_same
          refine ⟨.ref d, rfl, d, _, 1, 1, rfl, rfl, h1, ixN_of (j := 1) (by simp), ?_⟩
          exact tail _ x0 c s upd_same (dice_pop hL) (fun ms => by rw [upd_upd, upd_upd])
        | [], hL, hD, e2 => exact absurd (of_decide_eq_true e2) (by simp)
      · exact tail H x0 x1 r hD hL (fun _ => rfl)
    · refine iteF ?_
      exact tail H x0 x1 r hD hL (fun _ => rfl)
theorem sc__law_cells : FnScope ["_law_d", "_law_high", "_law_wide", "_law_most", "_law_k", "_law_at"] ["_law_d", "_law_high", "_law_wide"] (defScope s__law_cells) := ⟨rfl, rfl, rfl, by decide +kernel, rfl, by decide +kernel, by decide +kernel⟩
theorem has__law_cells {P : Program} {w : World} {K : PySem.W.Frag} {mg : Str → Option Value} {base : Heap} {k : Nat} (T : Tx w K mg) (G__law_off : Has P w K mg base (k) "_law_off" ["_law_d", "_law_most"] (sp__law_off K)) : Has P w K mg base (k + 1) "_law_cells" ["_law_d", "_law_high", "_law_wide"] (sp__law_cells K) := by
  obtain ⟨fd, F⟩ := T.d__law_cells
  refine ⟨_, fd, ?_, T.g__law_cells, F.kp, F.bindsN fun _ _ _ _ _ _ us hl => match us, hl with | [_, _, _], _ => rfl⟩
  refine F.ok sc__law_cells (fun vs H Q E h => ?_) (fun cdv A outer s H vs Q E hr h => ?_)
  ·
    repeat first | (obtain ⟨rfl, _⟩ := h; rfl) | (obtain ⟨_, h⟩ := h)
  · have hu := hu_room hr
    refine ⟨_, PSs.nox ((pss_cons (ps_set (i := 3) sc__law_cells.nd rfl (by first | exact Or.inl rfl | exact Or.inr rfl) (pe_ix (ixL (K := K) rfl) (pe_lst (pa_cons pe_int (pa_cons pe_int (pa_cons pe_int pa_nil)))) (pe_fn G__law_off hr (by rfl) (pa_cons (pv 0) (pa_cons pe_int pa_nil))) (fun _ _ => rfl)))
    (pss_one (ps_ret (pe_lc (own := [("_law_at", 5)]) (by rfl) sc__law_cells.nd (pi_range1 (by rfl) T.z_range (pa_cons (pv 1) pa_nil)) (blkOk_by (N := ["_law_d", "_law_high", "_law_wide", "_law_most", "_law_k", "_law_at"]) (sc := defScope s__law_cells) (by decide +kernel)) (fun _ _ _ _ _ => (pg_name (i := 5) sc__law_cells.nd rfl (by first | exact Or.inl rfl | exact Or.inr rfl))) (fun _ _ _ _ _ => pts_nil) (fun _ _ _ _ _ => (pe_lc (own := [("_law_k", 4)]) (by rfl) sc__law_cells.nd (pi_range1 (by rfl) T.z_range (pa_cons (pv 2) pa_nil)) (blkOk_by (by kernel_rfl)) (fun _ _ _ _ _ => (pg_name (i := 4) sc__law_cells.nd rfl (by first | exact Or.inl rfl | exact Or.inr rfl))) (fun _ _ _ _ _ => pts_nil) (fun _ _ _ _ _ => (pe_fn G__law_off hr (by rfl) (pa_cons (pv 0) (pa_cons (pv 3) pa_nil))))))))))), ?_⟩
    obtain ⟨F, d, hh, ww, rfl, wd, h1, h2, q⟩ := h
    refine ⟨by show 3 ≤ sizeLine; decide, fun l hl => ?_⟩
    have g1 := (Gr.refl wd).wr (o := .lst [.int 2, .int 4, .int 256]) wd hl (wd.s.free hl)
    refine ⟨.ref d, rfl, d, 3, rfl, (g1.wd wd).j, by decide, by decide, fun i ms i0 i1 hm => ?_⟩
    have g2 := gr_dice (g1.wd wd) hm
    have g12 := g1.trans wd g2
    have wd2 := g12.wd wd
    have lm := (Lm.new (u := .lst [.int 2, .int 4, .int 256]) wd (Gr.refl wd) hl).gr wd g2
    obtain ⟨m, hm, m1, m2⟩ : ∃ m : Int, ([.int 2, .int 4, .int 256] : List V)[i.toNat]? = some (.int m) ∧ 1 ≤ m ∧ m ≤ 256 := by
      have hi : i = 0 ∨ i = 1 ∨ i = 2 := by omega
      rcases hi with rfl | rfl | rfl
      · exact ⟨2, rfl, by decide, by decide⟩
      · exact ⟨4, rfl, by decide, by decide⟩
      · exact ⟨256, rfl, by decide, by decide⟩
    refine ⟨l, _, i, .int m, rfl, rfl, sql_of lm.h, atI_ofI i0 hm, ?_⟩
    dsimp only [gName, tRet]
    refine lc_of ?_
    refine ⟨.int hh, rfl, hh, rfl, by omega, by omega, comp_range (n := hh) wd2 (by omega) (fun _ y F' => ∃ r : List Int, (r.length = ww ∧ ∀ c ∈ r, 0 ≤ c ∧ c ≤ 255) ∧ Dt K F' y (dRow r)) (fun _ _ _ _ s ⟨r, a, b⟩ => ⟨r, a, b.up s⟩) (by exact fun _ => rfl) ?_ ?_⟩
    · intro a F3 H3 ha g3 Q1 k1
      have wd3 := g3.wd wd2
      refine lc_of ?_
      refine ⟨.int ww, rfl, ww, rfl, by omega, by omega, comp_range (n := ww) wd3 (by omega) (fun _ y _ => ∃ c : Int, y = .int c ∧ 0 ≤ c ∧ c ≤ 255) (fun _ _ _ _ _ h => h) (by exact fun _ => rfl) ?_ ?_⟩
      · intro b F4 H4 hb g4 Q2 k2
        exact ⟨.ref d, rfl, .int m, rfl, d, m, rfl, (g4.wd wd3).j, m1, by omega, fun i ms i0 i1 hm => k2 _ F4 _ (gr_dice (g4.wd wd3) hm) ⟨i, rfl, i0, by omega⟩⟩
      · intro D ys F4 H4 hD g4 e pr
        obtain ⟨r, e1, e2, e3⟩ := paired_vals pr
        rw [List.length_range] at e2
        rw [e1] at e
        exact k1 _ F4 H4 g4 ⟨r, ⟨e2, e3⟩, dt_row_mk e⟩
    · intro D ys F3 H3 hD g3 e pr
      obtain ⟨ds, p1, p2⟩ := paired_ex pr
      have hp := paired_all p1
      have hl2 := paired_len p1
      rw [List.length_range] at hl2
      exact q _ ds F3 H3 (g12.trans wd g3) ⟨hl2.symm, fun r hr => (hp r hr).1, fun r hr => (hp r hr).2⟩ (.lst e p2)
theorem sc__law_frame : FnScope ["_law_d", "_law_high", "_law_wide", "_law_kinds"] ["_law_d"] (defScope s__law_frame) := ⟨rfl, rfl, rfl, by decide +kernel, rfl, by decide +kernel, by decide +kernel⟩
theorem has__law_frame {P : Program} {w : World} {K : PySem.W.Frag} {mg : Str → Option Value} {base : Heap} {k : Nat} (T : Tx w K mg) (G__law_off : Has P w K mg base (k) "_law_off" ["_law_d", "_law_most"] (sp__law_off K)) : Has P w K mg base (k + 1) "_law_frame" ["_law_d"] (sp__law_frame K) := by
  obtain ⟨fd, F⟩ := T.d__law_frame
  refine ⟨_, fd, ?_, T.g__law_frame, F.kp, F.bindsN fun _ _ _ _ _ _ us hl => match us, hl with | [_], _ => rfl⟩
  refine F.ok sc__law_frame (fun vs H Q E h => ?_) (fun cdv A outer s H vs Q E hr h => ?_)
  ·
    repeat first | (obtain ⟨rfl, _⟩ := h; rfl) | (obtain ⟨_, h⟩ := h)
  · have hu := hu_room hr
    refine ⟨_, PSs.nox ((pss_cons (ps_set (i := 1) sc__law_frame.nd rfl (by first | exact Or.inl rfl | exact Or.inr rfl) (pe_op op_add pe_int (pe_fn G__law_off hr (by rfl) (pa_cons (pv 0) (pa_cons pe_int pa_nil)))))
    (pss_cons (ps_set (i := 2) sc__law_frame.nd rfl (by first | exact Or.inl rfl | exact Or.inr rfl) (pe_ix (ixL (K := K) rfl) (pe_lst (pa_cons (pv 1) (pa_cons (pe_op op_add pe_int (pe_fn G__law_off hr (by rfl) (pa_cons (pv 0) (pa_cons pe_int pa_nil)))) pa_nil))) (pe_fn G__law_off hr (by rfl) (pa_cons (pv 0) (pa_cons pe_int pa_nil))) (fun _ _ => rfl)))
    (pss_cons (ps_if (pt_cmpR op_eq (pe_fn G__law_off hr (by rfl) (pa_cons (pv 0) (pa_cons pe_int pa_nil))) pe_int (nomark _)) (pss_cons (ps_set (i := 1) sc__law_frame.nd rfl (by first | exact Or.inl rfl | exact Or.inr rfl) (pe_op op_add pe_int (pe_fn G__law_off hr (by rfl) (pa_cons (pv 0) (pa_cons pe_int pa_nil)))))
    (pss_one (ps_set (i := 2) sc__law_frame.nd rfl (by first | exact Or.inl rfl | exact Or.inr rfl) (pe_ix (ixL (K := K) rfl) (pe_lst (pa_cons (pv 1) (pa_cons (pe_op op_add pe_int (pe_fn G__law_off hr (by rfl) (pa_cons (pv 0) (pa_cons pe_int pa_nil)))) pa_nil))) (pe_fn G__law_off hr (by rfl) (pa_cons (pv 0) (pa_cons pe_int pa_nil))) (fun _ _ => rfl))))) pss_nil)
    (pss_cons (ps_set (i := 3) sc__law_frame.nd rfl (by first | exact Or.inl rfl | exact Or.inr rfl) (pe_lst (pa_cons pe_str (pa_cons pe_str (pa_cons pe_str (pa_cons pe_str pa_nil))))))
    (pss_cons (ps_if (pt_cmpR op_eq (pv 1) (pv 2) (nomark _)) (pss_one (ps_set (i := 3) sc__law_frame.nd rfl (by first | exact Or.inl rfl | exact Or.inr rfl) (pe_op op_cat (pv 3) (pe_lst (pa_cons pe_str (pa_cons pe_str pa_nil)))))) pss_nil)
    (pss_one (ps_ret (pe_tup (pa_cons (pv 1) (pa_cons (pv 2) (pa_cons (pe_ix (ixL (K := K) rfl) (pv 3) (pe_fn G__law_off hr (by rfl) (pa_cons (pv 0) (pa_cons (pe_callB (lenQ (K := K) rfl) (by rfl) T.z_len (by decide +kernel) (pa_cons (pv 3) pa_nil)) pa_nil))) (fun _ _ => rfl)) pa_nil)))))))))))), ?_⟩
    obtain ⟨F, d, rfl, wd, q⟩ := h
    -- 1 + off(d, n)
    have one : ∀ (n : Nat) (σ : L2.St) (H1 : Hp) (Q1 : VK), 1 ≤ n → n ≤ 16 → σ[0]? = some (some (.ref d)) → Wd (mD d) F H1 → (∀ (h : Nat) H2, Gr (mD d) F H1 F H2 → 1 ≤ h → h ≤ 16 → Q1 (.int h) H2) →
        tOp (rI0 fun i j => V.int (i + j)) (tC (V.int 1)) (tCall (sp__law_off K) [] E0 (tCons (tVar 0) (tCons (tC (V.int n)) tNil))) σ H1 Q1 := by
      intro n σ H1 Q1 n1 n2 e0 wd1 q1
      refine ⟨.ref d, e0, d, n, rfl, wd1.j, by omega, by omega, fun i ms i0 i1 hm => ?_⟩
      obtain ⟨h, rfl⟩ := Int.eq_ofNat_of_zero_le i0
      refine ⟨1, (h : Int), rfl, rfl, ?_⟩
      have e := q1 (h + 1) _ (gr_dice wd1 hm) (by omega) (by omega)
      rw [show ((h + 1 : Nat) : Int) = 1 + (h : Int) by omega] at e
      exact e
    have wide : ∀ (n h : Nat) (σ : L2.St) (H1 : Hp) (Q1 : VK), 1 ≤ n → n ≤ 16 → 1 ≤ h → h ≤ 16 → σ[0]? = some (some (.ref d)) → σ[1]? = some (some (.int h)) → Wd (mD d) F H1 → (∀ (w : Nat) H2, Gr (mD d) F H1 F H2 → 1 ≤ w → w ≤ 16 → Q1 (.int w) H2) →
        tOp (rIxL K) (tLst (tCons (tVar 1) (tCons (tOp (rI0 fun i j => V.int (i + j)) (tC (V.int 1)) (tCall (sp__law_off K) [] E0 (tCons (tVar 0) (tCons (tC (V.int n)) tNil)))) tNil))) (tCall (sp__law_off K) [] E0 (tCons (tVar 0) (tCons (tC (V.int 2)) tNil))) σ H1 Q1 := by
      intro n h σ H1 Q1 n1 n2 b1 b2 e0 e1 wd1 q1
      refine ⟨.int h, e1, one n σ H1 _ n1 n2 e0 wd1 fun h2 H2 g2 c1 c2 => ⟨by show 2 ≤ sizeLine; decide, fun l hl => ?_⟩⟩
      have wd2 := g2.wd wd1
      have g3 := (Gr.refl wd2).wr (o := .lst [.int h, .int h2]) wd2 hl (wd2.s.free hl)
      have lm := Lm.new (u := .lst [.int h, .int h2]) wd2 (Gr.refl wd2) hl
      have wd3 := g3.wd wd2
      refine ⟨.ref d, e0, d, 2, rfl, wd3.j, by decide, by decide, fun i ms i0 i1 hm => ?_⟩
      have g4 := gr_dice wd3 hm
      have lm2 := lm.gr wd2 g4
      have gg := (g2.trans wd1 g3).trans wd1 g4
      have hi : i = 0 ∨ i = 1 := by omega
      rcases hi with rfl | rfl
      · exact ⟨l, _, 0, .int h, rfl, rfl, sql_of lm2.h, atI_nat (j := 0) rfl, q1 h _ gg b1 b2⟩
      · exact ⟨l, _, 1, .int h2, rfl, rfl, sql_of lm2.h, atI_nat (j := 1) rfl, q1 h2 _ gg c1 c2⟩
    -- high, wide
    refine one 4 _ H _ (by decide) (by decide) rfl wd fun h1 H1 g1 b1 b2 => ?_
    refine wide 4 h1 _ H1 _ (by decide) (by decide) b1 b2 rfl rfl (g1.wd wd) fun w1 H2 g2 c1 c2 => ?_
    have g12 := g1.trans wd g2
    have wd2 := g12.wd wd
    -- behind the second drawing
    have rest : ∀ (h w : Nat) (H4 : Hp), Gr (mD d) F H F H4 → 1 ≤ h → h ≤ 16 → 1 ≤ w → w ≤ 16 →
        (tSeq (tAsg (tLst (tCons (tC (V.str "plain")) (tCons (tC (V.str "half")) (tCons (tC (V.str "mirror")) (tCons (tC (V.str "both")) tNil))))) (gName 3))
          (tSeq (tIfS (tTest (tOp rEq (tVar 1) (tVar 2))) (tAsg (tOp rCat (tVar 3) (tLst (tCons (tC (V.str "turn")) (tCons (tC (V.str "all")) tNil)))) (gName 3)) tNext)
            (tRet (tTup (tCons (tVar 1) (tCons (tVar 2) (tCons (tOp (rIxL K) (tVar 3) (tCall (sp__law_off K) [] E0 (tCons (tVar 0) (tCons (tCB (rLenQ K) (tCons (tVar 3) tNil)) tNil)))) tNil)))))))
          { nx := fun x H' => Q V.non H', rt := Q } [some (.ref d), some (.int h), some (.int w), none] H4 := by
      intro h w H4 g4 b1 b2 c1 c2
      have wd4 := g4.wd wd
      -- with the kinds there
      have fin : ∀ (l : Addr) (ks : List Str) (H5 : Hp), Gr (mD d) F H F H5 → H5 l = some (.lst (ks.map V.str)) → H l = none → 1 ≤ ks.length → ks.length ≤ 10 → (∀ k ∈ ks, KFit k h w) →
          tRet (tTup (tCons (tVar 1) (tCons (tVar 2) (tCons (tOp (rIxL K) (tVar 3) (tCall (sp__law_off K) [] E0 (tCons (tVar 0) (tCons (tCB (rLenQ K) (tCons (tVar 3) tNil)) tNil)))) tNil))))
          { nx := fun x H' => Q V.non H', rt := Q } [some (.ref d), some (.int h), some (.int w), some (.ref l)] H5 := by
        intro l ks H5 g5 e5 z5 k1 k2 kf
        have wd5 := g5.wd wd
        refine ⟨.int h, rfl, .int w, rfl, .ref l, rfl, .ref d, rfl, .ref l, rfl, l, _, rfl, .inl (sql_of e5), d, _, rfl, wd5.j, by rw [List.length_map]; omega, by rw [List.length_map]; omega, fun i ms i0 i1 hm => ?_⟩
        rw [List.length_map] at i1
        have g6 := gr_dice wd5 hm
        have e6 := g6.h _ _ (wd.nM z5) e5
        have hi : i.toNat < ks.length := by omega
        refine ⟨l, _, i, .str ks[i.toNat], rfl, rfl, sql_of e6, atI_ofI i0 (map_get (List.getElem?_eq_getElem hi)), by show 3 ≤ sizeLine; decide, fun T hT => ?_⟩
        exact q T _ _ h w ks[i.toNat] ((g5.trans wd g6).new wd hT) (sqt_of upd_same) b1 b2 c1 c2 (kf _ (List.getElem_mem hi))
      refine ⟨by show 4 ≤ sizeLine; decide, fun l hl => ?_⟩
      have g5 := g4.wr (o := .lst [.str "plain", .str "half", .str "mirror", .str "both"]) wd (g4.same wd hl) (g4.s.free hl)
      have lm5 := Lm.new (u := .lst [.str "plain", .str "half", .str "mirror", .str "both"]) wd g4 hl
      have even : ∀ k ∈ (["plain", "half", "mirror", "both"] : List Str), KFit k h w := by
        intro k hk
        simp only [List.mem_cons, List.not_mem_nil, or_false] at hk
        rcases hk with rfl | rfl | rfl | rfl <;> exact ⟨by unfold IsKind; decide, fun q hq ho => absurd ho (by revert q; decide)⟩
      refine ⟨.int h, rfl, .int w, rfl, rfl, _, rfl, ite2 (fun e => ?_) (fun e => ?_)⟩
      · have ew : h = w := by
          have := V.int.inj (of_decide_eq_true e)
          omega
        refine ⟨.ref l, rfl, by show 2 ≤ sizeLine; decide, fun l2 hl2 => ?_⟩
        have g6 := g5.wr (o := .lst [.str "turn", .str "all"]) wd (g5.same wd hl2) (g5.s.free hl2)
        have n2 : l ≠ l2 := ne_of_none lm5.h hl2
        refine ⟨l, l2, _, _, rfl, rfl, (lm5.wr n2).h, upd_same, by show 6 ≤ sizeLine; decide, fun l3 hl3 => ?_⟩
        have g7 := g6.wr (o := .lst ([.str "plain", .str "half", .str "mirror", .str "both"] ++ [.str "turn", .str "all"])) wd (g6.same wd hl3) (g6.s.free hl3)
        refine fin l3 ["plain", "half", "mirror", "both", "turn", "all"] _ g7 upd_same (g6.same wd hl3) (by decide) (by decide) fun k hk => ?_
        subst ew
        refine ⟨?_, fun _ _ _ => rfl⟩
        unfold IsKind
        revert k
        decide
      · exact fin l ["plain", "half", "mirror", "both"] _ g5 lm5.h lm5.z (by decide) (by decide) even
    refine ⟨.ref d, rfl, d, 9, rfl, wd2.j, by decide, by decide, fun i ms i0 i1 hm => ?_⟩
    have g3 := gr_dice wd2 hm
    have g13 := g12.trans wd g3
    have wd3 := g13.wd wd
    refine ⟨rfl, _, rfl, ite2 (fun e => ?_) (fun e => ?_)⟩
    · refine one 16 _ _ _ (by decide) (by decide) rfl wd3 fun h4 H4 g4 b1 b2 => ?_
      refine wide 16 h4 _ H4 _ (by decide) (by decide) b1 b2 rfl rfl (g4.wd wd3) fun w5 H5 g5 c1 c2 => ?_
      exact rest h4 w5 H5 ((g13.trans wd g4).trans wd g5) b1 b2 c1 c2
    · exact rest h1 w1 _ g13 b1 b2 c1 c2
theorem sc__law_ways : FnScope ["_law_kind", "_law_ways_here"] ["_law_kind"] (defScope s__law_ways) := ⟨rfl, rfl, rfl, by decide +kernel, rfl, by decide +kernel, by decide +kernel⟩
theorem has__law_ways {P : Program} {w : World} {K : PySem.W.Frag} {mg : Str → Option Value} {base : Heap} {k : Nat} (T : Tx w K mg)  : Has P w K mg base (k + 1) "_law_ways" ["_law_kind"] (sp__law_ways K) := by
  obtain ⟨fd, F⟩ := T.d__law_ways
  refine ⟨_, fd, ?_, T.g__law_ways, F.kp, F.bindsN fun _ _ _ _ _ _ us hl => match us, hl with | [_], _ => rfl⟩
  refine F.ok sc__law_ways (fun vs H Q E h => ?_) (fun cdv A outer s H vs Q E hr h => ?_)
  ·
    repeat first | (obtain ⟨rfl, _⟩ := h; rfl) | (obtain ⟨_, h⟩ := h)
  · have hu := hu_room hr
    refine ⟨_, PSs.nox ((pss_cons (ps_set (i := 1) sc__law_ways.nd rfl (by first | exact Or.inl rfl | exact Or.inr rfl) (pe_disp (pps_cons pe_str (pe_lst (pa_cons (pe_tup (pa_cons pe_int (pa_cons pe_int pa_nil))) pa_nil)) (pps_cons pe_str (pe_lst (pa_cons (pe_tup (pa_cons pe_int (pa_cons pe_int pa_nil))) (pa_cons (pe_tup (pa_cons pe_int (pa_cons pe_int pa_nil))) pa_nil))) (pps_cons pe_str (pe_lst (pa_cons (pe_tup (pa_cons pe_int (pa_cons pe_int pa_nil))) (pa_cons (pe_tup (pa_cons pe_int (pa_cons pe_int pa_nil))) pa_nil))) pps_nil))) (by rfl) (by rfl) (fun z => by cases z) (by decide)))
    (pss_cons (ps_dput hu (pv 1) pe_str (pe_lst (pa_cons (pe_tup (pa_cons pe_int (pa_cons pe_int pa_nil))) (pa_cons (pe_tup (pa_cons pe_int (pa_cons pe_int pa_nil))) (pa_cons (pe_tup (pa_cons pe_int (pa_cons pe_int pa_nil))) (pa_cons (pe_tup (pa_cons pe_int (pa_cons pe_int pa_nil))) pa_nil))))) rfl)
    (pss_cons (ps_dput hu (pv 1) pe_str (pe_lst (pa_cons (pe_tup (pa_cons pe_int (pa_cons pe_int pa_nil))) (pa_cons (pe_tup (pa_cons pe_int (pa_cons pe_int pa_nil))) (pa_cons (pe_tup (pa_cons pe_int (pa_cons pe_int pa_nil))) (pa_cons (pe_tup (pa_cons pe_int (pa_cons pe_int pa_nil))) pa_nil))))) rfl)
    (pss_cons (ps_dput hu (pv 1) pe_str (pe_op op_cat (pe_dget hu (pv 1) pe_str (fun _ _ => rfl)) (pe_lst (pa_cons (pe_tup (pa_cons pe_int (pa_cons pe_int pa_nil))) (pa_cons (pe_tup (pa_cons pe_int (pa_cons pe_int pa_nil))) (pa_cons (pe_tup (pa_cons pe_int (pa_cons pe_int pa_nil))) (pa_cons (pe_tup (pa_cons pe_int (pa_cons pe_int pa_nil))) pa_nil)))))) rfl)
    (pss_one (ps_ret (pe_dget hu (pv 1) (pv 0) (fun _ _ => rfl))))))))), ?_⟩
    obtain ⟨F, kind, rfl, wd, hk, q⟩ := h
    refine fun p hp => ?_
    have g1 := (Gr.refl wd).wr (o := .dK []) wd hp (wd.s.free hp)
    have lm1 : Lm H F (upd H p (.dK [])) p (.dK []) := Lm.new wd (Gr.refl wd) hp
    generalize upd H p (.dK []) = H1 at g1 lm1
    refine ways_pair (ws := [(0, 0)]) (ways_lst (K := K) [(0, 0)] (by decide) (g1.wd wd) fun D1 y1 F1 H2 g e1 a1 => ?_)
    have g2 := g1.trans wd g
    have lm2 := lm1.gr wd g
    have f1 := g.f
    clear g
    refine ways_pair (ws := [(0, 0), (2, 0)]) (ways_lst (K := K) [(0, 0), (2, 0)] (by decide) (g2.wd wd) fun D2 y2 F2 H3 g e2 a2 => ?_)
    have g3 := g2.trans wd g
    have lm3 := lm2.gr wd g
    have f2 := g.f
    clear g
    refine ways_pair (ws := [(0, 0), (0, 1)]) (ways_lst (K := K) [(0, 0), (0, 1)] (by decide) (g3.wd wd) fun D3 y3 F3 H4 g e3 a3 => ?_)
    have g4 := g3.trans wd g
    have lm4 := lm3.gr wd g
    have f3 := g.f
    clear g
    refine ⟨lm4.h, [(.inr "plain", .ref D1), (.inr "half", .ref D2), (.inr "mirror", .ref D3)], rfl, by show 3 ≤ 15; decide, ?_⟩
    have g5 := g4.wr (o := .dK [(.inr "plain", .ref D1), (.inr "half", .ref D2), (.inr "mirror", .ref D3)]) wd lm4.z lm4.f
    have lm5 := lm4.set (u := .dK [(.inr "plain", .ref D1), (.inr "half", .ref D2), (.inr "mirror", .ref D3)])
    refine ways_put (ws := [(0, 0), (1, 0), (2, 0), (3, 0)]) (ways_lst (K := K) [(0, 0), (1, 0), (2, 0), (3, 0)] (by decide) (g5.wd wd) fun D4 y4 F4 H6 g e4 a4 => ?_)
    have g6 := g5.trans wd g
    have lm6 := lm5.gr wd g
    have f4 := g.f
    clear g
    refine ⟨.ref p, rfl, p, _, rfl, .inl ⟨_, .inr "turn", lm6.h, rfl, by show 3 < sizeLine; decide, rfl⟩, ?_⟩
    have g7 := g6.wr (o := .dK (putK [(.inr "plain", .ref D1), (.inr "half", .ref D2), (.inr "mirror", .ref D3)] (.inr "turn") (.ref D4))) wd lm6.z lm6.f
    have lm7 := lm6.set (u := .dK (putK [(.inr "plain", .ref D1), (.inr "half", .ref D2), (.inr "mirror", .ref D3)] (.inr "turn") (.ref D4)))
    refine ways_put (ws := [(0, 0), (2, 0), (0, 1), (2, 1)]) (ways_lst (K := K) [(0, 0), (2, 0), (0, 1), (2, 1)] (by decide) (g7.wd wd) fun D5 y5 F5 H8 g e5 a5 => ?_)
    have g8 := g7.trans wd g
    have lm8 := lm7.gr wd g
    have f5 := g.f
    clear g
    refine ⟨.ref p, rfl, p, _, rfl, .inl ⟨_, .inr "both", lm8.h, rfl, by show 4 < sizeLine; decide, rfl⟩, ?_⟩
    have ek : putK (putK [((.inr "plain" : Key), V.ref D1), (.inr "half", .ref D2), (.inr "mirror", .ref D3)] (.inr "turn") (.ref D4)) (.inr "both") (.ref D5) = [(.inr "plain", .ref D1), (.inr "half", .ref D2), (.inr "mirror", .ref D3), (.inr "turn", .ref D4), (.inr "both", .ref D5)] := rfl
    rw [ek]
    have g9 := g8.wr (o := .dK [(.inr "plain", .ref D1), (.inr "half", .ref D2), (.inr "mirror", .ref D3), (.inr "turn", .ref D4), (.inr "both", .ref D5)]) wd lm8.z lm8.f
    have lm9 := lm8.set (u := .dK [(.inr "plain", .ref D1), (.inr "half", .ref D2), (.inr "mirror", .ref D3), (.inr "turn", .ref D4), (.inr "both", .ref D5)])
    generalize upd H8 p (.dK [(.inr "plain", .ref D1), (.inr "half", .ref D2), (.inr "mirror", .ref D3), (.inr "turn", .ref D4), (.inr "both", .ref D5)]) = H9 at g9 lm9
    clear g8 g7 g6 g5 g4 g3 g2 g1 lm1 lm2 lm3 lm4 lm5 lm6 lm7 lm8
    dsimp only [tSeq, sDPut, tOp]
    refine ⟨.ref p, rfl, p, .ref D4, rfl, .inl ⟨_, .inr "turn", .inl lm9.h, rfl, rfl⟩, ?_⟩
    refine ways_lst (K := K) [(0, 1), (1, 1), (2, 1), (3, 1)] (by decide) (g9.wd wd) fun D6 y6 F6 H10 g e6 a6 => ?_
    have g10 := g9.trans wd g
    have lm10 := lm9.gr wd g
    have f6 := g.f
    clear g
    have w10 := g10.wd wd
    have l4 := dtAll_len a4
    have l6 := dtAll_len a6
    refine ⟨D4, D6, y4, y6, rfl, rfl, w10.s _ _ (f6 _ _ (f5 _ _ e4)), w10.s _ _ e6, ?_, fun A hA => ?_⟩
    · rw [l4, l6]
      decide
    have g11 := g10.new (o := .lst (y4 ++ y6)) wd hA
    have lm11 : Lm H (upd F6 A (.lst (y4 ++ y6))) (upd H10 A (.lst (y4 ++ y6))) p _ := ⟨lm10.z, by rw [upd_ne (ne_of_none lm10.h hA)]; exact lm10.f, by rw [upd_ne (ne_of_none lm10.h hA)]; exact lm10.h⟩
    have s6 := same_new (o := .lst (y4 ++ y6)) (w10.s.free hA)
    have eA : upd F6 A (.lst (y4 ++ y6)) A = some (.lst (y4 ++ y6)) := upd_same
    have aA := (dtAll_app ((a4.up (f5.trans f6)).up s6) (a6.up s6))
    refine ⟨.ref p, rfl, p, _, rfl, .inl ⟨_, .inr "all", lm11.h, rfl, by show 5 < sizeLine; decide, rfl⟩, ?_⟩
    have ek : putK [((.inr "plain" : Key), V.ref D1), (.inr "half", .ref D2), (.inr "mirror", .ref D3), (.inr "turn", .ref D4), (.inr "both", .ref D5)] (.inr "all") (.ref A) = [(.inr "plain", .ref D1), (.inr "half", .ref D2), (.inr "mirror", .ref D3), (.inr "turn", .ref D4), (.inr "both", .ref D5), (.inr "all", .ref A)] := rfl
    rw [ek]
    have g12 := g11.wr (o := .dK [(.inr "plain", .ref D1), (.inr "half", .ref D2), (.inr "mirror", .ref D3), (.inr "turn", .ref D4), (.inr "both", .ref D5), (.inr "all", .ref A)]) wd lm11.z lm11.f
    have hp12 : upd (upd H10 A (.lst (y4 ++ y6))) p (.dK [(.inr "plain", .ref D1), (.inr "half", .ref D2), (.inr "mirror", .ref D3), (.inr "turn", .ref D4), (.inr "both", .ref D5), (.inr "all", .ref A)]) p = some (.dK [(.inr "plain", .ref D1), (.inr "half", .ref D2), (.inr "mirror", .ref D3), (.inr "turn", .ref D4), (.inr "both", .ref D5), (.inr "all", .ref A)]) := upd_same
    generalize upd (upd H10 A (.lst (y4 ++ y6))) p (.dK [(.inr "plain", .ref D1), (.inr "half", .ref D2), (.inr "mirror", .ref D3), (.inr "turn", .ref D4), (.inr "both", .ref D5), (.inr "all", .ref A)]) = H12 at g12 hp12
    have s5 := f6.trans s6
    have s4 := f5.trans s5
    have s3 := f4.trans s4
    have s2 := f3.trans s3
    have s1 := f2.trans s2
    rcases kind_cases hk with rfl | rfl | rfl | rfl | rfl | rfl
    · exact ⟨.ref p, rfl, .str "plain", rfl, p, .ref D1, rfl, .inl ⟨_, .inr "plain", .inl hp12, rfl, rfl⟩, q D1 y1 _ H12 g12 (s1 _ _ e1) (a1.up s1)⟩
    · exact ⟨.ref p, rfl, .str "half", rfl, p, .ref D2, rfl, .inl ⟨_, .inr "half", .inl hp12, rfl, rfl⟩, q D2 y2 _ H12 g12 (s2 _ _ e2) (a2.up s2)⟩
    · exact ⟨.ref p, rfl, .str "turn", rfl, p, .ref D4, rfl, .inl ⟨_, .inr "turn", .inl hp12, rfl, rfl⟩, q D4 y4 _ H12 g12 (s4 _ _ e4) (a4.up s4)⟩
    · exact ⟨.ref p, rfl, .str "mirror", rfl, p, .ref D3, rfl, .inl ⟨_, .inr "mirror", .inl hp12, rfl, rfl⟩, q D3 y3 _ H12 g12 (s3 _ _ e3) (a3.up s3)⟩
    · exact ⟨.ref p, rfl, .str "both", rfl, p, .ref D5, rfl, .inl ⟨_, .inr "both", .inl hp12, rfl, rfl⟩, q D5 y5 _ H12 g12 (s5 _ _ e5) (a5.up s5)⟩
    · exact ⟨.ref p, rfl, .str "all", rfl, p, .ref A, rfl, .inl ⟨_, .inr "all", .inl hp12, rfl, rfl⟩, q A _ _ H12 g12 eA aA⟩
theorem sc__law_moved : FnScope ["_law_rows", "_law_way", "_law_found", "_law_row", "_law_turn", "_law_wide", "_law_at", "_law_k"] ["_law_rows", "_law_way"] (defScope s__law_moved) := ⟨rfl, rfl, rfl, by decide +kernel, rfl, by decide +kernel, by decide +kernel⟩
theorem has__law_moved {P : Program} {w : World} {K : PySem.W.Frag} {mg : Str → Option Value} {base : Heap} {k : Nat} (T : Tx w K mg)  : Has P w K mg base (k + 1) "_law_moved" ["_law_rows", "_law_way"] (sp__law_moved K) := by
  obtain ⟨fd, F⟩ := T.d__law_moved
  refine ⟨_, fd, ?_, T.g__law_moved, F.kp, F.bindsN fun _ _ _ _ _ _ us hl => match us, hl with | [_, _], _ => rfl⟩
  refine F.ok sc__law_moved (fun vs H Q E h => ?_) (fun cdv A outer s H vs Q E hr h => ?_)
  ·
    repeat first | (obtain ⟨rfl, _⟩ := h; rfl) | (obtain ⟨_, h⟩ := h)
  · have hu := hu_room hr
    refine ⟨_, PSs.nox ((pss_cons (ps_set (i := 2) sc__law_moved.nd rfl (by first | exact Or.inl rfl | exact Or.inr rfl) (pe_lc (own := [("_law_row", 3)]) (by rfl) sc__law_moved.nd (pi_listQ (K := K) rfl (pv 0)) (blkOk_by (N := ["_law_rows", "_law_way", "_law_found", "_law_row", "_law_turn", "_law_wide", "_law_at", "_law_k"]) (sc := defScope s__law_moved) (by decide +kernel)) (fun _ _ _ _ _ => (pg_name (i := 3) sc__law_moved.nd rfl (by first | exact Or.inl rfl | exact Or.inr rfl))) (fun _ _ _ _ _ => pts_nil) (fun _ _ _ _ _ => (pe_callTy (lstQ (K := K) rfl) (by rfl) T.z_list (by decide +kernel) (pa_cons (pv 3) pa_nil)))))
    (pss_cons (ps_if (pt_cmpR op_eq (pe_ix (ixT (K := K) rfl) (pv 1) pe_int (fun _ _ => rfl)) pe_int (nomark _)) (pss_one (ps_set (i := 2) sc__law_moved.nd rfl (by first | exact Or.inl rfl | exact Or.inr rfl) (pe_lc (own := [("_law_row", 3)]) (by rfl) sc__law_moved.nd (pi_listQ (K := K) rfl (pv 2)) (blkOk_by (N := ["_law_rows", "_law_way", "_law_found", "_law_row", "_law_turn", "_law_wide", "_law_at", "_law_k"]) (sc := defScope s__law_moved) (by decide +kernel)) (fun _ _ _ _ _ => (pg_name (i := 3) sc__law_moved.nd rfl (by first | exact Or.inl rfl | exact Or.inr rfl))) (fun _ _ _ _ _ => pts_nil) (fun _ _ _ _ _ => (pe_revLQ (K := K) rfl (pv 3)))))) pss_nil)
    (pss_cons (ps_for PassesOwn.never rfl (pi_range1 (by rfl) T.z_range (pa_cons (pe_ix (ixT (K := K) rfl) (pv 1) pe_int (fun _ _ => rfl)) pa_nil)) (pg_name (i := 4) sc__law_moved.nd rfl (by first | exact Or.inl rfl | exact Or.inr rfl)) (pss_cons (ps_set (i := 5) sc__law_moved.nd rfl (by first | exact Or.inl rfl | exact Or.inr rfl) (pe_callB (lenQ (K := K) rfl) (by rfl) T.z_len (by decide +kernel) (pa_cons (pe_ix (ixL (K := K) rfl) (pv 2) pe_int (fun _ _ => rfl)) pa_nil)))
    (pss_one (ps_set (i := 2) sc__law_moved.nd rfl (by first | exact Or.inl rfl | exact Or.inr rfl) (pe_lc (own := [("_law_k", 7)]) (by rfl) sc__law_moved.nd (pi_range1 (by rfl) T.z_range (pa_cons (pv 5) pa_nil)) (blkOk_by (N := ["_law_rows", "_law_way", "_law_found", "_law_row", "_law_turn", "_law_wide", "_law_at", "_law_k"]) (sc := defScope s__law_moved) (by decide +kernel)) (fun _ _ _ _ _ => (pg_name (i := 7) sc__law_moved.nd rfl (by first | exact Or.inl rfl | exact Or.inr rfl))) (fun _ _ _ _ _ => pts_nil) (fun _ _ _ _ _ => (pe_lc (own := [("_law_at", 6)]) (by rfl) sc__law_moved.nd (pi_range1 (by rfl) T.z_range (pa_cons (pe_callB (lenQ (K := K) rfl) (by rfl) T.z_len (by decide +kernel) (pa_cons (pv 2) pa_nil)) pa_nil)) (blkOk_by (by kernel_rfl)) (fun _ _ _ _ _ => (pg_name (i := 6) sc__law_moved.nd rfl (by first | exact Or.inl rfl | exact Or.inr rfl))) (fun _ _ _ _ _ => pts_nil) (fun _ _ _ _ _ => (pe_ix (ixL (K := K) rfl) (pe_ix (ixL (K := K) rfl) (pv 2) (pv 6) (fun _ _ => rfl)) (pe_op op_sub (pe_op op_sub (pv 5) pe_int) (pv 7)) (fun _ _ => rfl))))))))))
    (pss_one (ps_ret (pv 2))))))), ?_⟩
    obtain ⟨v, m, Pc, hh, ww, t, s, wy, rfl, hT, hd, hp, h1, w1, h2, w2, t2, q⟩ := h
    obtain ⟨a, xs, rfl, hS, hl, hrow⟩ := dt_mat hd
    have hml := hp.hi
    dsimp only [tSeq, tAsg]
    refine lc_of ?_
    refine ⟨.ref a, rfl, a, rfl, ⟨_, sql_of hS⟩, comp_matL (m := m0) (F := H) (wd0 (Same.refl H)) m hl.symm (sql_of hS) (by omega) (fun r => r) (by exact fun _ => rfl) ?_ ?_⟩
    · intro i r x H1 hi hx g Q1 k1
      obtain ⟨b, hb1, hb2⟩ := hrow i r hi
      rw [hx] at hb1
      cases hb1
      have w1 := g.wd (wd0 (Same.refl H))
      exact ⟨.ref b, rfl, b, _, rfl, .inl (sql_of (g.s _ _ hb2)), fun l hl => k1 l _ hl (Gr.pure w1 (same_new hl)) upd_same⟩
    intro p rs H1 g1 M1
    rw [List.map_id'] at M1
    have s1 : Same H H1 := g1.s
    clear g1
    -- behind the first copy
    have rest : ∀ (p : Addr) (rs : List Addr) (H1 : Hp) (b : List (List Int)) (y3 : Option V), Same H H1 → MatF H H1 p rs b → (∀ n, (n % 2 = 0 → PicP Pc hh ww (turnsT n b)) ∧ (n % 2 = 1 → PicP Pc ww hh (turnsT n b))) → turnsT t b = moveT m t s →
        tSeq (tFor (iRng1 (tCons (tOp (rIxT K) (tVar 1) (tC (V.int 0))) tNil)) (gName 4)
              (tSeq (tAsg (tCB (rLenQ K) (tCons (tOp (rIxL K) (tVar 2) (tC (V.int 0))) tNil)) (gName 5))
                (tAsg
                  (tLc (iRng1 (tCons (tVar 5) tNil)) (gName 7) tYes
                    (tLc (iRng1 (tCons (tCB (rLenQ K) (tCons (tVar 2) tNil)) tNil)) (gName 6) tYes
                      (tOp (rIxL K) (tOp (rIxL K) (tVar 2) (tVar 6))
                        (tOp (rI0 fun i j => V.int (i - j)) (tOp (rI0 fun i j => V.int (i - j)) (tVar 5) (tC (V.int 1)))
                          (tVar 7)))
                      [6])
                    [7])
                  (gName 2))))
            (tRet (tVar 2)) { nx := fun x H' => Q V.non H', rt := Q } [some (.ref a), some (.ref wy), some (.ref p), y3, none, none, none, none] H1 := by
      intro p rs H1 b y3 s1 M hb et
      try dsimp only [tSeq]
      refine for_of ?_
      refine ⟨_, rfl, wy, _, 0, _, rfl, rfl, Evl.ex_t s1 hT, atI_nat (j := 0) rfl, t, rfl, by omega, by omega, ?_⟩
      have e1 : ((t : Nat) : Int).toNat = t := by omega
      rw [e1]
      refine forin_range (fun i σ H' => ∃ y3 y4 y5 y6 y7 p rs, σ = [some (.ref a), some (.ref wy), some (.ref p), y3, y4, y5, y6, y7] ∧ Same H H' ∧ MatF H H' p rs (turnsT i b)) ⟨_, _, _, _, _, p, rs, rfl, s1, M⟩ ?_ ?_
      · rintro i σ H3 hi ⟨y3, y4, y5, y6, y7, p, rs, rfl, s3, M3⟩
        have hcase : ∃ h w, PicP Pc h w (turnsT i b) ∧ 1 ≤ h ∧ 1 ≤ w ∧ h ≤ 1000 ∧ w ≤ 1000 := by
          by_cases e : i % 2 = 0
          · exact ⟨hh, ww, (hb i).1 e, h1, w1, h2, w2⟩
          · exact ⟨ww, hh, (hb i).2 (by omega), w1, h1, w2, h2⟩
        obtain ⟨h', w', hp', a1, a2, a3, a4⟩ := hcase
        have et3 : turnsT (i + 1) b = turnT (turnsT i b) := rfl
        rw [et3]
        generalize turnsT i b = c at hp' M3
        obtain ⟨p0, zs, ep, hS3, hl3, hrow3⟩ := dt_mat (M3.dp (K := K))
        cases ep
        have hcl := hp'.hi
        obtain ⟨b0, hc1, hc2⟩ := hrow3 0 _ (List.getElem?_eq_getElem (by omega))
        have hw0 : (c[0]'(by omega)).length = w' := hp'.wi _ (List.getElem_mem _)
        refine ⟨.ref p, rfl, p, _, 0, _, rfl, rfl, sql_of hS3, atI_nat (j := 0) hc1, b0, _, rfl, .inl (sql_of hc2), ?_⟩
        rw [List.length_map, hw0]
        dsimp only [gName, tAsg]
        refine lc_of ?_
        refine ⟨_, rfl, w', rfl, by omega, by omega, comp_matR (m := m0) (F := H3) (n := w') (wd0 (Same.refl H3)) (by omega) (fun k => c.map fun r => r.getD (w' - 1 - k) 0) (by exact fun _ => rfl) ?_ ?_⟩
        · intro k H4 hk g Q1 k1
          have ek : (0 : Int) + (k : Int) = ((k : Nat) : Int) := by omega
          rw [ek]
          have wd1 := g.wd (wd0 (Same.refl H3))
          refine lc_of ?_
          refine ⟨.ref p, rfl, p, zs, rfl, .inl (sql_of (g.s _ _ hS3)), _, rfl, by omega, by omega, ?_⟩
          have e2 : ((zs.length : Nat) : Int).toNat = c.length := by omega
          rw [e2]
          refine comp_range (m := m0) (F := H3) wd1 (by omega) (fun j y _ => y = .int ((c.getD j []).getD (w' - 1 - k) 0)) (fun _ _ _ _ _ h => h) (by exact fun _ => rfl) ?_ ?_
          · intro j F5 H5 hj g5 Q2 k2
            have ej : (0 : Int) + (j : Int) = ((j : Nat) : Int) := by omega
            rw [ej]
            have hcj : c[j]? = some c[j] := List.getElem?_eq_getElem hj
            obtain ⟨bj, hb1, hb2⟩ := hrow3 j _ hcj
            have hrl := hp'.wi _ (List.getElem_mem hj)
            have hk2 : w' - 1 - k < (c[j]).length := by omega
            have s5 := g5.s
            refine ⟨.ref p, rfl, .int j, rfl, p, zs, j, _, rfl, rfl, sql_of (s5 _ _ (g5.f _ _ hS3)), atI_of hb1, .int w', rfl, w', 1, rfl, rfl, .int k, rfl, _, k, rfl, rfl, bj, _, ((w' - 1 - k : Nat) : Int), _, rfl, ?_, sql_of (s5 _ _ (g5.f _ _ hb2)), atI_of (map_get (List.getElem?_eq_getElem hk2)), ?_⟩
            · show V.int ((w' : Int) - 1 - (k : Int)) = V.int ((w' - 1 - k : Nat) : Int)
              congr 1
              omega
            · refine k2 _ F5 H5 (Gr.refl (g5.wd wd1)) ?_
              rw [getD_get hcj, getD_get (List.getElem?_eq_getElem hk2)]
          · intro D ys F5 H5 hD g5 e pr
            have ey := paired_eq (f := fun j : Nat => V.int ((c.getD j []).getD (w' - 1 - k) 0)) pr
            refine k1 D H5 hD (Gr.pure wd1 fun b o z => g5.h b o (fun y => y) z) ?_
            rw [g5.s _ _ e, ey, ← range_getD (fun r : List Int => r.getD (w' - 1 - k) 0) [] c, List.map_map]
            rfl
        · intro D rs4 H4 g M4
          refine ⟨_, _, _, _, _, D, rs4, rfl, s3.trans g.s, ?_⟩
          have M5 := M4.back s3
          unfold turnT
          rw [hp'.head a1]
          exact M5
      · rintro σ H' ⟨y3, y4, y5, y6, y7, p, rs, rfl, s2, M2⟩
        refine ⟨_, rfl, q p rs H' s2 ?_⟩
        rw [← et]
        exact M2
    refine ⟨.ref wy, rfl, wy, _, 1, _, rfl, rfl, Evl.ex_t s1 hT, atI_nat (j := 1) rfl, rfl, _, rfl, ite2 (fun e => ?_) (fun e => ?_)⟩
    · have e1 : s = 1 := by
        have := V.int.inj (of_decide_eq_true e)
        omega
      obtain ⟨p0, zs, ep, hS3, hl3, hrow3⟩ := dt_mat (M1.dp (K := K))
      cases ep
      dsimp only [gName, tAsg]
      refine lc_of ?_
      refine ⟨.ref p, rfl, p, rfl, ⟨_, sql_of hS3⟩, comp_matL (m := m0) (F := H1) (wd0 (Same.refl H1)) m hl3.symm (sql_of hS3) (by omega) List.reverse (by exact fun _ => rfl) ?_ ?_⟩
      · intro i r x H2 hi hx g Q1 k1
        obtain ⟨b, hb1, hb2⟩ := hrow3 i r hi
        rw [hx] at hb1
        cases hb1
        have w1 := g.wd (wd0 (Same.refl H1))
        exact ⟨.ref b, rfl, b, _, rfl, sql_of (g.s _ _ hb2), fun l hl => k1 l _ hl (Gr.pure w1 (same_new hl)) (by rw [upd_same, List.map_reverse])⟩
      · intro D rs2 H2 g M2
        refine rest D rs2 H2 (mirT m) _ (s1.trans g.s) (M2.back s1) (turns_hw (mir_hw hp) h1 w1) ?_
        unfold moveT
        rw [if_pos e1]
    · have e1 : ¬ s = 1 := fun z => e (decide_eq_true (by rw [z]; rfl))
      refine rest p rs H1 m _ s1 M1 (turns_hw hp h1 w1) ?_
      unfold moveT
      rw [if_neg e1]
theorem sc__law_near : FnScope ["_law_d", "_law_rows", "_law_kind", "_law_ways_here", "_law_found", "_law_turn", "_law_at", "_law_k"] ["_law_d", "_law_rows", "_law_kind"] (defScope s__law_near) := ⟨rfl, rfl, rfl, by decide +kernel, rfl, by decide +kernel, by decide +kernel⟩
theorem has__law_near {P : Program} {w : World} {K : PySem.W.Frag} {mg : Str → Option Value} {base : Heap} {k : Nat} (T : Tx w K mg) (G__law_off : Has P w K mg base (k) "_law_off" ["_law_d", "_law_most"] (sp__law_off K)) (G__law_moved : Has P w K mg base (k) "_law_moved" ["_law_rows", "_law_way"] (sp__law_moved K)) (G__law_ways : Has P w K mg base (k) "_law_ways" ["_law_kind"] (sp__law_ways K)) : Has P w K mg base (k + 1) "_law_near" ["_law_d", "_law_rows", "_law_kind"] (sp__law_near K) := by
  obtain ⟨fd, F⟩ := T.d__law_near
  refine ⟨_, fd, ?_, T.g__law_near, F.kp, F.bindsN fun _ _ _ _ _ _ us hl => match us, hl with | [_, _, _], _ => rfl⟩
  refine F.ok sc__law_near (fun vs H Q E h => ?_) (fun cdv A outer s H vs Q E hr h => ?_)
  ·
    repeat first | (obtain ⟨rfl, _⟩ := h; rfl) | (obtain ⟨_, h⟩ := h)
  · have hu := hu_room hr
    refine ⟨_, PSs.nox ((pss_cons (ps_set (i := 3) sc__law_near.nd rfl (by first | exact Or.inl rfl | exact Or.inr rfl) (pe_fn G__law_ways hr (by rfl) (pa_cons (pv 2) pa_nil)))
    (pss_cons (ps_set (i := 4) sc__law_near.nd rfl (by first | exact Or.inl rfl | exact Or.inr rfl) (pe_fn G__law_moved hr (by rfl) (pa_cons (pv 1) (pa_cons (pe_ix (ixL (K := K) rfl) (pv 3) (pe_fn G__law_off hr (by rfl) (pa_cons (pv 0) (pa_cons (pe_callB (lenQ (K := K) rfl) (by rfl) T.z_len (by decide +kernel) (pa_cons (pv 3) pa_nil)) pa_nil))) (fun _ _ => rfl)) pa_nil))))
    (pss_cons (ps_for PassesOwn.never rfl (pi_range1 (by rfl) T.z_range (pa_cons (pe_fn G__law_off hr (by rfl) (pa_cons (pv 0) (pa_cons pe_int pa_nil))) pa_nil)) (pg_name (i := 5) sc__law_near.nd rfl (by first | exact Or.inl rfl | exact Or.inr rfl)) (pss_cons (ps_set (i := 6) sc__law_near.nd rfl (by first | exact Or.inl rfl | exact Or.inr rfl) (pe_fn G__law_off hr (by rfl) (pa_cons (pv 0) (pa_cons (pe_callB (lenQ (K := K) rfl) (by rfl) T.z_len (by decide +kernel) (pa_cons (pv 4) pa_nil)) pa_nil))))
    (pss_cons (ps_set (i := 7) sc__law_near.nd rfl (by first | exact Or.inl rfl | exact Or.inr rfl) (pe_fn G__law_off hr (by rfl) (pa_cons (pv 0) (pa_cons (pe_callB (lenQ (K := K) rfl) (by rfl) T.z_len (by decide +kernel) (pa_cons (pe_ix (ixL (K := K) rfl) (pv 4) pe_int (fun _ _ => rfl)) pa_nil)) pa_nil))))
    (pss_one (ps_asg (pe_callB (call_max2 rfl) (by rfl) T.z_max (by decide +kernel) (pa_cons pe_int (pa_cons (pe_callB (call_min2 rfl) (by rfl) T.z_min (by decide +kernel) (pa_cons pe_int (pa_cons (pe_op op_sub (pe_op op_add (pe_ix (ixL (K := K) rfl) (pe_ix (ixL (K := K) rfl) (pv 4) (pv 6) (fun _ _ => rfl)) (pv 7) (fun _ _ => rfl)) (pe_fn G__law_off hr (by rfl) (pa_cons (pv 0) (pa_cons pe_int pa_nil)))) pe_int) pa_nil))) pa_nil))) (pg_sub (pe_ix (ixL (K := K) rfl) (pv 4) (pv 6) (fun _ _ => rfl)) (pv 7) set_list))))))
    (pss_one (ps_ret (pv 4))))))), ?_⟩
    obtain ⟨F, d, v, m, hh, ww, kind, rfl, wd, dv, hp, h1, w1, h2, w2, kf, q⟩ := h
    obtain ⟨wr, ewr⟩ := ways_ne kf.1
    have hlen : 1 ≤ (waysT kind).length ∧ (waysT kind).length ≤ 100 := by
      have h2 := kind_mem kf.1
      generalize waysT kind = ws at h2
      simp only [kindsTab, List.mem_cons, Prod.mk.injEq, List.not_mem_nil, or_false] at h2
      rcases h2 with ⟨_, rfl⟩ | ⟨_, rfl⟩ | ⟨_, rfl⟩ | ⟨_, rfl⟩ | ⟨_, rfl⟩ | ⟨_, rfl⟩ <;> decide
    refine ⟨.str kind, rfl, F, kind, rfl, wd0 wd.s, kf.1, fun a ws F1 H1 g1 hA aA => ?_⟩
    have g1 := Gr.up wd g1
    have wd1 := g1.wd wd
    have hlw := dtAll_len aA
    rw [List.length_map] at hlw
    refine ⟨v, rfl, .ref a, rfl, .ref d, rfl, .ref a, rfl, a, ws, rfl, .inl (sql_of (wd1.s _ _ hA)), d, _, rfl, wd1.j, by omega, by omega, fun i ms i0 i1 hm => ?_⟩
    have g2 := gr_dice wd1 hm
    have g12 := g1.trans wd g2
    have wd2 := g12.wd wd
    generalize upd H1 d (.lst (ms.map V.int)) = H2 at g2 g12 wd2
    have hi : i.toNat < (waysT kind).length := by omega
    have hq : (waysT kind)[i.toNat]? = some ((waysT kind)[i.toNat]) := List.getElem?_eq_getElem hi
    generalize (waysT kind)[i.toNat] = qw at hq
    have hqm := List.mem_of_getElem? hq
    have lt3 := (ways_lt kf.1 qw hqm).1
    obtain ⟨x, hx1, hx2⟩ := dtAll_get aA (map_get hq)
    obtain ⟨Ty, rfl, hTy⟩ := dt_way hx2
    refine ⟨a, ws, i, .ref Ty, rfl, rfl, sql_of (wd2.s _ _ hA), atI_ofI i0 hx1, ?_⟩
    refine ⟨v, m, _, hh, ww, qw.1, qw.2, Ty, rfl, Evl.ex_t wd2.s hTy, (dv.up g1.f).up wd2.s, hp, h1, w1, by omega, by omega, by omega, fun p rs H3 s3 M3 => ?_⟩
    have hp3 := kf.pic hp h1 w1 hqm
    generalize moveT m qw.1 qw.2 = m3 at M3 hp3
    have g3 := g12.trans wd (Gr.up wd2 (Gr.pure (wd0 wd2.s) s3))
    have wd3 := g3.wd wd
    have zH : ∀ b, b ∈ p :: rs → H b = none ∧ F1 b = none := fun b hb => by
      have := M3.new b hb
      exact ⟨g12.same wd this, g12.s.free this⟩
    try dsimp only [tNext, tSeq]
    refine for_of ?_
    refine ⟨.ref d, rfl, d, 4, rfl, wd3.j, by decide, by decide, fun n ms n0 n1 hm => ⟨n, rfl, by omega, by omega, ?_⟩⟩
    have g4 := g3.trans wd (gr_dice wd3 hm)
    have M4 := M3.gr (fun b hb => wd2.nM hb) (gr_dice wd3 hm)
    generalize upd H3 d (.lst (ms.map V.int)) = H4 at g4 M4
    refine forin_range (fun i σ H' => ∃ m' y5 y6 y7, σ = [some (.ref d), some v, some (.str kind), some (.ref a), some (.ref p), y5, y6, y7] ∧ Gr (mD d) F H F1 H' ∧ MatF H2 H' p rs m' ∧ PicHW hh ww m') ⟨m3, _, _, _, rfl, g4, M4, hp3⟩ ?_ ?_
    · rintro j σ H5 hj ⟨m5, y5, y6, y7, rfl, g5, M5, hp5⟩
      have wd5 := g5.wd wd
      have l5 : rs.length = hh := by rw [M5.len, hp5.hi]
      refine ⟨.ref d, rfl, .ref p, rfl, p, _, rfl, .inl (sql_of M5.top), d, _, rfl, wd5.j, by rw [List.length_map]; omega, by rw [List.length_map]; omega, fun i ms i0 i1 hm => ?_⟩
      rw [List.length_map, l5] at i1
      have g6 := gr_dice wd5 hm
      have M6 := M5.gr (fun b hb => wd2.nM hb) g6
      have wd6 := g6.wd wd5
      have g06 := g5.trans wd g6
      generalize upd H5 d (.lst (ms.map V.int)) = H6 at g6 M6 wd6 g06
      obtain ⟨i, rfl⟩ := Int.eq_ofNat_of_zero_le i0
      obtain ⟨r0, e0, f0, _⟩ := hp5.row (i := 0) (by omega)
      obtain ⟨ri, ei, fi, _⟩ := hp5.row (i := i) (by omega)
      have a0 : rs[0]? = some (rs[0]'(by omega)) := List.getElem?_eq_getElem (by omega)
      have ai : rs[i]? = some (rs[i]'(by omega)) := List.getElem?_eq_getElem (by omega)
      generalize rs[0]'(by omega) = b0 at a0
      generalize rs[i]'(by omega) = bi at ai
      refine ⟨.ref d, rfl, .ref p, rfl, p, _, 0, .ref b0, rfl, rfl, sql_of M6.top, atI_nat (j := 0) (map_get a0), b0, _, rfl, .inl (sql_of (M6.row 0 r0 b0 e0 a0)), d, _, rfl, wd6.j, by rw [List.length_map]; omega, by rw [List.length_map]; omega, fun k ms k0 k1 hm2 => ?_⟩
      rw [List.length_map, f0] at k1
      have g7 := gr_dice wd6 hm2
      have M7 := M6.gr (fun b hb => wd2.nM hb) g7
      have wd7 := g7.wd wd6
      have g07 := g06.trans wd g7
      generalize upd H6 d (.lst (ms.map V.int)) = H7 at g7 M7 wd7 g07
      obtain ⟨k, rfl⟩ := Int.eq_ofNat_of_zero_le k0
      have ek : ri[k]? = some (ri[k]'(by omega)) := List.getElem?_eq_getElem (by omega)
      generalize ri[k]'(by omega) = c at ek
      refine ⟨.ref p, rfl, .int i, rfl, p, _, i, .ref bi, rfl, rfl, sql_of M7.top, atI_of (map_get ai), .int k, rfl, bi, _, k, .int c, rfl, rfl, sql_of (M7.row i ri bi ei ai), atI_of (map_get ek), ?_⟩
      refine ⟨.ref d, rfl, d, 5, rfl, wd7.j, by decide, by decide, fun z ms z0 z1 hm3 => ?_⟩
      have g8 := gr_dice wd7 hm3
      have M8 := M7.gr (fun b hb => wd2.nM hb) g8
      have wd8 := g8.wd wd7
      have g08 := g07.trans wd g8
      generalize upd H7 d (.lst (ms.map V.int)) = H8 at g8 M8 wd8 g08
      refine ⟨c, z, rfl, rfl, _, _, rfl, rfl, _, _, rfl, _, _, rfl, ?_⟩
      generalize hcc : (if (if c + z - 2 < 255 then c + z - 2 else 255) > 0 then (if c + z - 2 < 255 then c + z - 2 else 255) else 0) = cc
      have hc : 0 ≤ cc ∧ cc ≤ 255 := by
        subst hcc
        split <;> split <;> omega
      have top8 := M8.top
      have row8 := M8.row i ri bi ei ai
      refine ⟨.ref p, rfl, .int i, rfl, p, _, i, .ref bi, rfl, rfl, sql_of top8, atI_of (map_get ai), .int k, rfl, bi, _, _, k, rfl, rfl, row8, ixN_of (by rw [List.length_map]; omega), ?_⟩
      have hb := zH bi (List.mem_cons_of_mem _ (List.mem_of_getElem? ai))
      have g9 := g08.wr (o := .lst ((ri.set k cc).map V.int)) wd hb.1 hb.2
      have M9 := M8.set (j := k) (c := cc) ei ai
      refine ⟨m5.set i (ri.set k cc), some (.int (0 + (j : Int))), some (.int i), some (.int k), ?_, ?_, ?_, hp5.set ei hc⟩
      · rfl
      · rw [← List.map_set] at *
        subst hcc
        exact g9
      · subst hcc
        rw [List.map_set] at M9
        exact M9
    · rintro σ H5 ⟨m5, y5, y6, y7, rfl, g5, M5, hp5⟩
      exact ⟨.ref p, rfl, q (.ref p) m5 _ _ (gr_all wd g5 (fun b hb => (zH b hb).1) fun b hb => (zH b hb).2) hp5 M5.frz⟩
theorem sc_law : FnScope ["_law_script", "_law_d", "_law_high", "_law_wide", "_law_kind", "_law_one", "_law_two", "_law_three", "_law_fars", "_law_backs", "_law_way", "_law_k"] ["_law_script"] (defScope s_law) := ⟨rfl, rfl, rfl, by decide +kernel, rfl, by decide +kernel, by decide +kernel⟩
theorem ok_law {P : Program} {w : World} {K : PySem.W.Frag} {mg : Str → Option Value} {base : Heap} {k : Nat} {f : Addr} {fd : FuncData} (T : Tx w K mg) (G__law_ways : Has P w K mg base (k) "_law_ways" ["_law_kind"] (sp__law_ways K)) (G_apart : Has P w K mg base (k) "apart" ["one", "other", "kind"] (sp_apart K)) (G_moved : Has P w K mg base (k) "moved" ["rows", "way"] (sp_moved K)) (G__law_near : Has P w K mg base (k) "_law_near" ["_law_d", "_law_rows", "_law_kind"] (sp__law_near K)) (G__law_cells : Has P w K mg base (k) "_law_cells" ["_law_d", "_law_high", "_law_wide"] (sp__law_cells K)) (G__law_off : Has P w K mg base (k) "_law_off" ["_law_d", "_law_most"] (sp__law_off K)) (G__law_frame : Has P w K mg base (k) "_law_frame" ["_law_d"] (sp__law_frame K)) (G__law_dice : Has P w K mg base (k) "_law_dice" ["_law_script", "_law_k"] (sp__law_dice K)) (F : FunD K "law" "law" (defArgs s_law) (defBody s_law) (defScope s_law) [] [] f fd) : FnOk P w K mg base (L2.CX P w) (k + 1) f fd ["_law_script"] (sp_law K) := by
  refine F.ok sc_law (fun vs H Q E h => ?_) (fun cdv A outer s H vs Q E hr h => ?_)
  ·
    repeat first | (obtain ⟨rfl, _⟩ := h; rfl) | (obtain ⟨_, h⟩ := h)
  · have hu := hu_room hr
    refine ⟨_, PSs.nox ((pss_cons (ps_set (i := 1) sc_law.nd rfl (by first | exact Or.inl rfl | exact Or.inr rfl) (pe_fn G__law_dice hr (by rfl) (pa_cons (pv 0) (pa_cons pe_int pa_nil))))
    (pss_cons (ps_asg (pe_fn G__law_frame hr (by rfl) (pa_cons (pv 1) pa_nil)) (pg_tupQ (K := K) (n := 3) rfl rfl (pgs_cons (pg_name (i := 2) sc_law.nd rfl (by first | exact Or.inl rfl | exact Or.inr rfl)) (pgs_cons (pg_name (i := 3) sc_law.nd rfl (by first | exact Or.inl rfl | exact Or.inr rfl)) (pgs_cons (pg_name (i := 4) sc_law.nd rfl (by first | exact Or.inl rfl | exact Or.inr rfl)) pgs_nil)))))
    (pss_cons (ps_set (i := 5) sc_law.nd rfl (by first | exact Or.inl rfl | exact Or.inr rfl) (pe_fn G__law_cells hr (by rfl) (pa_cons (pv 1) (pa_cons (pv 2) (pa_cons (pv 3) pa_nil)))))
    (pss_cons (ps_set (i := 6) sc_law.nd rfl (by first | exact Or.inl rfl | exact Or.inr rfl) (pe_fn G__law_near hr (by rfl) (pa_cons (pv 1) (pa_cons (pv 5) (pa_cons (pv 4) pa_nil)))))
    (pss_cons (ps_set (i := 7) sc_law.nd rfl (by first | exact Or.inl rfl | exact Or.inr rfl) (pe_ix (ixL (K := K) rfl) (pe_lst (pa_cons (pe_fn G__law_cells hr (by rfl) (pa_cons (pv 1) (pa_cons (pv 2) (pa_cons (pv 3) pa_nil)))) (pa_cons (pe_fn G__law_near hr (by rfl) (pa_cons (pv 1) (pa_cons (pv 6) (pa_cons (pv 4) pa_nil)))) pa_nil))) (pe_fn G__law_off hr (by rfl) (pa_cons (pv 1) (pa_cons pe_int pa_nil))) (fun _ _ => rfl)))
    (pss_cons (ps_set (i := 8) sc_law.nd rfl (by first | exact Or.inl rfl | exact Or.inr rfl) (pe_lst (pa_cons (pe_ix (ixT (K := K) rfl) (pe_fn G_apart hr (by rfl) (pa_cons (pv 5) (pa_cons (pv 6) (pa_cons (pv 4) pa_nil)))) pe_int (fun _ _ => rfl)) (pa_cons (pe_ix (ixT (K := K) rfl) (pe_fn G_apart hr (by rfl) (pa_cons (pv 6) (pa_cons (pv 7) (pa_cons (pv 4) pa_nil)))) pe_int (fun _ _ => rfl)) (pa_cons (pe_ix (ixT (K := K) rfl) (pe_fn G_apart hr (by rfl) (pa_cons (pv 5) (pa_cons (pv 7) (pa_cons (pv 4) pa_nil)))) pe_int (fun _ _ => rfl)) pa_nil)))))
    (pss_cons (ps_set (i := 9) sc_law.nd rfl (by first | exact Or.inl rfl | exact Or.inr rfl) (pe_lst (pa_cons (pe_ix (ixT (K := K) rfl) (pe_fn G_apart hr (by rfl) (pa_cons (pv 6) (pa_cons (pv 5) (pa_cons (pv 4) pa_nil)))) pe_int (fun _ _ => rfl)) (pa_cons (pe_ix (ixT (K := K) rfl) (pe_fn G_apart hr (by rfl) (pa_cons (pv 7) (pa_cons (pv 6) (pa_cons (pv 4) pa_nil)))) pe_int (fun _ _ => rfl)) (pa_cons (pe_ix (ixT (K := K) rfl) (pe_fn G_apart hr (by rfl) (pa_cons (pv 7) (pa_cons (pv 5) (pa_cons (pv 4) pa_nil)))) pe_int (fun _ _ => rfl)) pa_nil)))))
    (pss_cons (ps_if (PW.pt (pw_or (pt_cmpR (neQ (K := K) rfl hr.units) (pv 8) (pv 9) (nomark _)) (pw_or1 (pt_cmpR (neQ (K := K) rfl hr.units) (pe_fn G_apart hr (by rfl) (pa_cons (pv 5) (pa_cons (pv 5) (pa_cons (pv 4) pa_nil)))) (pe_tup (pa_cons pe_int (pa_cons (pe_tup (pa_cons pe_int (pa_cons pe_int pa_nil))) pa_nil))) (nomark _))))) (pss_one (ps_ret pe_bl)) pss_nil)
    (pss_cons (ps_for PassesOwn.never rfl (pi_listQ (K := K) rfl (pe_fn G__law_ways hr (by rfl) (pa_cons (pv 4) pa_nil))) (pg_name (i := 10) sc_law.nd rfl (by first | exact Or.inl rfl | exact Or.inr rfl)) (pss_one (ps_if (PW.pt (pw_or (pt_cmpR op_ne (pe_ix (ixT (K := K) rfl) (pe_fn G_apart hr (by rfl) (pa_cons (pv 5) (pa_cons (pe_fn G_moved hr (by rfl) (pa_cons (pv 5) (pa_cons (pv 10) pa_nil))) (pa_cons (pv 4) pa_nil)))) pe_int (fun _ _ => rfl)) pe_int (nomark _)) (pw_or1 (pt_cmpR op_ne (pe_ix (ixT (K := K) rfl) (pe_fn G_apart hr (by rfl) (pa_cons (pe_fn G_moved hr (by rfl) (pa_cons (pv 5) (pa_cons (pv 10) pa_nil))) (pa_cons (pv 7) (pa_cons (pv 4) pa_nil)))) pe_int (fun _ _ => rfl)) (pe_ix (ixL (K := K) rfl) (pv 8) pe_int (fun _ _ => rfl)) (nomark _))))) (pss_one (ps_ret pe_bl)) pss_nil)))
    (pss_cons (ps_for PassesOwn.never rfl (pi_range1 (by rfl) T.z_range (pa_cons pe_int pa_nil)) (pg_name (i := 11) sc_law.nd rfl (by first | exact Or.inl rfl | exact Or.inr rfl)) (pss_one (ps_if (pt_cmpR op_gt (pe_ix (ixL (K := K) rfl) (pv 8) (pv 11) (fun _ _ => rfl)) (pe_op op_add (pe_ix (ixL (K := K) rfl) (pv 8) (pe_op op_mod (pe_op op_add (pv 11) pe_int) pe_int) (fun _ _ => rfl)) (pe_ix (ixL (K := K) rfl) (pv 8) (pe_op op_mod (pe_op op_add (pv 11) pe_int) pe_int) (fun _ _ => rfl))) (nomark _)) (pss_one (ps_ret pe_bl)) pss_nil)))
    (pss_one (ps_ret pe_bl))))))))))))), ?_⟩
    obtain ⟨a, ns, rfl, hS, hlen, q⟩ := h
    refine ⟨.ref a, rfl, a, ns, rfl, hS, hlen, fun d ms H1 s1 zd hd hL => ?_⟩
    have w1 : Wd (mD d) H H1 := ⟨s1, fun b e => by rw [show b = d from e]; exact zd, ⟨ms, hd, hL⟩⟩
    refine ⟨.ref d, rfl, H, d, rfl, w1, fun TT F2 H2 hh ww kind g2 hT a1 a2 b1 b2 kf => ?_⟩
    have w2 := g2.wd w1
    refine ⟨TT, _, rfl, Evl.ex_t w2.s hT, rfl, _, _, rfl, _, _, rfl, _, _, rfl, rfl, ?_⟩
    refine ⟨.ref d, rfl, .int hh, rfl, .int ww, rfl, F2, d, hh, ww, rfl, w2, by omega, by omega, fun v1 m1 F3 H3 g3 p1 d1 => ?_⟩
    have w3 := g3.wd w2
    refine ⟨.ref d, rfl, v1, rfl, .str kind, rfl, F3, d, v1, m1, hh, ww, kind, rfl, w3, d1, p1, a1, b1, by omega, by omega, kf, fun v2 m2 F4 H4 g4 p2 d2 => ?_⟩
    have w4 := g4.wd w3
    refine ⟨.ref d, rfl, .int hh, rfl, .int ww, rfl, F4, d, hh, ww, rfl, w4, by omega, by omega, fun v3 m3 F5 H5 g5 p3 d3 => ?_⟩
    have w5 := g5.wd w4
    refine ⟨.ref d, rfl, v2, rfl, .str kind, rfl, F5, d, v2, m2, hh, ww, kind, rfl, w5, d2.up g5.f, p2, a1, b1, by omega, by omega, kf, fun v4 m4 F6 H6 g6 p4 d4 => ?_⟩
    have w6 := g6.wd w5
    refine ⟨by show 2 ≤ sizeLine; decide, fun l hl => ?_⟩
    have g7 := (Gr.refl w6).new (o := .lst [v3, v4]) w6 hl
    have w7 := g7.wd w6
    refine ⟨.ref d, rfl, d, 2, rfl, w7.j, by decide, by decide, fun i ms i0 i1 hm => ?_⟩
    have w8 := (gr_dice w7 hm).wd w7
    have el : upd F6 l (.lst [v3, v4]) l = some (.lst [v3, v4]) := upd_same
    generalize upd F6 l (.lst [v3, v4]) = F7 at g7 w7 w8 el
    have d1 := ((d1.up g4.f).up g5.f).up (g6.f.trans g7.f)
    have d2 := (d2.up g5.f).up (g6.f.trans g7.f)
    have d3 := d3.up (g6.f.trans g7.f)
    have d4 := d4.up g7.f
    have s8 := w8.s
    generalize upd (upd H6 l (.lst [v3, v4])) d (.lst (ms.map V.int)) = H8 at w8 s8
    obtain ⟨v7, m7, e7, p7, d7⟩ : ∃ v m, ([v3, v4] : List V)[i.toNat]? = some v ∧ PicHW hh ww m ∧ Dt K F7 v (dMat m) := by
      have hi : i = 0 ∨ i = 1 := by omega
      rcases hi with rfl | rfl
      · exact ⟨v3, m3, rfl, p3, d3⟩
      · exact ⟨v4, m4, rfl, p4, d4⟩
    refine ⟨l, _, i, v7, rfl, rfl, sql_of (s8 _ _ el), atI_ofI i0 e7, ?_⟩
    clear w1 w2 w3 w4 w5 w6 w7 w8 g2 g3 g4 g5 g6 g7 d3 d4 p3 p4 hm hd hL hS
    have sh : hh ≤ 1000 := by omega
    have sw : ww ≤ 1000 := by omega
    -- apart(x, y, kind)[0]
    have ap : ∀ (i j : Nat) (σ : L2.St) (F H : Hp) (Q1 : VK) (x y : V) (ma mb : List (List Int)), σ[i]? = some (some x) → σ[j]? = some (some y) → σ[4]? = some (some (.str kind)) → Same F H → Dt K F x (dMat ma) → Dt K F y (dMat mb) → PicHW hh ww ma → PicHW hh ww mb → (∀ H2, Same H H2 → Q1 (.int (farT ma mb kind)) H2) →
        tOp (rIxT K) (tCall (sp_apart K) [] E0 (tCons (tVar i) (tCons (tVar j) (tCons (tVar 4) tNil)))) (tC (V.int 0)) σ H Q1 := by
      intro i j σ F H Q1 x y ma mb e1 e2 e3 sF da db pa pb q1
      refine ⟨x, e1, y, e2, .str kind, e3, F, x, y, ma, mb, _, hh, ww, kind, rfl, wd0 sF, da, db, pa, pb, a1, b1, sh, sw, kf, fun z F' H' g dz => ?_⟩
      obtain ⟨T, yw, rfl, hT, _⟩ := dt_far dz
      exact ⟨T, _, 0, _, rfl, rfl, Evl.ex_t g.s hT, atI_nat (j := 0) rfl, q1 H' fun b o e => g.h b o (fun z => z) e⟩
    refine ap 5 6 _ F7 H8 _ v1 v2 m1 m2 rfl rfl rfl s8 d1 d2 p1 p2 fun H9 s9 => ?_
    have s9 := s8.trans s9
    refine ap 6 7 _ F7 H9 _ v2 v7 m2 m7 rfl rfl rfl s9 d2 d7 p2 p7 fun H10 s10 => ?_
    have s10 := s9.trans s10
    refine ap 5 7 _ F7 H10 _ v1 v7 m1 m7 rfl rfl rfl s10 d1 d7 p1 p7 fun H11 s11 => ?_
    have s11 := s10.trans s11
    refine ⟨by show 3 ≤ sizeLine; decide, fun L hL => ?_⟩
    have e12 : upd H11 L (.lst [.int (farT m1 m2 kind), .int (farT m2 m7 kind), .int (farT m1 m7 kind)]) L = _ := upd_same
    have s12 := s11.trans (same_new (o := .lst [.int (farT m1 m2 kind), .int (farT m2 m7 kind), .int (farT m1 m7 kind)]) hL)
    generalize upd H11 L (.lst [.int (farT m1 m2 kind), .int (farT m2 m7 kind), .int (farT m1 m7 kind)]) = G at e12 s12
    have d1 := d1.up s12
    have d2 := d2.up s12
    have d7 := d7.up s12
    have sG : Same G G := Same.refl G
    refine ap 6 5 _ G G _ v2 v1 m2 m1 rfl rfl rfl sG d2 d1 p2 p1 fun H13 s13 => ?_
    refine ap 7 6 _ G H13 _ v7 v2 m7 m2 rfl rfl rfl s13 d7 d2 p7 p2 fun H14 s14 => ?_
    have s14 := s13.trans s14
    refine ap 7 5 _ G H14 _ v7 v1 m7 m1 rfl rfl rfl s14 d7 d1 p7 p1 fun H15 s15 => ?_
    have s15 := s14.trans s15
    refine ⟨by show 3 ≤ sizeLine; decide, fun L2 hL2 => ?_⟩
    have s16 := s15.trans (same_new (o := .lst [.int (farT m2 m1 kind), .int (farT m7 m2 kind), .int (farT m7 m1 kind)]) hL2)
    have y12 := far_symm kf p1 p2 a1 b1
    have y27 := far_symm kf p2 p7 a1 b1
    have y17 := far_symm kf p1 p7 a1 b1
    -- the two lists
    refine ⟨.ref L, rfl, .ref L2, rfl, neD_same (d := .list ([farT m1 m2 kind, farT m2 m7 kind, farT m1 m7 kind].map PyData.int)) (.lst (s16 _ _ e12) (dtAll_int [farT m1 m2 kind, farT m2 m7 kind, farT m1 m7 kind])) (.lst (by rw [upd_same, y12, y27, y17]; rfl) (dtAll_int [farT m1 m2 kind, farT m2 m7 kind, farT m1 m7 kind])) rfl (by show 1 ≤ 64; decide) ⟨false, rfl, iteF ?_⟩⟩
    generalize upd H15 L2 (.lst [.int (farT m2 m1 kind), .int (farT m7 m2 kind), .int (farT m7 m1 kind)]) = H16 at s16
    -- the one from itself
    refine ⟨v1, rfl, v1, rfl, .str kind, rfl, G, v1, v1, m1, m1, _, hh, ww, kind, rfl, wd0 s16, d1, d1, p1, p1, a1, b1, sh, sw, kf, fun z F' H' g dz => ?_⟩
    rw [apart_self kf p1 a1 b1] at dz
    refine ⟨by show 2 ≤ sizeLine; decide, fun T1 hT1 => ⟨by show 2 ≤ sizeLine; decide, fun T2 hT2 => ?_⟩⟩
    have sT := (same_new (o := .tup [.int 0, .int 0]) hT1).trans (same_new (o := .tup [.int 0, .ref T1]) hT2)
    refine neD_same (d := dFar (0, (0, 0))) ((dz.up g.s).up sT) (.tup (sqt_of upd_same) (.cons (.int 0) (.cons (.tup (sqt_of (same_new hT2 _ _ upd_same)) (.cons (.int 0) (.cons (.int 0) .nil))) .nil))) rfl (by decide) ⟨false, rfl, iteF ?_⟩
    have sW : Same G _ := (s16.trans fun b o e => g.h b o (fun z => z) e).trans sT
    generalize upd (upd H' T1 (.tup [.int 0, .int 0])) T2 (.tup [.int 0, .ref T1]) = H17 at sW
    clear sT hT2 hT1 dz g s13 s14 s15 s16
    -- for way in ways(kind)
    try dsimp only [tNext, tSeq]
    refine for_of ?_
    refine ⟨.str kind, rfl, G, kind, rfl, wd0 sW, kf.1, fun wl ws F8 H18 g8 e8 aw => ?_⟩
    have w8 := g8.wd (wd0 sW)
    refine ⟨wl, rfl, ⟨_, sql_of (w8.s _ _ e8)⟩, forin_list (xs := ws) (fun i σ H' => ∃ y9 y10 y11, σ = [some (.ref a), some (.ref d), some (.int hh), some (.int ww), some (.str kind), some v1, some v2, some v7, some (.ref L), y9, y10, y11] ∧ Same F8 H') ⟨_, _, _, rfl, w8.s⟩ ?_ ?_ ?_⟩
    · rintro i σ H' _ ⟨_, _, _, _, s⟩
      exact sql_of (s _ _ e8)
    · rintro i x σ H' hx ⟨y9, y10, y11, rfl, s⟩
      obtain ⟨dq, hq, hd⟩ := dtAll_at aw hx
      obtain ⟨qw, hqw, rfl⟩ := map_get_inv hq
      obtain ⟨Ty, rfl, hTy⟩ := dt_way hd
      have hm := List.mem_of_getElem? hqw
      have lt3 := (ways_lt kf.1 qw hm).1
      have pm := kf.pic p1 a1 b1 hm
      refine ⟨v1, rfl, v1, rfl, .ref Ty, rfl, v1, m1, _, hh, ww, qw.1, qw.2, Ty, rfl, Evl.ex_t s hTy, (d1.up g8.f).up s, p1, a1, b1, sh, sw, by omega, fun p rs H2 s2 M2 => ?_⟩
      refine ⟨.str kind, rfl, H2, v1, _, m1, _, _, hh, ww, kind, rfl, wd0 (Same.refl H2), ((d1.up g8.f).up s).up s2, M2.dp, p1, pm, a1, b1, sh, sw, kf, fun z F' H3 g dz => ?_⟩
      obtain ⟨T, yw, rfl, hT, _⟩ := dt_far dz
      have s3 : Same H' H3 := s2.trans fun b o e => g.h b o (fun z => z) e
      refine ⟨T, _, 0, _, rfl, rfl, Evl.ex_t g.s hT, atI_nat (j := 0) rfl, rfl, false, ?_, iteF ?_⟩
      · show V.bl (!decide (V.int (farT m1 (moveT m1 qw.1 qw.2) kind) = V.int 0)) = _
        rw [far_moved kf p1 a1 b1 hm]
        rfl
      refine ⟨v1, rfl, .ref Ty, rfl, v1, m1, _, hh, ww, qw.1, qw.2, Ty, rfl, Evl.ex_t (s.trans s3) hTy, (d1.up g8.f).up (s.trans s3), p1, a1, b1, sh, sw, by omega, fun p rs H4 s4 M4 => ?_⟩
      refine ⟨v7, rfl, .str kind, rfl, H4, _, v7, _, m7, _, hh, ww, kind, rfl, wd0 (Same.refl H4), M4.dp, (d7.up g8.f).up ((s.trans s3).trans s4), pm, p7, a1, b1, sh, sw, kf, fun z F' H5 g dz => ?_⟩
      obtain ⟨T, yw, rfl, hT, _⟩ := dt_far dz
      have s5 : Same H' H5 := (s3.trans s4).trans fun b o e => g.h b o (fun z => z) e
      refine ⟨T, _, 0, _, rfl, rfl, Evl.ex_t g.s hT, atI_nat (j := 0) rfl, .ref L, rfl, L, _, 2, _, rfl, rfl, sql_of (s5 _ _ (s _ _ (g8.f _ _ e12))), atI_nat (j := 2) rfl, rfl, false, ?_, iteF ?_⟩
      · show V.bl (!decide (V.int (farT (moveT m1 qw.1 qw.2) m7 kind) = V.int (farT m1 m7 kind))) = _
        rw [far_move kf p1 p7 a1 b1 hm, decide_eq_true rfl]
        rfl
      · exact ⟨y9, some (.ref Ty), y11, rfl, s.trans s5⟩
    rintro σ H' ⟨y9, y10, y11, rfl, s⟩
    -- for k in range(3)
    have eL := s _ _ (g8.f _ _ e12)
    have t1 := far_tri kf p1 p7 p2 a1 b1
    have t2 := far_tri kf p2 p1 p7 a1 b1
    have t3 := far_tri kf p1 p2 p7 a1 b1
    try dsimp only [tNext, tSeq]
    refine for_of ?_
    refine ⟨3, rfl, by decide, by decide, forin_range (n := 3) (fun i σ H'' => ∃ y11, σ = [some (.ref a), some (.ref d), some (.int hh), some (.int ww), some (.str kind), some v1, some v2, some v7, some (.ref L), y9, y10, y11] ∧ H'' = H') ⟨_, rfl, rfl⟩ ?_ ?_⟩
    · rintro i σ H'' hi ⟨y11, rfl, rfl⟩
      have hi : i = 0 ∨ i = 1 ∨ i = 2 := by omega
      rcases hi with rfl | rfl | rfl
      · refine ⟨.ref L, rfl, _, rfl, L, _, _, .int (farT m1 m2 kind), rfl, rfl, sql_of eL, (by rfl), .ref L, rfl, _, rfl, _, 1, rfl, rfl, _, 3, rfl, rfl, by decide, L, _, _, .int (farT m2 m7 kind), rfl, rfl, sql_of eL, (by rfl), .ref L, rfl, _, rfl, _, 2, rfl, rfl, _, 3, rfl, rfl, by decide, L, _, _, .int (farT m1 m7 kind), rfl, rfl, sql_of eL, (by rfl), _, _, rfl, rfl, _, _, rfl, rfl, false, congrArg V.bl (decide_eq_false ?_), iteF ⟨_, rfl, rfl⟩⟩
        omega
      · refine ⟨.ref L, rfl, _, rfl, L, _, _, .int (farT m2 m7 kind), rfl, rfl, sql_of eL, (by rfl), .ref L, rfl, _, rfl, _, 1, rfl, rfl, _, 3, rfl, rfl, by decide, L, _, _, .int (farT m1 m7 kind), rfl, rfl, sql_of eL, (by rfl), .ref L, rfl, _, rfl, _, 2, rfl, rfl, _, 3, rfl, rfl, by decide, L, _, _, .int (farT m1 m2 kind), rfl, rfl, sql_of eL, (by rfl), _, _, rfl, rfl, _, _, rfl, rfl, false, congrArg V.bl (decide_eq_false ?_), iteF ⟨_, rfl, rfl⟩⟩
        omega
      · refine ⟨.ref L, rfl, _, rfl, L, _, _, .int (farT m1 m7 kind), rfl, rfl, sql_of eL, (by rfl), .ref L, rfl, _, rfl, _, 1, rfl, rfl, _, 3, rfl, rfl, by decide, L, _, _, .int (farT m1 m2 kind), rfl, rfl, sql_of eL, (by rfl), .ref L, rfl, _, rfl, _, 2, rfl, rfl, _, 3, rfl, rfl, by decide, L, _, _, .int (farT m2 m7 kind), rfl, rfl, sql_of eL, (by rfl), _, _, rfl, rfl, _, _, rfl, rfl, false, congrArg V.bl (decide_eq_false ?_), iteF ⟨_, rfl, rfl⟩⟩
        omega
    · rintro σ H'' ⟨y11, rfl, rfl⟩
      exact q _
abbrev dd (x : Str × Option Str) (n q : Str) (s : Stmt) : He.DefD := ⟨x, n, q, defArgs s, defBody s, defScope s, [], []⟩
def d_copied : He.DefD := dd ("copied", none) "copied" "copied" s_copied
def d_mirrored : He.DefD := dd ("mirrored", none) "mirrored" "mirrored" s_mirrored
def d_turned : He.DefD := dd ("turned", none) "turned" "turned" s_turned
def d_moved : He.DefD := dd ("moved", none) "moved" "moved" s_moved
def d_difference : He.DefD := dd ("difference", none) "difference" "difference" s_difference
def d_apart : He.DefD := dd ("apart", none) "apart" "apart" s_apart
def d__law_cell : He.DefD := dd ("_law_cell", none) "_law_cell" "_law_cell" s__law_cell
def d__law_dice : He.DefD := dd ("_law_dice", none) "_law_dice" "_law_dice" s__law_dice
def d__law_off : He.DefD := dd ("_law_off", none) "_law_off" "_law_off" s__law_off
def d__law_cells : He.DefD := dd ("_law_cells", none) "_law_cells" "_law_cells" s__law_cells
def d__law_frame : He.DefD := dd ("_law_frame", none) "_law_frame" "_law_frame" s__law_frame
def d__law_ways : He.DefD := dd ("_law_ways", none) "_law_ways" "_law_ways" s__law_ways
def d__law_moved : He.DefD := dd ("_law_moved", none) "_law_moved" "_law_moved" s__law_moved
def d__law_near : He.DefD := dd ("_law_near", none) "_law_near" "_law_near" s__law_near
def d_law : He.DefD := dd ("law", none) "law" "law" s_law
def fnL : List He.DefD := [d_copied, d_mirrored, d_turned, d_moved, d_difference, d_apart, d__law_cell, d__law_dice, d__law_off, d__law_cells, d__law_frame, d__law_ways, d__law_moved, d__law_near, d_law]
def faL : List He.Fa := [.glo "copied", .glo "mirrored", .glo "turned", .glo "moved", .glo "difference", .glo "apart", .glo "_law_cell", .glo "_law_dice", .glo "_law_off", .glo "_law_cells", .glo "_law_frame", .glo "_law_ways", .glo "_law_moved", .glo "_law_near", .glo "law", .free "len", .free "range", .free "sum", .free "list", .free "zip", .free "abs", .free "min", .free "max", .free "reversed", .glo "KINDS"]
def tsL : List He.Tab := [((fun K => He.ga K "KINDS"), ["plain", "half", "turn", "mirror", "both", "all"])]
def tfL : List He.Defn := []
def exB : PySem.W.Frag → Bool := kindsB
abbrev RR : PySem.W.OpenRow := PySem.W.OpenLaw.row PySem.Challenge.rw_likeshelf_k04_whole_likeness_is_a_distan
abbrev hkL : PySem.W.Hook := He.hookX 5 faL fnL tsL tfL exB
def obL (s : PySem.W.SharedT) : He.AlX := He.obsX 5 faL fnL tsL tfL exB (HandSHeadRun.getT s)
theorem obL_eq (s : PySem.W.SharedT) : obL s = hkL.obs s.abs := He.obsX_eq (HandSHeadRun.getT_eq s)
def lo0 : List PySem.Str := ["copied", "mirrored", "turned", "moved", "difference", "KINDS", "apart", "_law_cell", "_law_dice", "_law_off", "_law_cells", "_law_frame", "_law_ways", "_law_moved", "_law_near"]
def looseL : List PySem.Str := lo0
theorem runF (w : World) : HandSHeadRun.RunEq RR (PySem.W.view RR.prog [18]) hkL obL 4000 looseL (w.withFollow "special-get-raises" false) := by
  intro os
  kernel_rfl
theorem runT (w : World) : HandSHeadRun.RunEq RR (PySem.W.view RR.prog [18]) hkL obL 4000 looseL (w.withFollow "special-get-raises" true) := by
  intro os
  kernel_rfl
theorem runL (w : World) : HandSHeadRun.RunEq RR (PySem.W.view RR.prog [18]) hkL obL 4000 looseL w := PySem.W.byRow2 "special-get-raises" (P := fun w => HandSHeadRun.RunEq RR (PySem.W.view RR.prog [18]) hkL obL 4000 looseL w) runF runT w
theorem tx_of {w : World} {K : PySem.W.Frag} {h : Heap} {mg : Str → Option Value} (X : K.In h) (G : h.Ns mainGlobals mg) (z : He.SaysX faL fnL tsL tfL exB w h K) : Tx w K mg := by
  have c := z.t.d
  exact ⟨He.glo_ok X G (c.fact 0 (f := .glo "copied") rfl),
    He.glo_ok X G (c.fact 1 (f := .glo "mirrored") rfl),
    He.glo_ok X G (c.fact 2 (f := .glo "turned") rfl),
    He.glo_ok X G (c.fact 3 (f := .glo "moved") rfl),
    He.glo_ok X G (c.fact 4 (f := .glo "difference") rfl),
    He.glo_ok X G (c.fact 5 (f := .glo "apart") rfl),
    He.glo_ok X G (c.fact 6 (f := .glo "_law_cell") rfl),
    He.glo_ok X G (c.fact 7 (f := .glo "_law_dice") rfl),
    He.glo_ok X G (c.fact 8 (f := .glo "_law_off") rfl),
    He.glo_ok X G (c.fact 9 (f := .glo "_law_cells") rfl),
    He.glo_ok X G (c.fact 10 (f := .glo "_law_frame") rfl),
    He.glo_ok X G (c.fact 11 (f := .glo "_law_ways") rfl),
    He.glo_ok X G (c.fact 12 (f := .glo "_law_moved") rfl),
    He.glo_ok X G (c.fact 13 (f := .glo "_law_near") rfl),
    He.glo_ok X G (c.fact 14 (f := .glo "law") rfl),
    He.free_ok X G (c.fact 15 (f := .free "len") rfl),
    He.free_ok X G (c.fact 16 (f := .free "range") rfl),
    He.free_ok X G (c.fact 17 (f := .free "sum") rfl),
    He.free_ok X G (c.fact 18 (f := .free "list") rfl),
    He.free_ok X G (c.fact 19 (f := .free "zip") rfl),
    He.free_ok X G (c.fact 20 (f := .free "abs") rfl),
    He.free_ok X G (c.fact 21 (f := .free "min") rfl),
    He.free_ok X G (c.fact 22 (f := .free "max") rfl),
    He.free_ok X G (c.fact 23 (f := .free "reversed") rfl),
    He.glo_ok X G (c.fact 24 (f := .glo "KINDS") rfl),
    c.def_ 0 (d := d_copied) rfl,
    c.def_ 1 (d := d_mirrored) rfl,
    c.def_ 2 (d := d_turned) rfl,
    c.def_ 3 (d := d_moved) rfl,
    c.def_ 4 (d := d_difference) rfl,
    c.def_ 5 (d := d_apart) rfl,
    c.def_ 6 (d := d__law_cell) rfl,
    c.def_ 7 (d := d__law_dice) rfl,
    c.def_ 8 (d := d__law_off) rfl,
    c.def_ 9 (d := d__law_cells) rfl,
    c.def_ 10 (d := d__law_frame) rfl,
    c.def_ 11 (d := d__law_ways) rfl,
    c.def_ 12 (d := d__law_moved) rfl,
    c.def_ 13 (d := d__law_near) rfl,
    c.def_ 14 (d := d_law) rfl,
    (by obtain ⟨es, n, D⟩ := z.t.tab 0; exact kinds_ok D z.more)⟩
theorem all_has {P : Program} {w : World} {K : PySem.W.Frag} {mg : Str → Option Value} {base : Heap} {f : Addr} {fd : FuncData} (T : Tx w K mg) (F : FunD K "law" "law" (defArgs s_law) (defBody s_law) (defScope s_law) [] [] f fd) : FnOk P w K mg base (L2.CX P w) 5 f fd ["_law_script"] (sp_law K) := by
  have G_copied : Has P w K mg base (2) "copied" ["rows"] (sp_copied K) := has_copied (k := 1) T 
  have G_mirrored : Has P w K mg base (2) "mirrored" ["rows"] (sp_mirrored K) := has_mirrored (k := 1) T 
  have G_turned : Has P w K mg base (2) "turned" ["rows"] (sp_turned K) := has_turned (k := 1) T 
  have G_moved : Has P w K mg base (3) "moved" ["rows", "way"] (sp_moved K) := has_moved (k := 2) T (G_turned.mono (by decide : 2 ≤ 2)) (G_mirrored.mono (by decide : 2 ≤ 2)) (G_copied.mono (by decide : 2 ≤ 2))
  have G_difference : Has P w K mg base (2) "difference" ["one", "other"] (sp_difference K) := has_difference (k := 1) T 
  have G_apart : Has P w K mg base (4) "apart" ["one", "other", "kind"] (sp_apart K) := has_apart (k := 3) T (G_difference.mono (by decide : 2 ≤ 3)) (G_moved.mono (by decide : 3 ≤ 3))
  have G__law_cell : Has P w K mg base (2) "_law_cell" ["_law_script", "_law_k"] (sp__law_cell K) := has__law_cell (k := 1) T 
  have G__law_dice : Has P w K mg base (3) "_law_dice" ["_law_script", "_law_k"] (sp__law_dice K) := has__law_dice (k := 2) T (G__law_cell.mono (by decide : 2 ≤ 2))
  have G__law_off : Has P w K mg base (2) "_law_off" ["_law_d", "_law_most"] (sp__law_off K) := has__law_off (k := 1) T 
  have G__law_cells : Has P w K mg base (3) "_law_cells" ["_law_d", "_law_high", "_law_wide"] (sp__law_cells K) := has__law_cells (k := 2) T (G__law_off.mono (by decide : 2 ≤ 2))
  have G__law_frame : Has P w K mg base (3) "_law_frame" ["_law_d"] (sp__law_frame K) := has__law_frame (k := 2) T (G__law_off.mono (by decide : 2 ≤ 2))
  have G__law_ways : Has P w K mg base (2) "_law_ways" ["_law_kind"] (sp__law_ways K) := has__law_ways (k := 1) T 
  have G__law_moved : Has P w K mg base (2) "_law_moved" ["_law_rows", "_law_way"] (sp__law_moved K) := has__law_moved (k := 1) T 
  have G__law_near : Has P w K mg base (3) "_law_near" ["_law_d", "_law_rows", "_law_kind"] (sp__law_near K) := has__law_near (k := 2) T (G__law_off.mono (by decide : 2 ≤ 2)) (G__law_moved.mono (by decide : 2 ≤ 2)) (G__law_ways.mono (by decide : 2 ≤ 2))
  exact ok_law (k := 4) T (G__law_ways.mono (by decide : 2 ≤ 4)) (G_apart.mono (by decide : 4 ≤ 4)) (G_moved.mono (by decide : 3 ≤ 4)) (G__law_near.mono (by decide : 3 ≤ 4)) (G__law_cells.mono (by decide : 3 ≤ 4)) (G__law_off.mono (by decide : 2 ≤ 4)) (G__law_frame.mono (by decide : 3 ≤ 4)) (G__law_dice.mono (by decide : 3 ≤ 4)) F
theorem law_end {P : Program} {w : World} {K : PySem.W.Frag} {h : Heap} {mg : Str → Option Value} {fa : Addr} (T : Tx w K mg) (KX : K.In h) (hmg : mg "law" = some (.ref fa)) :
    ∃ (K : PySem.W.Frag) (fd : FuncData) (sp : Sp), K.In h ∧ (∀ (s : Shared) (u : Value), BindsTo s fd ⟨[u], []⟩ [("_law_script", u)]) ∧
        (∀ (H : Hp) (a : Addr) (ns : List Int), ns.length ≤ 63 → Only H → SqL K H a (ns.map V.int) → sp [.ref a] H (fun v _ => v = .bl true) fun _ _ _ => False) ∧
        ∀ base : Heap, K.In base → base.Ns mainGlobals mg → FnOk P w K mg base (fun l H s E e s' => ∃ w, L2.CX P w l H s E e s') 5 fa fd ["_law_script"] sp := by
  obtain ⟨fd, F⟩ := T.d_law
  have e := hmg.symm.trans T.g_law
  cases e
  have b := FunD.bindsA (ps := ["_law_script"]) F fun _ _ _ _ _ _ us hl => match us, hl with | [_], _ => rfl
  exact ⟨K, fd, sp_law K, KX, fun s v => b s [v] rfl, fun H a ns hl _ hS => ⟨a, ns, rfl, hS, hl, fun _ => rfl⟩, fun base _ _ => FnOk.cx (all_has T F) fun _ _ _ _ _ _ z => ⟨w, z⟩⟩
end Ls
open PySem PySem.W PySem.Calls PyProof.Rows
set_option maxRecDepth 100000 in
set_option maxHeartbeats 0 in
theorem PySem.Challenge.cw_likeshelf_k04_whole_likeness_is_a_distan_holds : PySem.Challenge.rw_likeshelf_k04_whole_likeness_is_a_distan.Holds := by
  w_on; o_law
  refine HandSHeadRun.head_any (r := OpenLaw.row PySem.Challenge.rw_likeshelf_k04_whole_likeness_is_a_distan) (q := view (OpenLaw.row PySem.Challenge.rw_likeshelf_k04_whole_likeness_is_a_distan).prog [18]) (H := Ls.hkL) (ob := Ls.obL) (M := 4000) (loose := Ls.looseL) (d := HandSHeadRun.topDef (OpenLaw.row PySem.Challenge.rw_likeshelf_k04_whole_likeness_is_a_distan).prog 18) (kwd := []) Ls.obL_eq
    (by kernel_rfl) (fun s => by kernel_rfl) Ls.runL (by kernel_rfl) (by kernel_rfl) (by kernel_rfl) (by rfl) (by first | assumption | decide +kernel) (by decide +kernel) ⟨rfl, rfl, rfl, rfl, rfl, by decide +kernel⟩ ?hw ?hc
  case hw => w_witness2
  case hc =>
    refine L2.walk_ofE (l := PySem.Challenge.rw_likeshelf_k04_whole_likeness_is_a_distan) (n := 63) (k := 5) (x := "_law_script") (CX := fun l H s E e s' => ∃ w, L2.CX (PySem.Challenge.rw_likeshelf_k04_whole_likeness_is_a_distan).prog w l H s E e s') rfl (by decide) (by kernel_rfl) ⟨rfl, by decide, by decide⟩ ?F ?N
    case N =>
      rintro H s e s' ⟨w, z⟩
      obtain ⟨_, _, _, _, _, _, _, _, _, _, _, _, z⟩ := z
      exact z.elim
    intro w mg fa h Y G hmg0
    obtain ⟨K, KX, c⟩ := Y
    have hmg : mg ("law" : PySem.Str) = some (.ref fa) := by
      have e : (HandSHeadRun.topDef (OpenLaw.row PySem.Challenge.rw_likeshelf_k04_whole_likeness_is_a_distan).prog 18).name = ("law" : PySem.Str) := by kernel_rfl
      rw [← e]
      exact hmg0
    have T := Ls.tx_of KX G c
    exact Ls.law_end (P := (PySem.Challenge.rw_likeshelf_k04_whole_likeness_is_a_distan).prog) (w := w) T KX hmg
