import PyProof.Rows.All
import Wide.All
import OpenK.AllK
import Wide.FinOn
import HandS.ForMost
import HandS.ForExc
import HandS.Deep
import HandS.IsInst
import HandS.ExcIs
import HandS.SortRule
import HandS.Walk
import HandS.SortInts
import HandS.Style
import HandS.Rev
import HandS.RevTup
import KE.KDictList
import KE.KDictSum
import KE.KDictCopyH
import HandS.More
import KE.KDictKeyed
import HandS.SetKeys
import PySem.Challenge.RW_siblingshelf_k08_whole_just_the_unseen
set_option Elab.async false
set_option maxRecDepth 100000
set_option maxHeartbeats 8000000
set_option linter.all false
set_option Elab.async false
set_option maxRecDepth 100000
set_option maxHeartbeats 4000000
/-! Data that stands in the heap: the value v stands for the data d; its lists lie where M does not hold. -/
namespace Sb
open PySem L2
abbrev Frag := PySem.W.Frag

inductive Rp (M : Addr → Prop) (H : Hp) : V → PyData → Prop
  | non : Rp M H .non .none
  | bl (b : Bool) : Rp M H (.bl b) (.bool b)
  | int (i : Int) : Rp M H (.int i) (.int i)
  | str (x : Str) : Rp M H (.str x) (.str x)
  | lst {a : Addr} {xs : List V} {ds : List PyData} : ¬ M a → H a = some (.lst xs) → xs.length = ds.length → (∀ (i : Nat) (x : V) (d : PyData), xs[i]? = some x → ds[i]? = some d → Rp M H x d) → Rp M H (.ref a) (.list ds)
  | tup {a : Addr} {xs : List V} {ds : List PyData} : H a = some (.tup xs) → xs.length = ds.length → (∀ (i : Nat) (x : V) (d : PyData), xs[i]? = some x → ds[i]? = some d → Rp M H x d) → Rp M H (.ref a) (.tuple ds)
/-- item by item -/
def RpA (M : Addr → Prop) (H : Hp) (xs : List V) (ds : List PyData) : Prop := xs.length = ds.length ∧ ∀ (i : Nat) (x : V) (d : PyData), xs[i]? = some x → ds[i]? = some d → Rp M H x d

section
variable {M M' : Addr → Prop} {H H' : Hp} {v x : V} {d : PyData} {xs ys : List V} {ds es : List PyData} {a : Addr}
theorem RpA.nil : RpA M H [] [] := ⟨rfl, fun i x d h => by simp at h⟩
theorem RpA.cons (h : Rp M H x d) (t : RpA M H xs ds) : RpA M H (x :: xs) (d :: ds) := by
  refine ⟨by simp [t.1], fun i y e h1 h2 => ?_⟩
  cases i with
  | zero => simp at h1 h2; subst h1; subst h2; exact h
  | succ i => exact t.2 i y e (by simpa using h1) (by simpa using h2)
theorem RpA.head (h : RpA M H (x :: xs) (d :: ds)) : Rp M H x d := h.2 0 x d rfl rfl
theorem RpA.tail (h : RpA M H (x :: xs) (d :: ds)) : RpA M H xs ds := ⟨by simpa using h.1, fun i y e h1 h2 => h.2 (i + 1) y e (by simpa using h1) (by simpa using h2)⟩
theorem RpA.append (h : RpA M H xs ds) (t : RpA M H ys es) : RpA M H (xs ++ ys) (ds ++ es) := by
  refine ⟨by simp [h.1, t.1], fun i y e h1 h2 => ?_⟩
  by_cases hi : i < xs.length
  · rw [List.getElem?_append_left hi] at h1
    rw [List.getElem?_append_left (by rw [← h.1]; exact hi)] at h2
    exact h.2 i y e h1 h2
  · rw [List.getElem?_append_right (by omega)] at h1
    rw [List.getElem?_append_right (by rw [← h.1]; omega), ← h.1] at h2
    exact t.2 _ y e h1 h2
theorem RpA.snoc (h : RpA M H xs ds) (t : Rp M H x d) : RpA M H (xs ++ [x]) (ds ++ [d]) := h.append (RpA.nil.cons t)
theorem RpA.at (h : RpA M H xs ds) {i : Nat} (e : ds[i]? = some d) : ∃ x, xs[i]? = some x ∧ Rp M H x d := by
  have hi : i < ds.length := (List.getElem?_eq_some_iff.mp e).1
  have hx : i < xs.length := by rw [h.1]; exact hi
  exact ⟨xs[i], List.getElem?_eq_getElem hx, h.2 i _ _ (List.getElem?_eq_getElem hx) e⟩
theorem RpA.atx (h : RpA M H xs ds) {i : Nat} (e : xs[i]? = some x) : ∃ d, ds[i]? = some d ∧ Rp M H x d := by
  have hi : i < xs.length := (List.getElem?_eq_some_iff.mp e).1
  have hx : i < ds.length := by rw [← h.1]; exact hi
  exact ⟨ds[i], List.getElem?_eq_getElem hx, h.2 i _ _ e (List.getElem?_eq_getElem hx)⟩
theorem Rp.lstA (m : ¬ M a) (h : H a = some (.lst xs)) (r : RpA M H xs ds) : Rp M H (.ref a) (.list ds) := .lst m h r.1 r.2
theorem Rp.tupA (h : H a = some (.tup xs)) (r : RpA M H xs ds) : Rp M H (.ref a) (.tuple ds) := .tup h r.1 r.2
theorem Rp.int_inv {i : Int} (h : Rp M H v (.int i)) : v = .int i := by cases h; rfl
theorem Rp.str_inv {i : Str} (h : Rp M H v (.str i)) : v = .str i := by cases h; rfl
theorem Rp.bool_inv {i : Bool} (h : Rp M H v (.bool i)) : v = .bl i := by cases h; rfl
theorem Rp.none_inv (h : Rp M H v .none) : v = .non := by cases h; rfl
theorem Rp.tup_inv (h : Rp M H v (.tuple ds)) : ∃ a xs, v = .ref a ∧ H a = some (.tup xs) ∧ RpA M H xs ds := by
  cases h with
  | tup h1 h2 h3 => exact ⟨_, _, rfl, h1, h2, h3⟩
theorem Rp.lst_inv (h : Rp M H v (.list ds)) : ∃ a xs, v = .ref a ∧ ¬ M a ∧ H a = some (.lst xs) ∧ RpA M H xs ds := by
  cases h with
  | lst h0 h1 h2 h3 => exact ⟨_, _, rfl, h0, h1, h2, h3⟩
/-- what lists and tuples of H there are stand in H' too -/
structure Ext (M M' : Addr → Prop) (H H' : Hp) : Prop where
  tup : ∀ a xs, H a = some (.tup xs) → H' a = some (.tup xs)
  lst : ∀ a xs, ¬ M a → H a = some (.lst xs) → ¬ M' a ∧ H' a = some (.lst xs)
theorem Rp.ext (h : Rp M H v d) (e : Ext M M' H H') : Rp M' H' v d := by
  induction h with
  | non => exact .non
  | bl b => exact .bl b
  | int i => exact .int i
  | str x => exact .str x
  | lst h0 h1 h2 h3 ih => exact .lst (e.lst _ _ h0 h1).1 (e.lst _ _ h0 h1).2 h2 ih
  | tup h1 h2 h3 ih => exact .tup (e.tup _ _ h1) h2 ih
theorem Ext.same (s : Same H H') : Ext M M H H' := ⟨fun a xs h => s a _ h, fun a xs m h => ⟨m, s a _ h⟩⟩
theorem Rp.same (h : Rp M H v d) (s : Same H H') : Rp M H' v d := h.ext (.same s)
theorem RpA.ext (h : RpA M H xs ds) (e : Ext M M' H H') : RpA M' H' xs ds := ⟨h.1, fun i x d h1 h2 => (h.2 i x d h1 h2).ext e⟩
theorem RpA.same (h : RpA M H xs ds) (s : Same H H') : RpA M H' xs ds := h.ext (.same s)
/-- .. as the layer's own data -/
theorem dpAll_of {K : Frag} : ∀ {xs : List V} {ds : List PyData}, xs.length = ds.length → (∀ (i : Nat) (x : V) (d : PyData), xs[i]? = some x → ds[i]? = some d → Dp K H x d) → DpAll K H xs ds
  | [], [], _, _ => .nil
  | x :: xs, d :: ds, h, k => .cons (k 0 x d rfl rfl) (dpAll_of (by simpa using h) fun i y e h1 h2 => k (i + 1) y e (by simpa using h1) (by simpa using h2))
  | [], _ :: _, h, _ => by simp at h
  | _ :: _, [], h, _ => by simp at h
theorem Rp.dp {K : Frag} (h : Rp M H v d) : Dp K H v d := by
  induction h with
  | non => exact .non
  | bl b => exact .bl b
  | int i => exact .int i
  | str x => exact .str x
  | lst h0 h1 h2 h3 ih => exact .lst (SqL.of h1) (dpAll_of h2 ih)
  | tup h1 h2 h3 ih => exact .tup (SqT.of h1) (dpAll_of h2 ih)
/-- data of ints -/
theorem RpA.ints : ∀ {ns : List Int}, RpA M H (ns.map V.int) (ns.map PyData.int)
  | [] => RpA.nil
  | n :: ns => RpA.cons (.int n) RpA.ints
theorem RpA.ints_inv : ∀ {ns : List Int} {xs : List V}, RpA M H xs (ns.map PyData.int) → xs = ns.map V.int
  | [], [], _ => rfl
  | [], x :: xs, h => by have := h.1; simp at this
  | n :: ns, [], h => by have := h.1; simp at this
  | n :: ns, x :: xs, h => by
    have h1 := h.head.int_inv
    have h2 := RpA.ints_inv h.tail
    rw [h1, h2, List.map_cons]
end
end Sb

set_option Elab.async false
set_option maxRecDepth 100000
set_option maxHeartbeats 4000000
set_option linter.all false
/-! Steps of a reading, one a rule. -/
namespace Sb
open PySem L2
section
variable {K : Frag} {σ : L2.St} {H : Hp} {Q : VK} {QT : Bool → Hp → Prop} {QA : List V → Hp → Prop} {D : Ends} {ta tb te : TE} {tt t1 t2 : TT} {tr : TA} {ts tu : TS} {i : Nat} {v x y : V} {b : Bool}
theorem w_var (h : σ[i]? = some (some v)) (q : Q v H) : tVar i σ H Q := ⟨v, h, q⟩
theorem w_c (q : Q v H) : tC v σ H Q := q
theorem w_nil (q : QA [] H) : tNil σ H QA := q
theorem w_cons (q : ta σ H fun x H1 => tr σ H1 fun xs H2 => QA (x :: xs) H2) : tCons ta tr σ H QA := q
theorem w_op {r : R2} (q : ta σ H fun x H1 => tb σ H1 fun y H2 => r x y H2 Q) : tOp r ta tb σ H Q := q
theorem w_un {r : V → Hp → VK → Prop} (q : ta σ H fun x H1 => r x H1 Q) : tUn r ta σ H Q := q
theorem w_test (q : te σ H fun x H1 => ∃ k, x = .bl k ∧ QT k H1) : tTest te σ H QT := q
theorem w_tB (q : te σ H fun x H1 => ∃ k, x = .bl k ∧ QT k H1) : tB te σ H QT := q
theorem w_bl {R : Bool → Prop} (q : R b) : ∃ k, V.bl b = V.bl k ∧ R k := ⟨b, rfl, q⟩
theorem w_and (q : t1 σ H fun c H1 => if c = true then t2 σ H1 QT else QT false H1) : tAnd t1 t2 σ H QT := q
theorem w_or (q : t1 σ H fun c H1 => if c = true then QT true H1 else t2 σ H1 QT) : tOr t1 t2 σ H QT := q
theorem w_not (q : tt σ H fun c H1 => QT (!c) H1) : tNot tt σ H QT := q
theorem w_andV (q : ta σ H fun x H1 => ∃ c, x = .bl c ∧ if c = true then tb σ H1 Q else Q (.bl false) H1) : tAndV ta tb σ H Q := q
theorem w_orV (q : ta σ H fun x H1 => ∃ c, x = .bl c ∧ if c = true then Q (.bl true) H1 else tb σ H1 Q) : tOrV ta tb σ H Q := q
theorem w_notV (q : ta σ H fun x H1 => ∃ c, x = .bl c ∧ Q (.bl (!c)) H1) : tNotV ta σ H Q := q
theorem w_if (q : tt σ H fun c H1 => if c = true then ta σ H1 Q else tb σ H1 Q) : tIf tt ta tb σ H Q := q
theorem w_ifS (q : tt σ H fun c H1 => if c = true then ts D σ H1 else tu D σ H1) : tIfS tt ts tu D σ H := q
theorem w_seq (q : ts { D with nx := tu D } σ H) : tSeq ts tu D σ H := q
theorem w_set (q : te σ H fun x H1 => D.nx (σ.set i (some x)) H1) : tAsg te (gName i) D σ H := q
theorem w_asg {g : TG} (q : te σ H fun x H1 => g x σ H1 D.nx) : tAsg te g D σ H := q
theorem w_ret (q : te σ H D.rt) : tRet te D σ H := q
theorem w_retN (q : D.rt .non H) : tRetN D σ H := q
theorem w_drop (q : te σ H fun _ H1 => D.nx σ H1) : tDrop te D σ H := q
theorem w_next (q : D.nx σ H) : tNext D σ H := q
theorem w_gName {Qs : L2.St → Hp → Prop} (q : Qs (σ.set i (some v)) H) : gName i v σ H Qs := q
theorem w_I0 {g : Int → Int → V} {i j : Int} (q : Q (g i j) H) : rI0 g (.int i) (.int j) H Q := ⟨i, j, rfl, rfl, q⟩
theorem w_I {C : Int → Int → Prop} {g : Int → Int → V} {i j : Int} (c : C i j) (q : Q (g i j) H) : rI C g (.int i) (.int j) H Q := ⟨i, j, rfl, rfl, c, q⟩
theorem w_eq (h : scal x y = true) (q : Q (.bl (decide (x = y))) H) : rEq x y H Q := ⟨h, q⟩
theorem w_ne (h : scal x y = true) (q : Q (.bl (!decide (x = y))) H) : rNe x y H Q := ⟨h, q⟩
theorem w_CB {r : List V → Hp → VK → Prop} (q : tr σ H fun vs H1 => r vs H1 Q) : tCB r tr σ H Q := q
theorem w_call {sp : Sp} {dvs : List V} {E : XK} (q : tr σ H fun vs H1 => sp (vs ++ dvs) H1 Q E) : tCall sp dvs E tr σ H Q := q
theorem w_callS {sp : Sp} {E : L2.St → XK} (q : tr σ H fun vs H1 => sp vs H1 Q (E σ)) : tCallS sp E tr σ H Q := q
end
end Sb

set_option Elab.async false
set_option maxRecDepth 100000
set_option maxHeartbeats 4000000
set_option linter.all false
/-! Comprehensions whose turns only add to the heap: the new list's data, item by item. -/
namespace Sb
open PySem L2
/-- a new address is not among the changing ones -/
def Fr (M : Addr → Prop) (H : Hp) : Prop := ∀ a, H a = none → ¬ M a
theorem Fr.same {M : Addr → Prop} {H H' : Hp} (f : Fr M H) (s : Same H H') : Fr M H' := fun a h => f a (s.free h)
section
variable {M M' M'' : Addr → Prop} {H H' H'' : Hp} {v x : V} {d : PyData} {xs ys : List V} {ds es : List PyData} {a p : Addr} {o : HO}
theorem Ext.trans (e : Ext M M' H H') (e' : Ext M' M'' H' H'') : Ext M M'' H H'' :=
  ⟨fun a xs h => e'.tup a xs (e.tup a xs h), fun a xs m h => e'.lst a xs (e.lst a xs m h).1 (e.lst a xs m h).2⟩
/-- one address more changes: it was new -/
theorem Ext.fresh (s : Same H H') (h : H p = none) : Ext M (fun a => M a ∨ a = p) H H' :=
  ⟨fun a xs e => s a _ e, fun a xs m e => ⟨fun z => z.elim m fun z => (by subst z; rw [h] at e; cases e), s a _ e⟩⟩
/-- fewer change -/
theorem Ext.less (k : ∀ a, M' a → M a) : Ext M M' H H := ⟨fun _ _ e => e, fun a xs m e => ⟨fun z => m (k a z), e⟩⟩
/-- the changing one is written -/
theorem Ext.write (m : M p) (hp : ∀ xs, H p ≠ some (.tup xs)) : Ext M M H (upd H p o) := by
  refine ⟨fun a xs e => ?_, fun a xs n e => ⟨n, ?_⟩⟩
  · rw [upd_ne (fun z => by subst z; exact hp xs e)]; exact e
  · rw [upd_ne (fun z => by subst z; exact n m)]; exact e
theorem Same.new (h : H p = none) : Same H (upd H p o) := fun b u e => by rw [upd_ne (ne_of_none e h)]; exact e
theorem Same.mut (s : Same H H') (h : H p = none) : Same H (upd H' p o) := fun b u e => by rw [upd_ne (ne_of_none e h)]; exact s b u e
/-- one turn of a comprehension -/
abbrev LcItem (g : TG) (tt : TT) (te : TE) (vs : List Nat) (σ : L2.St) (x : V) (H : Hp) (Yes : V → Hp → Prop) (No : Hp → Prop) : Prop :=
  g x (wipe σ vs) H fun σ2 H2 => wipe σ2 vs = wipe σ vs ∧ tt σ2 H2 fun b H3 => if b = true then te σ2 H3 Yes else No H3
/-- what stands between two turns -/
def LcInv (M : Addr → Prop) (H1 : Hp) (D : Addr) (es : List PyData) (H : Hp) : Prop := Same H1 H ∧ ∃ ys, H D = some (.lst ys) ∧ RpA (fun a => M a ∨ a = D) H ys es
variable {g : TG} {tt : TT} {te : TE} {vs : List Nat} {σ : L2.St} {H1 : Hp} {D : Addr} {Qd : Addr → Hp → Prop}
theorem LcInv.start (hD : H1 D = none) : LcInv M H1 D [] (upd H1 D (.lst [])) := ⟨Same.new hD, [], upd_same, RpA.nil⟩
theorem LcInv.more {Hx H4 : Hp} {y : V} {e : PyData} (hD : H1 D = none) (w : LcInv M H1 D es Hx) (s : Same Hx H4) (r : Rp (fun a => M a ∨ a = D) H4 y e) (hl : es.length < sizeLine) :
    ∃ acc, H4 D = some (.lst acc) ∧ acc.length < sizeLine ∧ LcInv M H1 D (es ++ [e]) (upd H4 D (.lst (acc ++ [y]))) := by
  obtain ⟨s1, ys, hy, ra⟩ := w
  have h4 := s D _ hy
  have ex : Ext (fun a => M a ∨ a = D) (fun a => M a ∨ a = D) H4 (upd H4 D (.lst (ys ++ [y]))) := Ext.write (.inr rfl) fun xs z => by rw [h4] at z; cases z
  refine ⟨ys, h4, by rw [ra.1]; exact hl, Same.mut (Same.trans s1 s) hD, _, upd_same, ?_⟩
  exact ((ra.same s).snoc r).ext ex
theorem LcInv.out (fr : Fr M H1) (hD : H1 D = none) (w : LcInv M H1 D es H) : Same H1 H ∧ Rp M H (.ref D) (.list es) := by
  obtain ⟨s, ys, hy, ra⟩ := w
  exact ⟨s, .lstA (fr D hD) hy (ra.ext (Ext.less fun a z => .inl z))⟩
theorem LcInv.ext (hD : H1 D = none) (w : LcInv M H1 D es H) : Ext M (fun a => M a ∨ a = D) H1 H := Ext.fresh w.1 hD
theorem LcInv.fr (fr : Fr M H1) (w : LcInv M H1 D es H) : Fr (fun a => M a ∨ a = D) H := fun a h z => by
  rcases z with z | z
  · exact fr a (w.1.free h) z
  · obtain ⟨_, ys, hy, _⟩ := w
    rw [z, hy] at h; cases h
theorem fm_take {δ : Type} {f : δ → Option PyData} {ds : List δ} {i : Nat} {d : δ} (h : ds[i]? = some d) : (ds.take (i + 1)).filterMap f = (ds.take i).filterMap f ++ (f d).toList := by
  have hi := (List.getElem?_eq_some_iff.mp h).1
  have e : ds.take (i + 1) = ds.take i ++ [d] := by
    rw [List.take_succ, h]; rfl
  rw [e, List.filterMap_append]
  cases q : f d <;> simp [q]
/-- over a list -/
theorem lcL {K : Frag} {δ : Type} {a : Addr} {xs : List V} (ds : List δ) (f : δ → Option PyData) (M : Addr → Prop) (fr : Fr M H1) (hl : SqL K H1 a xs) (hlen : xs.length = ds.length) (hz : ds.length ≤ sizeLine)
    (hs : ∀ (i : Nat) (x : V) (d : δ) (H2 : Hp) (M' : Addr → Prop) (Yes : V → Hp → Prop) (No : Hp → Prop), xs[i]? = some x → ds[i]? = some d → Same H1 H2 → Ext M M' H1 H2 → Fr M' H2 → (∀ y H4 e, f d = some e → Same H2 H4 → Rp M' H4 y e → Yes y H4) → (∀ H4, f d = none → Same H2 H4 → No H4) → LcItem g tt te vs σ x H2 Yes No)
    (hd : ∀ D H', H1 D = none → Same H1 H' → Rp M H' (.ref D) (.list (ds.filterMap f)) → Qd D H') :
    ∀ D, H1 D = none → ∃ W : Nat → Nat → Hp → Prop, (∃ m, W 0 m (upd H1 D (.lst []))) ∧ ∀ i m H, W i m H →
      ((Itl K a).stop i H ∧ Qd D H) ∨ ((Itl K a).go i H ∧ ∃ Nx : Hp → Prop, (∀ H', Nx H' → ∃ m', m' < m ∧ W (i + 1) m' H') ∧ ∀ x H', (Itl K a).yld i H x H' → g x (wipe σ vs) H' fun σ2 H2 => wipe σ2 vs = wipe σ vs ∧ tt σ2 H2 fun b H3 =>
        if b = true then te σ2 H3 fun y H4 => ∃ acc, H4 D = some (.lst acc) ∧ acc.length < sizeLine ∧ Nx (upd H4 D (.lst (acc ++ [y]))) else Nx H3) := by
  intro D hD
  refine lc_list (K := K) (a := a) (xs := xs) (fun i H => LcInv M H1 D ((ds.take i).filterMap f) H) (by simpa using LcInv.start hD) (fun i H _ w => w.1.seq hl) (fun i x H hx w => ?_) (fun H w => ?_)
  · obtain ⟨d, hdd⟩ : ∃ d, ds[i]? = some d := by
      have := (List.getElem?_eq_some_iff.mp hx).1
      exact ⟨_, List.getElem?_eq_getElem (by omega)⟩
    have hi := (List.getElem?_eq_some_iff.mp hdd).1
    refine hs i x d H _ (fun y H4 => _) (fun H4 => _) hx hdd w.1 (w.ext hD) (w.fr fr) (fun y H4 e he s r => ?_) (fun H4 he s => ?_)
    · obtain ⟨acc, h1, h2, h3⟩ := w.more hD s r (Nat.lt_of_le_of_lt (List.length_filterMap_le f (ds.take i)) (by rw [List.length_take]; omega))
      refine ⟨acc, h1, h2, ?_⟩
      rw [fm_take hdd, he]; exact h3
    · rw [fm_take hdd, he]
      obtain ⟨s1, ys, hy, ra⟩ := w
      exact ⟨Same.trans s1 s, ys, s _ _ hy, by simpa using ra.same s⟩
  · rw [hlen, List.take_length] at w
    obtain ⟨s, r⟩ := w.out fr hD
    exact hd D H hD s r
/-- over a tuple -/
theorem lcT {K : Frag} {δ : Type} {a : Addr} {xs : List V} (ds : List δ) (f : δ → Option PyData) (M : Addr → Prop) (fr : Fr M H1) (hl : H1 a = some (.tup xs)) (hlen : xs.length = ds.length) (hz : ds.length ≤ sizeLine)
    (hs : ∀ (i : Nat) (x : V) (d : δ) (H2 : Hp) (M' : Addr → Prop) (Yes : V → Hp → Prop) (No : Hp → Prop), xs[i]? = some x → ds[i]? = some d → Same H1 H2 → Ext M M' H1 H2 → Fr M' H2 → (∀ y H4 e, f d = some e → Same H2 H4 → Rp M' H4 y e → Yes y H4) → (∀ H4, f d = none → Same H2 H4 → No H4) → LcItem g tt te vs σ x H2 Yes No)
    (hd : ∀ D H', H1 D = none → Same H1 H' → Rp M H' (.ref D) (.list (ds.filterMap f)) → Qd D H') :
    ∀ D, H1 D = none → ∃ W : Nat → Nat → Hp → Prop, (∃ m, W 0 m (upd H1 D (.lst []))) ∧ ∀ i m H, W i m H →
      ((Itt K a).stop i H ∧ Qd D H) ∨ ((Itt K a).go i H ∧ ∃ Nx : Hp → Prop, (∀ H', Nx H' → ∃ m', m' < m ∧ W (i + 1) m' H') ∧ ∀ x H', (Itt K a).yld i H x H' → g x (wipe σ vs) H' fun σ2 H2 => wipe σ2 vs = wipe σ vs ∧ tt σ2 H2 fun b H3 =>
        if b = true then te σ2 H3 fun y H4 => ∃ acc, H4 D = some (.lst acc) ∧ acc.length < sizeLine ∧ Nx (upd H4 D (.lst (acc ++ [y]))) else Nx H3) := by
  intro D hD
  refine lc_tup (K := K) (a := a) (xs := xs) (fun i H => LcInv M H1 D ((ds.take i).filterMap f) H) (by simpa using LcInv.start hD) (fun i H _ w => SqT.of (w.1 a _ hl)) (fun i x H hx w => ?_) (fun H w => ?_)
  · obtain ⟨d, hdd⟩ : ∃ d, ds[i]? = some d := by
      have := (List.getElem?_eq_some_iff.mp hx).1
      exact ⟨_, List.getElem?_eq_getElem (by omega)⟩
    have hi := (List.getElem?_eq_some_iff.mp hdd).1
    refine hs i x d H _ (fun y H4 => _) (fun H4 => _) hx hdd w.1 (w.ext hD) (w.fr fr) (fun y H4 e he s r => ?_) (fun H4 he s => ?_)
    · obtain ⟨acc, h1, h2, h3⟩ := w.more hD s r (Nat.lt_of_le_of_lt (List.length_filterMap_le f (ds.take i)) (by rw [List.length_take]; omega))
      refine ⟨acc, h1, h2, ?_⟩
      rw [fm_take hdd, he]; exact h3
    · rw [fm_take hdd, he]
      obtain ⟨s1, ys, hy, ra⟩ := w
      exact ⟨Same.trans s1 s, ys, s _ _ hy, by simpa using ra.same s⟩
  · rw [hlen, List.take_length] at w
    obtain ⟨s, r⟩ := w.out fr hD
    exact hd D H hD s r
/-- over a range -/
theorem lcR {lo : Int} (n : Nat) (f : Nat → Option PyData) (M : Addr → Prop) (fr : Fr M H1) (hz : n ≤ sizeLine)
    (hs : ∀ (i : Nat) (H2 : Hp) (M' : Addr → Prop) (Yes : V → Hp → Prop) (No : Hp → Prop), i < n → Same H1 H2 → Ext M M' H1 H2 → Fr M' H2 → (∀ y H4 e, f i = some e → Same H2 H4 → Rp M' H4 y e → Yes y H4) → (∀ H4, f i = none → Same H2 H4 → No H4) → LcItem g tt te vs σ (.int (lo + i)) H2 Yes No)
    (hd : ∀ D H', H1 D = none → Same H1 H' → Rp M H' (.ref D) (.list ((List.range n).filterMap f)) → Qd D H') :
    ∀ D, H1 D = none → ∃ W : Nat → Nat → Hp → Prop, (∃ m, W 0 m (upd H1 D (.lst []))) ∧ ∀ i m H, W i m H →
      ((Itr lo n).stop i H ∧ Qd D H) ∨ ((Itr lo n).go i H ∧ ∃ Nx : Hp → Prop, (∀ H', Nx H' → ∃ m', m' < m ∧ W (i + 1) m' H') ∧ ∀ x H', (Itr lo n).yld i H x H' → g x (wipe σ vs) H' fun σ2 H2 => wipe σ2 vs = wipe σ vs ∧ tt σ2 H2 fun b H3 =>
        if b = true then te σ2 H3 fun y H4 => ∃ acc, H4 D = some (.lst acc) ∧ acc.length < sizeLine ∧ Nx (upd H4 D (.lst (acc ++ [y]))) else Nx H3) := by
  intro D hD
  refine lc_range (fun i H => LcInv M H1 D ((List.range i).filterMap f) H) (by simpa using LcInv.start hD) (fun i H hi w => ?_) (fun H w => ?_)
  · have er : (List.range (i + 1)).filterMap f = (List.range i).filterMap f ++ (f i).toList := by
      rw [List.range_succ, List.filterMap_append]
      cases q : f i <;> simp [q]
    refine hs i H _ (fun y H4 => _) (fun H4 => _) hi w.1 (w.ext hD) (w.fr fr) (fun y H4 e he s r => ?_) (fun H4 he s => ?_)
    · obtain ⟨acc, h1, h2, h3⟩ := w.more hD s r (Nat.lt_of_le_of_lt (List.length_filterMap_le f (List.range i)) (by rw [List.length_range]; omega))
      refine ⟨acc, h1, h2, ?_⟩
      rw [er, he]; exact h3
    · rw [er, he]
      obtain ⟨s1, ys, hy, ra⟩ := w
      exact ⟨Same.trans s1 s, ys, s _ _ hy, by simpa using ra.same s⟩
  · obtain ⟨s, r⟩ := w.out fr hD
    exact hd D H hD s r
end
end Sb

set_option Elab.async false
set_option maxRecDepth 100000
set_option maxHeartbeats 4000000
set_option linter.all false
/-! Marks as data; places; steps that want a fact of the data. -/
namespace Sb
open PySem L2
def markD (m : List Int) : PyData := .tuple (m.map PyData.int)
def joinM (a b : List Int) : List Int := List.zipWith max a b
section
variable {K : Frag} {M : Addr → Prop} {H : Hp} {v x y : V} {d : PyData} {xs : List V} {ds : List PyData} {a : Addr} {Q : VK} {i : Int} {m : List Int}
theorem ixN_nat {n : Nat} {i : Int} {j : Nat} (e : i = (j : Int)) (h : j < n) : ixN n i = some j := by
  unfold ixN
  subst e
  rw [if_pos (by omega), if_pos (by omega)]
  simp
theorem Rp.mark {M' : Addr → Prop} (h : Rp M H v (markD m)) : Rp M' H v (markD m) := by
  obtain ⟨a, xs, rfl, ha, r⟩ := Rp.tup_inv (ds := m.map PyData.int) h
  rw [r.ints_inv] at ha
  exact .tupA ha RpA.ints
/-- what stood already -/
def Old (H : Hp) : Addr → Prop := fun a => H a ≠ none
theorem fr_old (H : Hp) : Fr (Old H) H := fun a h z => z h
theorem Rp.old {M : Addr → Prop} {H H' : Hp} {v : V} {d : PyData} (fr : Fr M H) (h : Rp (Old H) H' v d) : Rp M H' v d := h.ext (Ext.less fun a m z => fr a z m)
theorem Rp.older {H0 H H' : Hp} {v : V} {d : PyData} (s : Same H0 H) (h : Rp (Old H) H' v d) : Rp (Old H0) H' v d := h.ext (Ext.less fun a m z => m (s.free z))
/-- t[i] of data -/
theorem w_ixT (j : Nat) (h : Rp M H x (.tuple ds)) (ei : i = (j : Int)) (e : ds[j]? = some d) (q : ∀ v, Rp M H v d → Q v H) : rIxT K x (.int i) H Q := by
  obtain ⟨a, xs, rfl, ha, r⟩ := h.tup_inv
  obtain ⟨v, hv, rv⟩ := r.at e
  exact ⟨a, xs, i, v, rfl, rfl, SqT.of ha, by rw [ei]; exact atI_nat hv, q v rv⟩
theorem w_ixL (j : Nat) (h : Rp M H x (.list ds)) (ei : i = (j : Int)) (e : ds[j]? = some d) (q : ∀ v, Rp M H v d → Q v H) : rIxL K x (.int i) H Q := by
  obtain ⟨a, xs, rfl, _, ha, r⟩ := h.lst_inv
  obtain ⟨v, hv, rv⟩ := r.at e
  exact ⟨a, xs, i, v, rfl, rfl, SqL.of ha, by rw [ei]; exact atI_nat hv, q v rv⟩
theorem w_ixM (j : Nat) (h : Rp M H x (markD m)) (ei : i = (j : Int)) (hj : j < m.length) (q : Q (.int (m.getD j 0)) H) : rIxT K x (.int i) H Q := by
  refine w_ixT j h ei (d := .int (m.getD j 0)) ?_ fun v r => ?_
  · rw [List.getElem?_map, List.getD_eq_getElem?_getD, List.getElem?_eq_getElem hj]; rfl
  · rw [r.int_inv]; exact q
/-- a display -/
def rNewT (xs : List V) (H : Hp) (Q : VK) : Prop := xs.length ≤ sizeLine ∧ ∀ p, H p = none → Q (.ref p) (upd H p (.tup xs))
def rNewL (xs : List V) (H : Hp) (Q : VK) : Prop := xs.length ≤ sizeLine ∧ ∀ p, H p = none → Q (.ref p) (upd H p (.lst xs))
theorem w_tTup {t : TA} {σ : L2.St} (q : t σ H fun xs H1 => rNewT xs H1 Q) : tTup t σ H Q := q
theorem w_tLst {t : TA} {σ : L2.St} (q : t σ H fun xs H1 => rNewL xs H1 Q) : tLst t σ H Q := q
theorem w_newT (r : RpA M H xs ds) (hl : xs.length ≤ sizeLine) (q : ∀ v H2, Same H H2 → Rp M H2 v (.tuple ds) → Q v H2) : rNewT xs H Q :=
  ⟨hl, fun p hp => q _ _ (Same.new hp) (.tupA upd_same (r.same (Same.new hp)))⟩
theorem w_newL (fr : Fr M H) (r : RpA M H xs ds) (hl : xs.length ≤ sizeLine) (q : ∀ v H2, Same H H2 → Rp M H2 v (.list ds) → Q v H2) : rNewL xs H Q :=
  ⟨hl, fun p hp => q _ _ (Same.new hp) (.lstA (fr p hp) upd_same (r.same (Same.new hp)))⟩
theorem sz_small {n : Nat} (h : n ≤ 100000) : n ≤ sizeLine := Nat.le_trans h (by decide)
theorem sz_smallL {n : Nat} (h : n < 100000) : n < sizeLine := Nat.lt_of_lt_of_le h (by decide)
/-! named readings of calls -/
def rTup (K : Frag) : List V → Hp → VK → Prop := fun xs H Q => ∃ p ys, xs = [.ref p] ∧ ((SqL K H p ys ∧ ∀ l, H l = none → Q (.ref l) (upd H l (.tup ys))) ∨ (SqT K H p ys ∧ Q (.ref p) H))
theorem cl_tup {X : Cx} : CallR X (.type "tuple") (rTup X.K) := call_tuple_of
def rLst (K : Frag) : List V → Hp → VK → Prop := fun xs H Q => ∃ p ys, xs = [.ref p] ∧ (SqL K H p ys ∨ SqT K H p ys) ∧ ∀ l, H l = none → Q (.ref l) (upd H l (.lst ys))
theorem cl_lst {X : Cx} : CallR X (.type "list") (rLst X.K) := call_list_of
def rLen (K : Frag) : List V → Hp → VK → Prop := fun xs H Q => ∃ p ys, xs = [.ref p] ∧ (SqL K H p ys ∨ SqT K H p ys) ∧ Q (.int ys.length) H
theorem cl_len {X : Cx} : CallR X (.builtin "len") (rLen X.K) := call_len_seq
def rMx : List V → Hp → VK → Prop := fun xs H Q => ∃ i j, xs = [.int i, .int j] ∧ Q (.int (if j > i then j else i)) H
theorem cl_max {X : Cx} (hc : X.calm = true) : CallR X (.builtin "max") rMx := call_max2 hc
/-- tuple(x), list(x) of new lists and tuples -/
theorem w_tupleL (h : Rp M H x (.list ds)) (q : ∀ v H2, Same H H2 → Rp M H2 v (.tuple ds) → Q v H2) : rTup K [x] H Q := by
  obtain ⟨a, xs, rfl, m, ha, r⟩ := h.lst_inv
  exact ⟨a, xs, rfl, .inl ⟨SqL.of ha, fun l hl => q _ _ (Same.new hl) (.tupA upd_same (r.same (Same.new hl)))⟩⟩
theorem w_listT (fr : Fr M H) (h : Rp M H x (.tuple ds)) (q : ∀ v H2, Same H H2 → Rp M H2 v (.list ds) → Q v H2) : rLst K [x] H Q := by
  obtain ⟨a, xs, rfl, ha, r⟩ := h.tup_inv
  exact ⟨a, xs, rfl, .inr (SqT.of ha), fun l hl => q _ _ (Same.new hl) (.lstA (fr l hl) upd_same (r.same (Same.new hl)))⟩
theorem w_listL (fr : Fr M H) (h : Rp M H x (.list ds)) (q : ∀ v H2, Same H H2 → Rp M H2 v (.list ds) → Q v H2) : rLst K [x] H Q := by
  obtain ⟨a, xs, rfl, m, ha, r⟩ := h.lst_inv
  exact ⟨a, xs, rfl, .inl (SqL.of ha), fun l hl => q _ _ (Same.new hl) (.lstA (fr l hl) upd_same (r.same (Same.new hl)))⟩
/-- len -/
theorem w_lenT (h : Rp M H x (.tuple ds)) (q : Q (.int ds.length) H) : rLen K [x] H Q := by
  obtain ⟨a, xs, rfl, ha, r⟩ := h.tup_inv
  exact ⟨a, xs, rfl, .inr (SqT.of ha), by rw [r.1]; exact q⟩
theorem w_lenL (h : Rp M H x (.list ds)) (q : Q (.int ds.length) H) : rLen K [x] H Q := by
  obtain ⟨a, xs, rfl, m, ha, r⟩ := h.lst_inv
  exact ⟨a, xs, rfl, .inl (SqL.of ha), by rw [r.1]; exact q⟩
theorem w_lenM (h : Rp M H x (markD m)) (q : Q (.int m.length) H) : rLen K [x] H Q := w_lenT h (by rw [List.length_map]; exact q)
theorem w_lenS (h : SqL K H a xs) (q : Q (.int xs.length) H) : rLen K [.ref a] H Q := ⟨a, xs, rfl, .inl h, q⟩
theorem w_max {i j : Int} (q : Q (.int (max i j)) H) : rMx [.int i, .int j] H Q := by
  refine ⟨i, j, rfl, ?_⟩
  have e : (if j > i then j else i) = max i j := by
    rw [Int.max_def]; split <;> split <;> omega
  rw [e]; exact q
/-- a comprehension's beginning -/
theorem w_lc {wi : TI} {g : TG} {tt : TT} {te : TE} {vs : List Nat} {σ : L2.St} (q : wi σ H fun J H1 => ∀ D, H1 D = none → ∃ W : Nat → Nat → Hp → Prop, (∃ m, W 0 m (upd H1 D (.lst []))) ∧ ∀ i m H, W i m H →
  (J.stop i H ∧ Q (.ref D) H) ∨ (J.go i H ∧ ∃ Nx : Hp → Prop, (∀ H', Nx H' → ∃ m', m' < m ∧ W (i + 1) m' H') ∧ ∀ x H', J.yld i H x H' → g x (wipe σ vs) H' fun σ2 H2 => wipe σ2 vs = wipe σ vs ∧ tt σ2 H2 fun b H3 =>
    if b = true then te σ2 H3 fun y H4 => ∃ acc, H4 D = some (.lst acc) ∧ acc.length < sizeLine ∧ Nx (upd H4 D (.lst (acc ++ [y]))) else Nx H3)) : tLc wi g tt te vs σ H Q := q
/-- a turn without a test, with one -/
theorem w_it0 {te : TE} {vs : List Nat} {σ : L2.St} {i : Nat} {Yes : V → Hp → Prop} {No : Hp → Prop} (hw : wipe ((wipe σ vs).set i (some x)) vs = wipe σ vs) (q : te ((wipe σ vs).set i (some x)) H Yes) : LcItem (gName i) tYes te vs σ x H Yes No :=
  ⟨hw, iteT (B := No H) q⟩
theorem w_it1 {te : TE} {tt : TT} {vs : List Nat} {σ : L2.St} {i : Nat} {Yes : V → Hp → Prop} {No : Hp → Prop} (hw : wipe ((wipe σ vs).set i (some x)) vs = wipe σ vs)
    (q : tt ((wipe σ vs).set i (some x)) H fun b H3 => if b = true then te ((wipe σ vs).set i (some x)) H3 Yes else No H3) : LcItem (gName i) tt te vs σ x H Yes No := ⟨hw, q⟩
section
variable {R : It → Hp → Prop} {ta : TA} {te : TE} {σ : L2.St}
theorem w_iRng1 (q : ta σ H fun vs H1 => ∃ j : Int, vs = [.int j] ∧ -(2 ^ 62) ≤ j ∧ j < 2 ^ 62 ∧ R (Itr 0 j.toNat) H1) : iRng1 ta σ H R := q
theorem w_iRng2 (q : ta σ H fun vs H1 => ∃ i j : Int, vs = [.int i, .int j] ∧ (-(2 ^ 62) ≤ i ∧ i < 2 ^ 62 ∧ -(2 ^ 62) ≤ j ∧ j < 2 ^ 62) ∧ R (Itr i (j - i).toNat) H1) : iRng2 ta σ H R := q
theorem w_iList (q : te σ H fun x H1 => ∃ a, x = .ref a ∧ (∃ xs, SqL K H1 a xs) ∧ R (Itl K a) H1) : iList K te σ H R := q
theorem w_iTup (q : te σ H fun x H1 => ∃ a, x = .ref a ∧ (∃ xs, SqT K H1 a xs) ∧ R (Itt K a) H1) : iTup K te σ H R := q
end
theorem joinM_get {m n : List Int} (e : m.length = n.length) {i : Nat} (hi : i < m.length) : (joinM m n)[i]? = some (max (m.getD i 0) (n.getD i 0)) := by
  unfold joinM
  rw [List.getElem?_zipWith, List.getElem?_eq_getElem hi, List.getElem?_eq_getElem (by omega), List.getD_eq_getElem?_getD, List.getD_eq_getElem?_getD, List.getElem?_eq_getElem hi, List.getElem?_eq_getElem (by omega)]
  rfl
theorem joinM_len {m n : List Int} (e : m.length = n.length) : (joinM m n).length = m.length := by
  unfold joinM
  rw [List.length_zipWith]; omega
theorem fm_some {f : Nat → PyData} (n : Nat) : (List.range n).filterMap (fun i => some (f i)) = (List.range n).map f := by
  rw [List.filterMap_eq_map']
theorem range_map_eq {α : Type} {f : Nat → α} {l : List α} {n : Nat} (hn : l.length = n) (h : ∀ i, i < n → l[i]? = some (f i)) : (List.range n).map f = l := by
  refine List.ext_getElem? fun i => ?_
  by_cases hi : i < n
  · rw [List.getElem?_map, List.getElem?_range hi, h i hi]; rfl
  · rw [List.getElem?_eq_none (by simp; omega), List.getElem?_eq_none (by omega)]
theorem fm_join {m n : List Int} (e : m.length = n.length) : (List.range ((m.length : Int)).toNat).filterMap (fun i => some (PyData.int (max (m.getD i 0) (n.getD i 0)))) = (joinM m n).map PyData.int := by
  rw [fm_some]
  refine range_map_eq (by rw [List.length_map, joinM_len e]; omega) fun i hi => ?_
  rw [List.getElem?_map, joinM_get e (by omega)]; rfl
/-- isinstance -/
theorem isi_of {t c : String} {b : Bool} (h : TyX K H x (.type t)) (k : kitB t c = some b) (q : Q (.bl b) H) : rIsi K [x, .ty c] H Q :=
  ⟨x, .ty c, .type t, .type c, b, rfl, .ty c, h, kit_ty k, q⟩
theorem Rp.tyT (h : Rp M H x (.tuple ds)) : TyX K H x (.type "tuple") := by
  obtain ⟨a, xs, rfl, ha, r⟩ := h.tup_inv
  exact .base (.tup ha)
theorem Rp.tyL (h : Rp M H x (.list ds)) : TyX K H x (.type "list") := by
  obtain ⟨a, xs, rfl, m, ha, r⟩ := h.lst_inv
  exact .base (.lst ha)
theorem w_isiTT (h : Rp M H x (.tuple ds)) (q : Q (.bl true) H) : rIsi K [x, .ty "tuple"] H Q := isi_of h.tyT (by decide +kernel) q
theorem w_isiLL (h : Rp M H x (.list ds)) (q : Q (.bl true) H) : rIsi K [x, .ty "list"] H Q := isi_of h.tyL (by decide +kernel) q
theorem w_isiLT (h : Rp M H x (.list ds)) (q : Q (.bl false) H) : rIsi K [x, .ty "tuple"] H Q := isi_of h.tyL (by decide +kernel) q
theorem w_isiII (q : Q (.bl true) H) : rIsi K [.int i, .ty "int"] H Q := isi_of (.base (.int i)) (by decide +kernel) q
theorem w_isiIB (q : Q (.bl false) H) : rIsi K [.int i, .ty "bool"] H Q := isi_of (.base (.int i)) (by decide +kernel) q
theorem w_isiBB {b : Bool} (q : Q (.bl true) H) : rIsi K [.bl b, .ty "bool"] H Q := isi_of (.base (.bl b)) (by decide +kernel) q
theorem w_isiBI {b : Bool} (q : Q (.bl true) H) : rIsi K [.bl b, .ty "int"] H Q := isi_of (.base (.bl b)) (by decide +kernel) q
theorem w_isiSI {b : Str} (q : Q (.bl false) H) : rIsi K [.str b, .ty "int"] H Q := isi_of (.base (.str b)) (by decide +kernel) q
theorem w_isiNI (q : Q (.bl false) H) : rIsi K [.non, .ty "int"] H Q := isi_of (.base .non) (by decide +kernel) q
theorem w_isiSS {b : Str} (q : Q (.bl true) H) : rIsi K [.str b, .ty "str"] H Q := isi_of (.base (.str b)) (by decide +kernel) q
/-- for -/
theorem w_for {wi : TI} {g : TG} {tb : TS} {D : Ends} {σ : L2.St} (q : wi σ H fun J H1 => ∃ W : Nat → Nat → L2.St → Hp → Prop, (∃ m, W 0 m σ H1) ∧ ∀ i m σ H, W i m σ H →
  (J.stop i H ∧ D.nx σ H) ∨ (J.go i H ∧ ∃ N : L2.St → Hp → Prop, (∀ σ' H', N σ' H' → ∃ m', m' < m ∧ W (i + 1) m' σ' H') ∧ ∀ x H', J.yld i H x H' → g x σ H' fun σ2 H2 => tb { D with nx := N, ct := N, bk := D.nx } σ2 H2)) : tFor wi g tb D σ H := q
/-- s[i] of a list as it stands -/
theorem w_ixS (j : Nat) (h : SqL K H a xs) (ei : i = (j : Int)) (e : xs[j]? = some v) (q : Q v H) : rIxL K (.ref a) (.int i) H Q := ⟨a, xs, i, v, rfl, rfl, h, by rw [ei]; exact atI_nat e, q⟩
end
theorem w_bm {K : Frag} {T : String} {r : V → List V → Hp → VK → Prop} {to : TE} {t : TA} {σ : L2.St} {H : Hp} {Q : VK} (q : to σ H fun x H1 => tyV K T x H1 ∧ t σ H1 fun xs H2 => r x xs H2 Q) : tBM K T r to t σ H Q := q
theorem ty_lst {K : Frag} {H : Hp} {a : Addr} {xs : List V} (h : SqL K H a xs) : tyV K "list" (.ref a) H := .inl ⟨rfl, xs, h⟩
/-- if c: x = e (and no else): both ways meet with a value of which P holds -/
theorem w_ifJoin {c : Prop} [Decidable c] {ts : TS} {D : Ends} {σ : L2.St} {H : Hp} (i : Nat) (old : V) (P : V → Prop) (hold : σ.set i (some old) = σ) (po : ¬ c → P old) (key : ∀ x, P x → D.nx (σ.set i (some x)) H)
    (hA : ∀ N : L2.St → Hp → Prop, (∀ x, P x → N (σ.set i (some x)) H) → c → ts { D with nx := N } σ H) : if c then ts D σ H else tNext D σ H := by
  by_cases h : c
  · rw [if_pos h]; exact hA D.nx key h
  · rw [if_neg h]
    show D.nx σ H
    have := key old (po h)
    rw [hold] at this
    exact this
theorem w_projn {f bk ct : L2.St → Hp → Prop} {rt : VK} {σ : L2.St} {H : Hp} (q : f σ H) : (Ends.mk f rt bk ct).nx σ H := q
theorem w_projr {f bk ct : L2.St → Hp → Prop} {rt : VK} {v : V} {H : Hp} (q : rt v H) : (Ends.mk f rt bk ct).rt v H := q
/-- a cut behind a statement -/
theorem w_cut {ts tu : TS} {D : Ends} {σ : L2.St} {H : Hp} (mid : L2.St → Hp → Prop) (h1 : ∀ N : L2.St → Hp → Prop, (∀ σ' H', mid σ' H' → N σ' H') → ts { D with nx := N } σ H) (h2 : ∀ σ' H', mid σ' H' → tu D σ' H') : tSeq ts tu D σ H := h1 (tu D) h2
theorem iteD {c : Prop} [Decidable c] {A B : Prop} (h : c) (q : A) : if decide c = true then A else B := by rw [if_pos (decide_eq_true h)]; exact q
theorem iteDn {c : Prop} [Decidable c] {A B : Prop} (h : ¬ c) (q : B) : if decide c = true then A else B := by rw [if_neg (fun z => h (of_decide_eq_true z))]; exact q
theorem iteN {b : Bool} {A B : Prop} (h : b = false) (q : B) : if b = true then A else B := by rw [h]; exact iteF q
theorem iteY {b : Bool} {A B : Prop} (h : b = true) (q : A) : if b = true then A else B := by rw [h]; exact iteT q
/-! equal data -/
theorem eqvAll_ints : ∀ m n : List Int, PyData.eqvAll (m.map PyData.int) (n.map PyData.int) = decide (m = n)
  | [], [] => rfl
  | [], _ :: _ => rfl
  | _ :: _, [] => rfl
  | a :: m, b :: n => by
    rw [List.map_cons, List.map_cons]
    unfold PyData.eqvAll
    rw [eqvAll_ints m n]
    unfold PyData.eqv
    by_cases h : a = b <;> by_cases h' : m = n <;> simp [h, h']
theorem eqv_mark (m n : List Int) : PyData.eqv (markD m) (markD n) = decide (m = n) := by
  unfold markD PyData.eqv
  exact eqvAll_ints m n
theorem lay_ints : ∀ m : List Int, PyData.canLayAll0 (m.map PyData.int) = true
  | [] => by simp [PyData.canLayAll0]
  | a :: m => by simp [PyData.canLayAll0, PyData.canLay0, lay_ints m]
theorem depth_ints : ∀ m : List Int, PyData.depthAll (m.map PyData.int) = 0
  | [] => by simp [PyData.depthAll]
  | a :: m => by simp [PyData.depthAll, PyData.depth, depth_ints m]
theorem shaped_mark (m : List Int) : SeqAt.shaped (markD m) = true := by
  unfold SeqAt.shaped markD
  simp [PyData.canLay0, lay_ints, PyData.depth, depth_ints]
section
variable {K : Frag} {M M' : Addr → Prop} {H : Hp} {x y : V} {m n : List Int} {Q : VK}
theorem w_eqM (h : Rp M H x (markD m)) (h' : Rp M' H y (markD n)) (q : Q (.bl (decide (m = n))) H) : rEqD K x y H Q :=
  ⟨_, _, h.dp, h'.dp, shaped_mark m, shaped_mark n, by rw [eqv_mark]; exact q⟩
theorem w_neM (h : Rp M H x (markD m)) (h' : Rp M' H y (markD n)) (q : Q (.bl (!decide (m = n))) H) : rNeD K x y H Q :=
  ⟨_, _, h.dp, h'.dp, shaped_mark m, shaped_mark n, by rw [eqv_mark]; exact q⟩
end
theorem w_chain {r r' : R2} {ta tb tc : TE} {σ : L2.St} {H : Hp} {Q : VK} (q : ta σ H fun x H1 => tb σ H1 fun y H2 => r x y H2 fun z H3 => ∃ k, z = .bl k ∧ (if k = true then tc σ H3 fun w' H4 => r' y w' H4 Q else Q (.bl false) H3)) : tChain r r' ta tb tc σ H Q := q
/-- the law's promise -/
def sp_law (K : Frag) : Sp := fun vs H Q _ => ∃ (b : Addr) (ns : List Int), vs = [.ref b] ∧ SqL K H b (ns.map V.int) ∧ ns.length ≤ 63 ∧ ∀ H', Q (.bl true) H'
section
variable {K : Frag} {σ : L2.St} {H H' : Hp} {Q : VK} {te tv ty td : TE} {tl th : TO} {a d p : Addr} {xs : List V} {lo hi : Option Int} {D : Ends} {M : Addr → Prop}
theorem w_sl {r : V → Option Int → Option Int → Hp → VK → Prop} (q : te σ H fun x H1 => tl σ H1 fun l H2 => th σ H2 fun u H3 => r x l u H3 Q) : tSl r te tl th σ H Q := q
theorem w_part {QO : Option Int → Hp → Prop} (q : te σ H fun x H1 => ∃ i, x = .int i ∧ QO (some i) H1) : tPart te σ H QO := q
theorem w_nopart {QO : Option Int → Hp → Prop} (q : QO none H) : tNoPart σ H QO := q
theorem w_exint {R : Int → Prop} {i : Int} (q : R i) : ∃ j, V.int i = V.int j ∧ R j := ⟨i, rfl, q⟩
theorem w_slL (h : SqL K H a xs) (q : ∀ ys p, cutV xs lo hi = ys → H p = none → Q (.ref p) (upd H p (.lst ys))) : rSlL K (.ref a) lo hi H Q := ⟨a, xs, rfl, h, fun p => q _ p rfl⟩
theorem w_dput (q : tv σ H fun v H1 => td σ H1 fun x H2 => ty σ H2 fun y H3 => ∃ a H4, x = .ref a ∧ DPut H3 a y v H4 ∧ D.nx σ H4) : sDPut td ty tv D σ H := q
theorem w_sFld {K : Frag} {ta tv : TE} {f : Str} (q : tv σ H fun y H1 => ta σ H1 fun x H2 => ∃ a C dx fs, x = .ref a ∧ H2 a = some (.ins C dx fs) ∧ Cls K C ∧ NoAttr K C f ∧ fs.length < 1000 ∧ D.nx σ (upd H2 a (.ins C dx (putF f y fs)))) : sFld K ta tv f D σ H := q
theorem w_dget2 {tx : TE} (q : td σ H fun x H1 => ∃ a, x = .ref a ∧ IsD H1 a ∧ ty σ H1 fun y H2 => tx σ H2 fun z H3 => ∃ o, DGet H3 a y o ∧ Q (o.getD z) H3) : tDGet2 td ty tx σ H Q := q
theorem w_dget (q : td σ H fun x H1 => ty σ H1 fun y H2 => ∃ a v, x = .ref a ∧ DGet H2 a y (some v) ∧ Q v H2) : tDGet td ty σ H Q := q
theorem w_gSub {to ti : TE} {ts : TSet} {v : V} {Qs : L2.St → Hp → Prop} (q : to σ H fun o H1 => ti σ H1 fun i H2 => ts o i v H2 fun H3 => Qs σ H3) : gSub to ti ts v σ H Qs := q
/-- all but d stands as before -/
def But (d : Addr) (H H' : Hp) : Prop := ∀ a o, a ≠ d → H a = some o → H' a = some o
theorem But.ext (b : But d H H') (hd : ∀ xs, H d ≠ some (.tup xs) ∧ (¬ M d → H d ≠ some (.lst xs))) : Ext M M H H' :=
  ⟨fun a xs e => b a _ (fun z => by subst z; exact (hd xs).1 e) e, fun a xs m e => ⟨m, b a _ (fun z => by subst z; exact (hd xs).2 m e) e⟩⟩
theorem But.trans {H'' : Hp} (b : But d H H') (b' : But d H' H'') : But d H H'' := fun a o n e => b' a o n (b a o n e)
theorem But.same (s : Same H H') : But d H H' := fun a o _ e => s a o e
theorem But.upd (o : HO) : But d H (upd H d o) := fun a u n e => by rw [upd_ne n]; exact e
theorem But.new (h : H d = none) (b : But d H H') : Same H H' := fun a o e => b a o (ne_of_none e h) e
end
section
variable {X : Cx} {o e : Expr} {es : List Expr} {to : TE} {t : TA} {name : Str} {apos cpos pos : Pos} {T id : String} {r : V → List V → Hp → VK → Prop}
theorem pe_bm0K (K : Frag) (hK : X.K = K) (pa : PlainAttrs T) (slot : Slot T name id) (hty : typeOf (.builtin id) = pure (.type "method_descriptor")) (hm : MtR X id r) (ho : PE X o to)
    (hbase : attributeBase o name X.env (eval o X.env) = eval o X.env := by rfl) (hline : (apos.endLine == cpos.line) = true := by rfl) : PE X (.Call (.Attribute o name apos) [] [] cpos) (tBM0 K T r to) :=
  hK ▸ pe_bm0 pa slot hty hm ho hbase hline
theorem pe_bmK (K : Frag) (hK : X.K = K) (pa : PlainAttrs T) (slot : Slot T name id) (hty : typeOf (.builtin id) = pure (.type "method_descriptor")) (hm : MtR X id r) (ho : PE X o to) (ha : PA X (e :: es) t)
    (hbase : attributeBase o name X.env (eval o X.env) = eval o X.env := by rfl)
    (hfew : ((backTo cpos (starEach (e :: es) X.env)).all (fun x => !x.1) && (backToKw cpos (keywordEach [] X.env)).all (fun x => x.1.isSome)
      && decide ((e :: es).length + ([] : List Keyword).length + (if ([] : List Keyword).isEmpty then 0 else 1) < 30)) = true := by rfl)
    (hline : (apos.endLine == cpos.line) = true := by rfl) (hs : starEach (e :: es) X.env = (false, eval e X.env) :: starEach es X.env := by rfl) (hplain : (backTo cpos (starEach es X.env)).any (·.1) = false := by rfl) :
    PE X (.Call (.Attribute o name apos) (e :: es) [] cpos) (tBM K T r to t) := hK ▸ pe_bm pa slot hty hm ho ha hbase hfew hline hs hplain
theorem pe_fldK (K : Frag) (hK : X.K = K) {ta : TE} {f : Str} (he : PE X e ta) (hb : attributeBase e f X.env (eval e X.env) = eval e X.env) : PE X (.Attribute e f pos) (tFld K ta f) := hK ▸ pe_fld he hb
end
end Sb

set_option Elab.async false
set_option maxRecDepth 100000
set_option maxHeartbeats 4000000
set_option linter.all false
/-! sorted of tuples of ints, any number of them, by the tuples' order. -/
namespace Sb
open PySem L2 PyProof.Rows
/-! ### the order -/
theorem lex_irr : ∀ x : List Int, HT.lexLt x x = false
  | [] => rfl
  | a :: x => by rw [HT.lexLt_cons, if_pos rfl, lex_irr x]
theorem lex_asym : ∀ x y : List Int, HT.lexLt x y = true → HT.lexLt y x = false
  | [], [], h => by cases h
  | [], b :: y, _ => HT.lexLt_cons_nil _ _
  | a :: x, [], h => by cases h
  | a :: x, b :: y, h => by
    rw [HT.lexLt_cons] at h ⊢
    by_cases e : a = b
    · subst e
      rw [if_pos rfl] at h ⊢
      exact lex_asym x y h
    · rw [if_neg e] at h
      rw [if_neg (fun z => e z.symm)]
      have := of_decide_eq_true h
      exact decide_eq_false (by omega)
theorem lex_ntr : ∀ x y z : List Int, HT.lexLt y x = false → HT.lexLt z y = false → HT.lexLt z x = false
  | [], y, z, _, _ => by cases z <;> rfl
  | a :: x, [], z, h, _ => by rw [HT.lexLt_nil_cons] at h; cases h
  | a :: x, b :: y, [], _, h => by rw [HT.lexLt_nil_cons] at h; cases h
  | a :: x, b :: y, c :: z, h1, h2 => by
    rw [HT.lexLt_cons] at h1 h2 ⊢
    by_cases e1 : b = a
    · subst e1
      rw [if_pos rfl] at h1
      by_cases e2 : c = b
      · subst e2
        rw [if_pos rfl] at h2 ⊢
        exact lex_ntr x y z h1 h2
      · rw [if_neg e2] at h2 ⊢
        exact h2
    · rw [if_neg e1] at h1
      have := of_decide_eq_false h1
      by_cases e2 : c = b
      · subst e2
        rw [if_neg e1]
        exact h1
      · rw [if_neg e2] at h2
        have := of_decide_eq_false h2
        rw [if_neg (by omega)]
        exact decide_eq_false (by omega)
theorem lex_anti : ∀ x y : List Int, HT.lexLt x y = false → HT.lexLt y x = false → x = y
  | [], [], _, _ => rfl
  | [], b :: y, h, _ => by rw [HT.lexLt_nil_cons] at h; cases h
  | a :: x, [], _, h => by rw [HT.lexLt_nil_cons] at h; cases h
  | a :: x, b :: y, h1, h2 => by
    rw [HT.lexLt_cons] at h1 h2
    by_cases e : a = b
    · subst e
      rw [if_pos rfl] at h1 h2
      rw [lex_anti x y h1 h2]
    · rw [if_neg e] at h1
      rw [if_neg (fun z => e z.symm)] at h2
      have := of_decide_eq_false h1
      have := of_decide_eq_false h2
      omega
theorem swo_lexL {α : Type} (k : α → List Int) : SrtO.Swo fun v u => HT.lexLt (k v) (k u) := ⟨fun _ _ h => lex_asym _ _ h, fun _ _ _ h1 h2 => lex_ntr _ _ _ h1 h2⟩
/-! ### the machine's comparisons -/
def TupI (h : Heap) (v : Value) (ns : List Int) : Prop := ∃ a o xs n, v = .ref a ∧ h.get? a = some o ∧ o.cls = .type "tuple" ∧ o.data = .seq xs n ∧ IntsAre xs.toList ns
theorem TupI.keeps {h h' : Heap} {v : Value} {ns : List Int} (p : TupI h v ns) (k : ∀ b o, h.get? b = some o → o.cls = .type "tuple" → h'.get? b = some o) : TupI h' v ns := by
  obtain ⟨a, o, xs, n, e, ho, hc, hd, hi⟩ := p
  exact ⟨a, o, xs, n, e, k _ _ ho hc, hc, hd, hi⟩
section
variable {prog : Program} {w : World} {A : Around} {E : Value → Shared → Prop} {s : Shared}
theorem lex_walk {fin : Bool} {Q : Bool → Shared → Prop} : ∀ {xs ys : List Value} {ns ms : List Int} (i : Nat), IntsAre xs ns → IntsAre ys ms → fin = decide (ns.length < ms.length) → Q (HT.lexLt ns ms) s →
    PySem.W.KatLex prog w A true fin Q (xs.zip ys) i s
  | _, _, _, _, i, .nil, .nil, hf, q => by subst hf; exact q
  | _, _, _, _, i, .nil, .cons b u r, hf, q => by subst hf; exact q
  | _, _, _, _, i, .cons a t r, .nil, hf, q => by subst hf; exact q
  | _, _, _, _, i, .cons a t rx, .cons b u ry, hf, q => by
    rw [HT.lexLt_cons] at q
    show PySem.W.KatLex prog w A true fin Q ((_, _) :: _) i s
    refine PySem.W.kat_cons (SeqAt.EqAt.int_int a t b u prog w _ _ ?_)
    refine PySem.W.kat_go (fun e1 => ?_) (fun e1 => ?_)
    · have ex : a = b := by simpa using e1
      rw [if_pos ex] at q
      refine PySem.W.kat_yes (lex_walk (i + 1) rx ry ?_ q)
      rw [hf]
      simp
    · have ex : ¬ a = b := by simpa using e1
      rw [if_neg ex] at q
      exact PySem.W.kat_no (TS.oneLt_ints _ q)
theorem tupI_cmp {vs : List Value} {k : Value → List Int} (hp : ∀ v ∈ vs, TupI s.heap v (k v)) : SrtO.Cmp prog w A s (tuples' true) (fun p => p.1 ∈ vs) (SrtO.lt2 fun v u => HT.lexLt (k v) (k u)) := by
  intro p q hm hm'
  have h1 := hp _ hm
  have h2 := hp _ hm'
  show wpAny (model prog w) A (PyProof.Rows.keyLt' (PyProof.Rows.tuples' true) p.1 q.1) (fun r s' => s' = s ∧ r = HT.lexLt (k p.1) (k q.1)) (fun _ _ => False) s
  generalize k p.1 = x at h1 ⊢
  generalize k q.1 = y at h2 ⊢
  obtain ⟨a, o, xs, n, e, ho, hc, hd, hi⟩ := h1
  obtain ⟨a', o', ys, n', e', ho', hc', hd', hi'⟩ := h2
  rw [e, e']
  refine PySem.W.kat_lt ho hd ho' hd' ?_
  refine lex_walk 0 hi hi' ?_ ⟨rfl, rfl⟩
  have l1 := hi.length
  have l2 := hi'.length
  rw [← l1, ← l2, Array.length_toList, Array.length_toList]
theorem tupI_firsts {h : Heap} {k : Value → List Int} : ∀ {vs : List Value}, (∀ v ∈ vs, TupI h v (k v) ∧ k v ≠ []) → ∃ fs : List Value, PySem.W.KatTups h vs fs ∧ fs.length = vs.length ∧ ∀ f ∈ fs, ∃ x t, f = Value.int x t
  | [], _ => ⟨[], PySem.W.KatTups.nil, rfl, fun _ hm => by simp at hm⟩
  | v :: vs, hp => by
    obtain ⟨fs, h1, h2, h3⟩ := tupI_firsts (vs := vs) fun v' hm => hp v' (List.mem_cons_of_mem _ hm)
    obtain ⟨⟨a, o, xs, n, e, ho, hc, hd, hi⟩, hne⟩ := hp v (List.mem_cons_self ..)
    subst e
    obtain ⟨x, t, r, ex⟩ : ∃ x t r, xs.toList = Value.int x t :: r := by
      generalize k (Value.ref a) = ns at hi hne
      cases q : xs.toList with
      | nil => rw [q] at hi; cases hi; exact absurd rfl hne
      | cons y ys => rw [q] at hi; cases hi; exact ⟨_, _, _, rfl⟩
    refine ⟨.int x t :: fs, PySem.W.KatTups.cons ho hc hd ?_ h1, by rw [List.length_cons, List.length_cons, h2], fun f hm => ?_⟩
    · rw [← Array.getElem?_toList, ex]; rfl
    · rcases List.mem_cons.mp hm with rfl | hm
      · exact ⟨x, t, rfl⟩
      · exact h3 f hm
theorem tupI_sortable {a : Addr} {vs : List Value} {k : Value → List Int} (h0 : 0 < vs.length) (hp : ∀ v ∈ vs, TupI s.heap v (k v) ∧ k v ≠ []) (ha : ∀ o, s.heap.get? a = some o → o.cls ≠ .type "tuple") :
    SrtO.SortableO prog w A s a vs fun v u => HT.lexLt (k v) (k u) := by
  intro h' keep
  have hp' : ∀ v ∈ vs, TupI h' v (k v) ∧ k v ≠ [] := fun v hm => ⟨(hp v hm).1.keeps fun b o e c => keep b o (fun z => by subst z; exact ha o e c) e, (hp v hm).2⟩
  obtain ⟨fs, h1, h2, h3⟩ := tupI_firsts hp'
  refine ⟨PyProof.Rows.tuples' true, fun Q E hq => ?_, tupI_cmp fun v hm => (hp' v hm).1⟩
  refine PySem.W.kat_kind (T := .type "int") h1 (by omega) (fun f hm => ?_) (by rfl) ?_
  · obtain ⟨x, t, rfl⟩ := h3 f hm
    exact PySem.W.Looks.now
  · have e : (Value.type "int" != Value.type "tuple") = true := by first | decide +kernel | rfl | decide
    rw [e]
    exact hq
end
end Sb

set_option Elab.async false
set_option maxRecDepth 100000
set_option maxHeartbeats 4000000
set_option linter.all false
/-! sorted(..) as rules: a list of tuples of ints, a dict whose keys are such. -/
namespace Sb
open PySem L2 PyProof.Rows
def tupD (l : List Int) : PyData := .tuple (l.map PyData.int)
def intOf : V → Int
  | .int i => i
  | _ => 0
/-- the ints of the tuple that stands at a value -/
def ktup (H : Hp) : V → List Int
  | .ref t => match H t with
    | some (.tup xs) => xs.map intOf
    | _ => []
  | _ => []
theorem ktup_at {H : Hp} {t : Addr} {ns : List Int} (h : H t = some (.tup (ns.map V.int))) : ktup H (.ref t) = ns := by
  show (match H t with
    | some (.tup xs) => xs.map intOf
    | _ => []) = ns
  rw [h]
  show (ns.map V.int).map intOf = ns
  rw [List.map_map]
  have e : (intOf ∘ V.int) = id := funext fun i => rfl
  rw [e, List.map_id]
def sortL (ls : List (List Int)) : List (List Int) := ls.mergeSort fun a b => !HT.lexLt b a
theorem le_trans_lex (a b c : List Int) (h1 : (!HT.lexLt b a) = true) (h2 : (!HT.lexLt c b) = true) : (!HT.lexLt c a) = true := by
  simp only [Bool.not_eq_true'] at h1 h2 ⊢
  exact lex_ntr a b c h1 h2
theorem le_total_lex (a b : List Int) : ((!HT.lexLt b a) || (!HT.lexLt a b)) = true := by
  cases h : HT.lexLt b a with
  | false => rfl
  | true => rw [lex_asym _ _ h]; rfl
theorem sortL_perm (ls : List (List Int)) : (sortL ls).Perm ls := List.mergeSort_perm _ _
theorem sortL_srt (ls : List (List Int)) : (sortL ls).Pairwise fun a b => HT.lexLt b a = false :=
  (List.pairwise_mergeSort le_trans_lex le_total_lex ls).imp fun h => by simpa using h
theorem sortL_uniq {ls ys : List (List Int)} (p : ys.Perm ls) (h : ys.Pairwise fun a b => HT.lexLt b a = false) : ys = sortL ls :=
  List.Perm.eq_of_pairwise (le := fun a b => HT.lexLt b a = false) (fun a b _ _ h1 h2 => (lex_anti b a h1 h2).symm) h (sortL_srt ls) (p.trans (sortL_perm ls).symm)
section
variable {M : Addr → Prop} {H : Hp} {x : V} {xs ys zs : List V} {ls : List (List Int)}
theorem Rp.ktup {l : List Int} (h : Rp M H x (tupD l)) : ∃ t, x = .ref t ∧ H t = some (.tup (l.map V.int)) ∧ ktup H x = l := by
  obtain ⟨a, xs, rfl, ha, r⟩ := Rp.tup_inv (ds := l.map PyData.int) h
  rw [r.ints_inv] at ha
  exact ⟨a, rfl, ha, ktup_at ha⟩
theorem RpA.ktups (h : RpA M H zs (ls.map tupD)) : zs.map (Sb.ktup H) = ls := by
  refine List.ext_getElem? fun i => ?_
  rw [List.getElem?_map]
  cases e : ls[i]? with
  | none =>
    have := List.getElem?_eq_none_iff.mp e
    have := h.1
    rw [List.getElem?_eq_none (by rw [List.length_map] at this; omega)]
    rfl
  | some l =>
    obtain ⟨x, hx, r⟩ := h.at (i := i) (d := tupD l) (by rw [List.getElem?_map, e]; rfl)
    obtain ⟨t, _, _, ek⟩ := r.ktup
    rw [hx, Option.map_some, ek]
/-- sorted, as data -/
theorem RpA.sorted (h : RpA M H zs (ls.map tupD)) (p : ys.Perm zs) (s : ys.Pairwise fun a b => HT.lexLt (Sb.ktup H b) (Sb.ktup H a) = false) : RpA M H ys ((sortL ls).map tupD) := by
  have e1 := h.ktups
  have e2 : ys.map (Sb.ktup H) = sortL ls := sortL_uniq (by rw [← e1]; exact p.map _) (List.pairwise_map.mpr s)
  rw [← e2]
  refine ⟨by rw [List.length_map, List.length_map], fun i x d hx hd => ?_⟩
  rw [List.map_map, List.getElem?_map, hx] at hd
  have hd : tupD (Sb.ktup H x) = d := Option.some.inj hd
  subst hd
  have hm : x ∈ zs := p.mem_iff.mp (List.mem_of_getElem? hx)
  obtain ⟨j, hj⟩ := List.mem_iff_getElem?.mp hm
  obtain ⟨d, hd, r⟩ := h.atx hj
  rw [List.getElem?_map] at hd
  cases e : ls[j]? with
  | none => rw [e] at hd; cases hd
  | some l =>
    rw [e] at hd
    have hd : tupD l = d := Option.some.inj hd
    subst hd
    obtain ⟨t, _, _, ek⟩ := r.ktup
    rw [ek]
    exact r
end
theorem RpA.tups {M M' : Addr → Prop} {H : Hp} {xs : List V} {ls : List (List Int)} (h : RpA M H xs (ls.map tupD)) : RpA M' H xs (ls.map tupD) := by
  refine ⟨h.1, fun i x d hx hd => ?_⟩
  have r := h.2 i x d hx hd
  rw [List.getElem?_map] at hd
  cases e : ls[i]? with
  | none => rw [e] at hd; cases hd
  | some l =>
    rw [e] at hd
    have hd : tupD l = d := Option.some.inj hd
    subst hd
    exact Rp.mark r
theorem paired_get {α β : Type} {F : α → β → Prop} : ∀ {l₁ : List α} {l₂ : List β} {i : Nat} {b : β}, Paired F l₁ l₂ → l₂[i]? = some b → ∃ a, l₁[i]? = some a ∧ F a b
  | _, _, _, _, .nil, e => by simp at e
  | _, _, 0, _, .cons r _, e => by simp at e; subst e; exact ⟨_, rfl, r⟩
  | _, _, i + 1, b, .cons _ t, e => by
    obtain ⟨a, h1, h2⟩ := paired_get (i := i) (b := b) t (by simpa using e)
    exact ⟨a, by simpa using h1, h2⟩
def rSortedT (K : Frag) : List V → Hp → VK → Prop := fun vs H Q => ∃ (a : Addr) (xs : List V), vs = [V.ref a] ∧ SqL K H a xs ∧ (∀ x ∈ xs, ∃ t ns, x = V.ref t ∧ H t = some (.tup (ns.map V.int)) ∧ ns ≠ []) ∧
  ∀ ys p, (ys.Pairwise fun a b => HT.lexLt (ktup H b) (ktup H a) = false) → ys.Perm xs → H p = none → Q (.ref p) (upd H p (.lst ys))
/-- sorted(d), d a dict whose keys are tuples of ints -/
def rSortedDT : List V → Hp → VK → Prop := fun vs H Q => ∃ (a : Addr) (kvs : List (List Key × V)) (ks : List (List Int)), vs = [V.ref a] ∧ H a = some (.dT kvs) ∧ kvs.map (·.1) = ks.map (fun l => l.map Sum.inl) ∧ (∀ l ∈ ks, l ≠ []) ∧
  ∀ ys p, H p = none → (∀ M, RpA M H ys ((sortL ks).map tupD)) → Q (.ref p) (upd H p (.lst ys))
section
variable {X : Cx}
theorem tupI_of {P : Program} {w : World} {H : Hp} {h : Heap} {t : Addr} {ns : List Int} (hok : HOk P w H h) (e : H t = some (.tup (ns.map V.int))) : TupI h (.ref t) ns := by
  obtain ⟨_, its, r, o, ho, hc, n, hd⟩ := hok _ _ e
  exact ⟨t, o, its.toArray, n, rfl, ho, hc, hd, r.ints⟩
theorem cr_sortedT {X : Cx} : CallR X (.builtin "sorted") (rSortedT X.K) := by
  intro pins s σ H vs us Q I r h
  obtain ⟨a, xs, rfl, hs, hx, q⟩ := h
  obtain ⟨its, rv, hl, hz⟩ := I.list hs
  obtain ⟨u, rfl, ru⟩ := vals1 r
  obtain rfl : u = Value.ref a := ru
  obtain ⟨e1, e2⟩ := refs_back rv fun x m => by
    obtain ⟨t, ns, e, _⟩ := hx x m
    exact ⟨t, e⟩
  have hp : ∀ v ∈ its, TupI s.heap v (ktup H (backV v)) ∧ ktup H (backV v) ≠ [] := fun v hv => by
    obtain ⟨t, rfl⟩ := e2 v hv
    have hm : V.ref t ∈ xs := by rw [e1]; exact List.mem_map.mpr ⟨_, hv, rfl⟩
    obtain ⟨t', ns, e, ht, hne⟩ := hx _ hm
    cases e
    have ek : ktup H (backV (Value.ref t)) = ns := ktup_at ht
    rw [ek]
    exact ⟨tupI_of I.hok ht, hne⟩
  refine SrtO.sorted_ord (swo_lexL fun u => ktup H (backV u)) hl.isList (by rw [← rv.length]; exact hz) (fun h2 h₁ a' ha' kk => tupI_sortable (s := { s with heap := h₁ }) (by omega) (fun v hv => ⟨(hp v hv).1.keeps fun b o e _ => (kk b o e).2, (hp v hv).2⟩) fun o e => ?_) fun out h1 h2 => ?_
  · have e' : some o = some (PyProof.Rows.seqObj "list" its.toArray 0) := e.symm.trans ha'
    cases e'
    intro c
    exact absurd (Value.type.inj c) (by decide)
  · obtain ⟨ep, he'⟩ := PyProof.Rows.sortedAll_at s.heap its out.toArray
    have h3 : ∀ u ∈ out, ∃ a, u = Value.ref a := fun u hu => e2 u (h2.perm.mem_iff.mp hu)
    have hperm : (out.map backV).Perm xs := by rw [e1]; exact h2.perm.map _
    have hlen : (out.map backV).length ≤ sizeLine := by rw [hperm.length_eq]; exact hz
    exact ⟨.ref _, upd H (s.heap.objs.size + 1) (.lst (out.map backV)), I.laid (t' := s.toks) (fun _ _ => PyProof.Rows.sortedAll_old) (Nat.le_succ _) ⟨hlen, out, ep, vals_back h3, he'⟩, rfl,
      q _ _ (List.pairwise_map.mpr h1) hperm (I.hok.fresh (Nat.le_succ _))⟩
theorem cr_sortedDT {X : Cx} (hcalm : X.calm = true) : CallR X (.builtin "sorted") rSortedDT := by
  intro pins s σ H vs us Q I r h
  obtain ⟨a, kvs, ks, rfl, hd, hks, hne, q⟩ := h
  obtain ⟨u, rfl, ru⟩ := vals1 r
  obtain rfl : u = Value.ref a := ru
  obtain ⟨hz, lo, xs, rel, o, es, ep, ho, hex, hdat, hes, hnd⟩ := I.hok a _ hd
  have raw : s.heap.DictRaw a es ep := ⟨o, ho, hex, hdat⟩
  have hlen : es.size = kvs.length := by
    have := congrArg List.length hes
    rw [Array.length_toList, List.length_map] at this
    rw [this, ← Paired.length rel]
  have hkl : kvs.length = ks.length := by
    have := congrArg List.length hks
    rwa [List.length_map, List.length_map] at this
  refine Calls.call_function_entry PyProof.Rows.kind_sorted PyProof.Rows.plain_sorted PyProof.Rows.entry_sorted (PyProof.Rows.args_sorted1 _) ?_
  unfold Builtin.«sorted»
  refine wpAny_bind (m := checkCount "sorted" 1 1 _) (wpAny_pure ?_)
  refine wpAny_bind (PySem.W.kdu_collect (A := X.A.in1) (KdlSrc.rawDict lo) (I.ok.hd hcalm) raw (by rw [hlen]; exact hz) fun h' tk acc hk hacc => ?_)
  have hal : acc.toList = (xs.map fun y => Value.ref y.2.1) := by
    refine List.ext_getElem? fun i => ?_
    cases e : acc.toList[i]? with
    | none =>
      have := List.getElem?_eq_none_iff.mp e
      rw [Array.length_toList, hacc.1, hlen, Paired.length rel] at this
      rw [List.getElem?_eq_none (by rw [List.length_map]; exact this)]
    | some v =>
      obtain ⟨hi, ev⟩ := hacc.2 i v (by rw [← Array.getElem?_toList]; exact e)
      have h1 : es.toList[i]? = some es[i] := by rw [Array.getElem?_toList]; exact Array.getElem?_eq_getElem hi
      rw [hes, List.getElem?_map] at h1
      cases h2 : xs[i]? with
      | none => rw [h2] at h1; cases h1
      | some y =>
        rw [h2] at h1
        have h1 := Option.some.inj h1
        rw [List.getElem?_map, h2, ev, ← h1]
        rfl
  have hxk : RpA (fun _ => False) H (xs.map fun y => V.ref y.2.1) (ks.map tupD) := by
    refine ⟨by rw [List.length_map, List.length_map, ← hkl, Paired.length rel], fun i x d hx hd' => ?_⟩
    rw [List.getElem?_map] at hx hd'
    cases e1 : xs[i]? with
    | none => rw [e1] at hx; cases hx
    | some y =>
      cases e2 : ks[i]? with
      | none => rw [e2] at hd'; cases hd'
      | some l =>
        rw [e1] at hx
        rw [e2] at hd'
        have hx : V.ref y.2.1 = x := Option.some.inj hx
        have hd' : tupD l = d := Option.some.inj hd'
        subst hx hd'
        obtain ⟨kv, hkv, rk⟩ := paired_get rel e1
        have e3 : (kvs.map (·.1))[i]? = some (l.map Sum.inl) := by rw [hks, List.getElem?_map, e2]; rfl
        rw [List.getElem?_map, hkv] at e3
        have e3 : kv.1 = l.map Sum.inl := Option.some.inj e3
        have ht := rk.2.1
        rw [e3, List.map_map] at ht
        have e4 : (kV ∘ Sum.inl : Int → V) = V.int := funext fun i => rfl
        rw [e4] at ht
        exact .tupA ht RpA.ints
  have hitem : ∀ v ∈ acc.toList, TupI s.heap v (ktup H (backV v)) ∧ ktup H (backV v) ≠ [] := fun v hv => by
    rw [hal] at hv
    obtain ⟨y, hy, rfl⟩ := List.mem_map.mp hv
    obtain ⟨i, hi⟩ := List.mem_iff_getElem?.mp hy
    obtain ⟨d, hdd, r⟩ := hxk.atx (i := i) (x := V.ref y.2.1) (by rw [List.getElem?_map, hi]; rfl)
    rw [List.getElem?_map] at hdd
    cases e2 : ks[i]? with
    | none => rw [e2] at hdd; cases hdd
    | some l =>
      rw [e2] at hdd
      have hdd : tupD l = d := Option.some.inj hdd
      subst hdd
      obtain ⟨t, et, ht, ek⟩ := r.ktup
      have ek' : ktup H (backV (Value.ref y.2.1)) = l := ek
      rw [ek']
      cases et
      exact ⟨tupI_of I.hok ht, hne l (List.mem_of_getElem? e2)⟩
  have I1 : Inv X pins σ H { s with heap := h', toks := tk } := I.kept hk
  have hsz : acc.toList.length ≤ sizeLine := by rw [Array.length_toList, hacc.1, hlen]; exact hz
  refine wpAny_bind (wpAny_newList ?_ hsz)
  have hoL : (h'.push (PyProof.Rows.seqObj "list" acc.toList.toArray 0)).get? h'.objs.size = some (PyProof.Rows.seqObj "list" acc.toList.toArray 0) := Heap.get?_push_size _ rfl
  show wpAny _ _ _ _ _ { s with heap := h'.push (PyProof.Rows.seqObj "list" acc.toList.toArray 0), toks := tk }
  refine wpAny_bind (wpAny_holding (wpAny_call_entry PyProof.Rows.slot_list_sort ⟨_, hoL, rfl⟩ PyProof.Rows.entry_list_sort
    (SrtO.list_sort_ord (s := { s with heap := h'.push (PyProof.Rows.seqObj "list" acc.toList.toArray 0), toks := tk }) (swo_lexL fun u => ktup H (backV u)) hoL hsz
      (fun h2 => tupI_sortable (by omega) (fun v hv => ⟨(hitem v hv).1.keeps fun b o e _ => Heap.get?_push_of_some _ (hk b o e), (hitem v hv).2⟩) fun o e => ?_) fun out h1 h2 => ⟨_, rfl, ?_⟩)
    (PyProof.Rows.args_list_sort _)))
  · have e' : some o = some (PyProof.Rows.seqObj "list" acc.toList.toArray 0) := e.symm.trans hoL
    cases e'
    intro c
    exact absurd (Value.type.inj c) (by decide)
  · obtain ⟨e', he'⟩ := PyProof.Rows.sortedHeap_at (vs := acc.toList) (out := out.toArray) hoL
    have h3 : ∀ u ∈ out, ∃ a, u = Value.ref a := fun u hu => by
      have := h2.perm.mem_iff.mp hu
      rw [hal] at this
      obtain ⟨y, _, rfl⟩ := List.mem_map.mp this
      exact ⟨_, rfl⟩
    have hperm : (out.map backV).Perm (xs.map fun y => V.ref y.2.1) := by
      have := h2.perm.map backV
      rw [hal, List.map_map] at this
      exact this
    have hlen' : (out.map backV).length ≤ sizeLine := by rw [hperm.length_eq, List.length_map, ← Paired.length rel]; exact hz
    have hsrt := hxk.sorted hperm (List.pairwise_map.mpr h1)
    refine wpAny_pure ⟨_, rfl, .ref h'.objs.size, upd H h'.objs.size (.lst (out.map backV)), I1.laid (t' := tk) (fun b u e => ?_) (Nat.le_refl _) ⟨hlen', out, e', vals_back h3, he'⟩, rfl,
      q _ _ (I1.hok.fresh (Nat.le_refl _)) fun M => hsrt.tups⟩
    have hb : b < h'.objs.size := Heap.lt_size e
    rw [PyProof.Rows.sortedHeap_old (Nat.ne_of_lt hb) (by rw [PyProof.Rows.size_push']; exact Nat.lt_succ_of_lt hb)]
    exact Heap.get?_push_of_some _ e
end
section
variable {M : Addr → Prop} {H : Hp} {x : V} {Q : VK} {ls : List (List Int)} {K : Frag} {ds : List PyData} {rs : List (Int × Int × Int)}
theorem w_sortT (fr : Fr M H) (h : Rp M H x (.list (ls.map tupD))) (hne : ∀ l ∈ ls, l ≠ []) (q : ∀ p H2, H p = none → Same H H2 → Rp M H2 (.ref p) (.list ((sortL ls).map tupD)) → Q (.ref p) H2) : rSortedT K [x] H Q := by
  obtain ⟨a, xs, rfl, m, ha, r⟩ := h.lst_inv
  refine ⟨a, xs, rfl, SqL.of ha, fun x hx => ?_, fun ys p hs hp hn => ?_⟩
  · obtain ⟨i, hi⟩ := List.mem_iff_getElem?.mp hx
    obtain ⟨d, hd, rd⟩ := r.atx hi
    rw [List.getElem?_map] at hd
    cases e : ls[i]? with
    | none => rw [e] at hd; cases hd
    | some l =>
      rw [e] at hd
      have hd : tupD l = d := Option.some.inj hd
      subst hd
      obtain ⟨t, et, ht, _⟩ := rd.ktup
      exact ⟨t, l, et, ht, hne l (List.mem_of_getElem? e)⟩
  · exact q _ _ hn (Same.new hn) (.lstA (fr p hn) upd_same ((r.sorted hp hs).same (Same.new hn)))
end
end Sb

set_option Elab.async false
set_option maxRecDepth 100000
set_option maxHeartbeats 4000000
set_option linter.all false
/-! Rows and shelves as data; what their defs reckon. -/
namespace Sb
open PySem L2 PyProof.Rows
abbrev Row := Int × Int × Int
abbrev Shelf := List Int × List Row
def rowL (r : Row) : List Int := [r.1, r.2.1, r.2.2]
def rowD (r : Row) : PyData := tupD (rowL r)
def rowsD (rs : List Row) : PyData := .list (rs.map rowD)
def shelfD (s : Shelf) : PyData := .tuple [markD s.1, rowsD s.2]
theorem rowL_inj {a b : Row} (h : rowL a = rowL b) : a = b := by
  obtain ⟨a1, a2, a3⟩ := a
  obtain ⟨b1, b2, b3⟩ := b
  simp only [rowL, List.cons.injEq] at h
  obtain ⟨rfl, rfl, rfl, _⟩ := h
  rfl
def rowLe (a b : Row) : Prop := HT.lexLt (rowL b) (rowL a) = false
def sortR (rs : List Row) : List Row := rs.mergeSort fun a b => !HT.lexLt (rowL b) (rowL a)
theorem sortR_perm (rs : List Row) : (sortR rs).Perm rs := List.mergeSort_perm _ _
theorem sortR_srt (rs : List Row) : (sortR rs).Pairwise rowLe :=
  (List.pairwise_mergeSort (le := fun a b => !HT.lexLt (rowL b) (rowL a)) (fun a b c h1 h2 => le_trans_lex (rowL a) (rowL b) (rowL c) h1 h2) (fun a b => le_total_lex (rowL a) (rowL b)) rs).imp fun h => by simpa [rowLe] using h
theorem rowLe_anti {a b : Row} (h1 : rowLe a b) (h2 : rowLe b a) : a = b := rowL_inj (lex_anti _ _ h2 h1)
theorem sortR_uniq {rs ys : List Row} (p : ys.Perm rs) (h : ys.Pairwise rowLe) : ys = sortR rs :=
  List.Perm.eq_of_pairwise (le := rowLe) (fun a b _ _ h1 h2 => rowLe_anti h1 h2) h (sortR_srt rs) (p.trans (sortR_perm rs).symm)
theorem sortL_rows (rs : List Row) : sortL (rs.map rowL) = (sortR rs).map rowL :=
  (sortL_uniq ((sortR_perm rs).map _) (List.pairwise_map.mpr (sortR_srt rs))).symm
theorem sortR_len (rs : List Row) : (sortR rs).length = rs.length := (sortR_perm rs).length_eq
theorem mem_sortR {r : Row} {rs : List Row} : r ∈ sortR rs ↔ r ∈ rs := (sortR_perm rs).mem_iff
def seen (m : List Int) (r : Row) : Bool := decide (r.2.1 ≤ m.getD r.1.toNat 0)
def unseen (rs : List Row) (m : List Int) : List Row := rs.filter fun r => !seen m r
def putOn (s : Shelf) (k : Nat) (v : Int) (m : List Int) : Shelf :=
  ((joinM s.1 m).set k (s.1.getD k 0 + 1), sortR (unseen s.2 m ++ [((k : Int), s.1.getD k 0 + 1, v)]))
def droppedS (s : Shelf) (m : List Int) : Shelf := (joinM s.1 m, unseen s.2 m)
def metRows (s t : Shelf) : List Row := s.2.filter (fun r => decide (r ∈ t.2)) ++ unseen s.2 t.1 ++ unseen t.2 s.1
def metS (s t : Shelf) : Shelf := (joinM s.1 t.1, sortR (metRows s t))
/-- every row's keeper is there -/
def Rin (n : Nat) (rs : List Row) : Prop := ∀ r ∈ rs, 0 ≤ r.1 ∧ r.1 < n
theorem Rin.unseen {n : Nat} {rs : List Row} {m : List Int} (h : Rin n rs) : Rin n (unseen rs m) := fun r hr => h r (List.mem_filter.mp hr).1
theorem Rin.sort {n : Nat} {rs : List Row} (h : Rin n rs) : Rin n (sortR rs) := fun r hr => h r (mem_sortR.mp hr)
theorem Rin.app {n : Nat} {rs qs : List Row} (h : Rin n rs) (h' : Rin n qs) : Rin n (rs ++ qs) := fun r hr => (List.mem_append.mp hr).elim (h r) (h' r)
/-! equal rows -/
theorem eqv_row (a b : Row) : PyData.eqv (rowD a) (rowD b) = decide (a = b) := by
  have e : PyData.eqv (rowD a) (rowD b) = decide (rowL a = rowL b) := eqv_mark (rowL a) (rowL b)
  rw [e]
  by_cases h : a = b
  · subst h; simp
  · rw [decide_eq_false h, decide_eq_false fun z => h (rowL_inj z)]
theorem eqvAll_rows : ∀ a b : List Row, PyData.eqvAll (a.map rowD) (b.map rowD) = decide (a = b)
  | [], [] => rfl
  | [], _ :: _ => rfl
  | _ :: _, [] => rfl
  | r :: a, q :: b => by
    rw [List.map_cons, List.map_cons]
    unfold PyData.eqvAll
    rw [eqvAll_rows a b, eqv_row]
    by_cases h : r = q <;> by_cases h' : a = b <;> simp [h, h']
theorem eqv_rows (a b : List Row) : PyData.eqv (rowsD a) (rowsD b) = decide (a = b) := by
  unfold rowsD PyData.eqv
  exact eqvAll_rows a b
theorem lay_row (r : Row) : PyData.canLay0 (rowD r) = true := by
  show PyData.canLayAll0 ((rowL r).map PyData.int) = true
  exact lay_ints _
theorem lay_rows : ∀ rs : List Row, PyData.canLayAll0 (rs.map rowD) = true
  | [] => by simp [PyData.canLayAll0]
  | r :: rs => by
    rw [List.map_cons]
    unfold PyData.canLayAll0
    rw [lay_row, lay_rows rs]; rfl
theorem depth_row (r : Row) : (rowD r).depth = 1 := by
  unfold rowD tupD PyData.depth
  rw [depth_ints]
theorem depth_rows : ∀ rs : List Row, PyData.depthAll (rs.map rowD) ≤ 1
  | [] => by simp [PyData.depthAll]
  | r :: rs => by
    have h := depth_rows rs
    rw [List.map_cons]
    unfold PyData.depthAll
    rw [depth_row]; omega
theorem shaped_row (r : Row) : SeqAt.shaped (rowD r) = true := shaped_mark (rowL r)
theorem shaped_rows (rs : List Row) : SeqAt.shaped (rowsD rs) = true := by
  unfold SeqAt.shaped rowsD
  have h := depth_rows rs
  rw [Bool.and_eq_true]
  refine ⟨?_, decide_eq_true ?_⟩
  · unfold PyData.canLay0; exact lay_rows rs
  · unfold PyData.depth; omega
section
variable {M M' : Addr → Prop} {H : Hp} {x y : V} {p : Addr} {Q : VK} {K : Frag} {rs qs : List Row} {r : Row} {s : Shelf} {i : Int}
theorem rows_map (rs : List Row) : rs.map rowD = (rs.map rowL).map tupD := by rw [List.map_map]; rfl
theorem w_sortR (fr : Fr M H) (h : Rp M H x (rowsD rs)) (q : ∀ p H2, H p = none → Same H H2 → Rp M H2 (.ref p) (rowsD (sortR rs)) → Q (.ref p) H2) : rSortedT K [x] H Q := by
  unfold rowsD at h
  rw [rows_map] at h
  refine w_sortT fr h (fun l hl => ?_) fun p H2 n s r => q p H2 n s ?_
  · obtain ⟨r, _, rfl⟩ := List.mem_map.mp hl
    intro z; cases z
  · unfold rowsD
    rw [rows_map, ← sortL_rows]
    exact r
theorem any_row (r : Row) : ∀ rs : List Row, ((rs.map rowD).any fun z => PyData.eqv z (rowD r)) = decide (r ∈ rs)
  | [] => rfl
  | q :: rs => by
    rw [List.map_cons, List.any_cons, any_row r rs, eqv_row]
    by_cases h : q = r <;> by_cases h' : r ∈ rs
    · subst h; simp
    · subst h; simp
    · simp [h, h']
    · have h2 : ¬ r = q := fun z => h z.symm
      simp [h, h', h2]
theorem w_inR (h : Rp M H x (rowD r)) (h' : Rp M' H y (rowsD rs)) (q : Q (.bl (decide (r ∈ rs))) H) : rInD K x y H Q :=
  ⟨_, _, h.dp, h'.dp, shaped_row r, shaped_rows rs, by rw [any_row]; exact q⟩
theorem w_ninR (h : Rp M H x (rowD r)) (h' : Rp M' H y (rowsD rs)) (q : Q (.bl (!decide (r ∈ rs))) H) : rNotInD K x y H Q :=
  ⟨_, _, h.dp, h'.dp, shaped_row r, shaped_rows rs, by rw [any_row]; exact q⟩
theorem w_eqR (h : Rp M H x (rowsD rs)) (h' : Rp M' H y (rowsD qs)) (q : Q (.bl (decide (rs = qs))) H) : rEqD K x y H Q :=
  ⟨_, _, h.dp, h'.dp, shaped_rows rs, shaped_rows qs, by rw [eqv_rows]; exact q⟩
theorem w_neR (h : Rp M H x (rowsD rs)) (h' : Rp M' H y (rowsD qs)) (q : Q (.bl (!decide (rs = qs))) H) : rNeD K x y H Q :=
  ⟨_, _, h.dp, h'.dp, shaped_rows rs, shaped_rows qs, by rw [eqv_rows]; exact q⟩
/-- the parts of a row, of a shelf -/
theorem w_row0 (h : Rp M H x (rowD r)) (q : Q (.int r.1) H) : rIxT K x (.int 0) H Q := w_ixT 0 h rfl (d := .int r.1) rfl fun v e => by rw [e.int_inv]; exact q
theorem w_row1 (h : Rp M H x (rowD r)) (q : Q (.int r.2.1) H) : rIxT K x (.int 1) H Q := w_ixT 1 h rfl (d := .int r.2.1) rfl fun v e => by rw [e.int_inv]; exact q
theorem w_row2 (h : Rp M H x (rowD r)) (q : Q (.int r.2.2) H) : rIxT K x (.int 2) H Q := w_ixT 2 h rfl (d := .int r.2.2) rfl fun v e => by rw [e.int_inv]; exact q
theorem w_shelf0 (h : Rp M H x (shelfD s)) (q : ∀ v, Rp M H v (markD s.1) → Q v H) : rIxT K x (.int 0) H Q := w_ixT 0 h rfl (d := markD s.1) rfl q
theorem w_shelf1 (h : Rp M H x (shelfD s)) (q : ∀ v, Rp M H v (rowsD s.2) → Q v H) : rIxT K x (.int 1) H Q := w_ixT 1 h rfl (d := rowsD s.2) rfl q
theorem Rp.shelf {a b : V} (h1 : Rp M H a (markD s.1)) (h2 : Rp M H b (rowsD s.2)) : RpA M H [a, b] [markD s.1, rowsD s.2] := RpA.nil.cons h2 |>.cons h1
theorem fm_filter {rs : List Row} (p : Row → Bool) : rs.filterMap (fun r => if p r = true then some (rowD r) else none) = (rs.filter p).map rowD := by
  induction rs with
  | nil => rfl
  | cons r rs ih =>
    rw [List.filterMap_cons, List.filter_cons]
    by_cases h : p r = true
    · simp only [h, if_true, List.map_cons, ih]
    · simp only [h, if_false, ih]; simp
/-- a list of rows, by its address -/
theorem Rp.rows_at (h : Rp M H (.ref p) (rowsD rs)) (m : ¬ M' p) : Rp M' H (.ref p) (rowsD rs) := by
  obtain ⟨a, xs, e, _, ha, r⟩ := Rp.lst_inv (ds := rs.map rowD) h
  cases e
  rw [rows_map] at r
  have r' : RpA M' H xs ((rs.map rowL).map tupD) := r.tups
  rw [← rows_map] at r'
  exact .lstA m ha r'
end
end Sb

set_option Elab.async false
set_option maxRecDepth 100000
set_option maxHeartbeats 4000000
set_option linter.all false
/-! Shelves: what meets, in plain Lean. -/
namespace Sb
open PySem L2 PyProof.Rows
theorem joinM_getD {a b : List Int} (e : a.length = b.length) {i : Nat} (hi : i < a.length) : (joinM a b).getD i 0 = max (a.getD i 0) (b.getD i 0) := by
  rw [List.getD_eq_getElem?_getD, joinM_get e hi]; rfl
theorem joinM_comm (a b : List Int) : joinM a b = joinM b a := by
  unfold joinM
  rw [List.zipWith_comm]
  congr 1
  funext x y
  exact Int.max_comm y x
theorem joinM_self : ∀ a : List Int, joinM a a = a
  | [] => rfl
  | x :: a => by
    show max x x :: joinM a a = x :: a
    rw [joinM_self a, Int.max_self]
theorem ext_getD {a b : List Int} (e : a.length = b.length) (h : ∀ i, i < a.length → a.getD i 0 = b.getD i 0) : a = b := by
  refine List.ext_getElem e fun i h1 h2 => ?_
  have := h i h1
  rwa [List.getD_eq_getElem?_getD, List.getD_eq_getElem?_getD, List.getElem?_eq_getElem h1, List.getElem?_eq_getElem h2] at this
theorem joinM_abs {a b : List Int} (e : a.length = b.length) : joinM (joinM a b) a = joinM a b := by
  have l := joinM_len e
  refine ext_getD (by rw [joinM_len (by omega)]) fun i hi => ?_
  rw [joinM_len (by omega)] at hi
  rw [joinM_getD (by omega) hi, joinM_getD e (by omega)]
  omega
theorem seen_join {a b : List Int} (e : a.length = b.length) {r : Row} (h0 : 0 ≤ r.1) (h : r.1 < a.length) : seen (joinM a b) r = (seen a r || seen b r) := by
  unfold seen
  rw [joinM_getD e (by omega)]
  generalize a.getD r.1.toNat 0 = x
  generalize b.getD r.1.toNat 0 = y
  rw [← Bool.decide_or]
  exact decide_eq_decide.mpr (by omega)
theorem mem_unseen {r : Row} {rs : List Row} {m : List Int} : r ∈ unseen rs m ↔ r ∈ rs ∧ seen m r = false := by
  unfold unseen
  rw [List.mem_filter]
  simp
/-- a shelf as it may be: of n keepers; its rows in order, none twice, all seen by its mark -/
structure WF (n : Nat) (s : Shelf) : Prop where
  len : s.1.length = n
  rin : Rin n s.2
  saw : ∀ r ∈ s.2, seen s.1 r = true
  srt : s.2.Pairwise rowLe
  nod : s.2.Nodup
theorem sort_same {rs : List Row} (h : rs.Pairwise rowLe) : sortR rs = rs := (sortR_uniq (List.Perm.refl _) h).symm
theorem sort_ext {rs qs : List Row} (h1 : rs.Nodup) (h2 : qs.Nodup) (h : ∀ r, r ∈ rs ↔ r ∈ qs) : sortR rs = sortR qs :=
  sortR_uniq ((sortR_perm rs).trans ((List.perm_ext_iff_of_nodup h1 h2).mpr h)) (sortR_srt rs)
theorem rows_ext {rs qs : List Row} (h1 : rs.Nodup) (h2 : qs.Nodup) (s1 : rs.Pairwise rowLe) (s2 : qs.Pairwise rowLe) (h : ∀ r, r ∈ rs ↔ r ∈ qs) : rs = qs := by
  rw [← sort_same s1, ← sort_same s2]
  exact sort_ext h1 h2 h
theorem sortR_nod {rs : List Row} (h : rs.Nodup) : (sortR rs).Nodup := (sortR_perm rs).nodup_iff.mpr h
theorem mem_metRows {s t : Shelf} {r : Row} : r ∈ metRows s t ↔ (r ∈ s.2 ∧ r ∈ t.2) ∨ (r ∈ s.2 ∧ seen t.1 r = false) ∨ (r ∈ t.2 ∧ seen s.1 r = false) := by
  unfold metRows
  rw [List.mem_append, List.mem_append, mem_unseen, mem_unseen, List.mem_filter, decide_eq_true_eq, or_assoc]
theorem metRows_nod {n : Nat} {s t : Shelf} (hs : WF n s) (ht : WF n t) : (metRows s t).Nodup := by
  unfold metRows
  refine List.nodup_append.mpr ⟨List.nodup_append.mpr ⟨hs.nod.filter _, hs.nod.filter _, fun a ha b hb e => ?_⟩, ht.nod.filter _, fun a ha b hb e => ?_⟩
  · subst e
    have h1 := (List.mem_filter.mp ha).2
    have h2 := (mem_unseen.mp hb).2
    have := ht.saw a (of_decide_eq_true h1)
    rw [h2] at this; cases this
  · subst e
    have h2 := mem_unseen.mp hb
    have h1 : a ∈ s.2 := by
      rcases List.mem_append.mp ha with h | h
      · exact (List.mem_filter.mp h).1
      · exact (mem_unseen.mp h).1
    have := hs.saw a h1
    rw [h2.2] at this; cases this
theorem WF.met {n : Nat} {s t : Shelf} (hs : WF n s) (ht : WF n t) : WF n (metS s t) := by
  have e : s.1.length = t.1.length := by rw [hs.len, ht.len]
  have hin : Rin n (metRows s t) := fun r hr => by
    rcases mem_metRows.mp hr with h | h | h
    · exact hs.rin r h.1
    · exact hs.rin r h.1
    · exact ht.rin r h.1
  refine ⟨by show (joinM s.1 t.1).length = n; rw [joinM_len e, hs.len], hin.sort, fun r hr => ?_, sortR_srt _, sortR_nod (metRows_nod hs ht)⟩
  have hr := mem_sortR.mp hr
  obtain ⟨h0, h1⟩ := hin r hr
  show seen (joinM s.1 t.1) r = true
  rw [seen_join e h0 (by rw [hs.len]; exact h1)]
  rcases mem_metRows.mp hr with h | h | h
  · rw [hs.saw r h.1]; rfl
  · rw [hs.saw r h.1]; rfl
  · rw [ht.saw r h.1, Bool.or_true]
theorem mem_met {s t : Shelf} {r : Row} : r ∈ (metS s t).2 ↔ (r ∈ s.2 ∧ r ∈ t.2) ∨ (r ∈ s.2 ∧ seen t.1 r = false) ∨ (r ∈ t.2 ∧ seen s.1 r = false) := mem_sortR.trans mem_metRows
theorem met_comm {n : Nat} {s t : Shelf} (hs : WF n s) (ht : WF n t) : metS s t = metS t s := by
  refine Prod.ext (joinM_comm _ _) ?_
  refine sort_ext (metRows_nod hs ht) (metRows_nod ht hs) fun r => ?_
  rw [mem_metRows, mem_metRows]
  constructor
  · rintro (⟨a, b⟩ | h | h)
    · exact .inl ⟨b, a⟩
    · exact .inr (.inr h)
    · exact .inr (.inl h)
  · rintro (⟨a, b⟩ | h | h)
    · exact .inl ⟨b, a⟩
    · exact .inr (.inr h)
    · exact .inr (.inl h)
/-- s lies in t: what t knows is what s knew, and more -/
structure Lies (s t : Shelf) : Prop where
  mark : joinM t.1 s.1 = t.1
  row : ∀ r ∈ t.2, seen s.1 r = true → r ∈ s.2
  saw : ∀ r ∈ s.2, seen t.1 r = true
theorem met_lies {n : Nat} {s t : Shelf} (hs : WF n s) (ht : WF n t) (h : Lies s t) : metS t s = t := by
  refine Prod.ext h.mark ?_
  refine rows_ext (sortR_nod (metRows_nod ht hs)) ht.nod (sortR_srt _) ht.srt fun r => ?_
  rw [mem_met]
  constructor
  · rintro (⟨a, _⟩ | ⟨a, _⟩ | ⟨a, b⟩)
    · exact a
    · exact a
    · rw [h.saw r a] at b; cases b
  · intro hr
    by_cases q : seen s.1 r = true
    · exact .inl ⟨hr, h.row r hr q⟩
    · exact .inr (.inl ⟨hr, by simpa using q⟩)
theorem lies_self {n : Nat} {s : Shelf} (hs : WF n s) : Lies s s := ⟨joinM_self _, fun _ h _ => h, hs.saw⟩
theorem lies_met {n : Nat} {s t : Shelf} (hs : WF n s) (ht : WF n t) : Lies s (metS s t) := by
  have e : s.1.length = t.1.length := by rw [hs.len, ht.len]
  refine ⟨joinM_abs e, fun r hr q => ?_, fun r hr => ?_⟩
  · rcases mem_met.mp hr with h | h | h
    · exact h.1
    · exact h.1
    · rw [h.2] at q; cases q
  · obtain ⟨h0, h1⟩ := hs.rin r hr
    show seen (joinM s.1 t.1) r = true
    rw [seen_join e h0 (by rw [hs.len]; exact h1), hs.saw r hr]; rfl
theorem met_self {n : Nat} {s : Shelf} (hs : WF n s) : metS s s = s := met_lies hs hs (lies_self hs)
theorem met_abs {n : Nat} {s t : Shelf} (hs : WF n s) (ht : WF n t) : metS (metS s t) s = metS s t := met_lies hs (hs.met ht) (lies_met hs ht)
theorem metRows_len {s t : Shelf} : (metRows s t).length ≤ s.2.length + s.2.length + t.2.length := by
  unfold metRows
  rw [List.length_append, List.length_append]
  have h1 := List.length_filter_le (fun r => decide (r ∈ t.2)) s.2
  have h2 := List.length_filter_le (fun r => !seen t.1 r) s.2
  have h3 := List.length_filter_le (fun r => !seen s.1 r) t.2
  unfold unseen
  omega
end Sb

set_option Elab.async false
set_option maxRecDepth 100000
set_option maxHeartbeats 4000000
set_option linter.all false
/-! A store as it stands: its instance, its list of dicts, the shelves in them. -/
namespace Sb
open PySem L2 PyProof.Rows
abbrev KV1 := List (Str × Shelf)
abbrev Kept := List KV1
def aGet (kv : KV1) (s : Str) : Option Shelf := (kv.find? fun p => decide (p.1 = s)).map (·.2)
def aPut (kv : KV1) (s : Str) (sh : Shelf) : KV1 :=
  if (kv.any fun p => decide (p.1 = s)) = true then kv.map (fun p => if p.1 = s then (p.1, sh) else p) else kv ++ [(s, sh)]
theorem aGet_nil {s : Str} : aGet [] s = none := rfl
theorem aGet_cons {p : Str × Shelf} {kv : KV1} {s : Str} : aGet (p :: kv) s = if p.1 = s then some p.2 else aGet kv s := by
  unfold aGet
  by_cases h : p.1 = s
  · rw [List.find?_cons_of_pos (by simpa using h), if_pos h]; rfl
  · rw [List.find?_cons_of_neg (by simpa using h), if_neg h]
theorem aGet_any (s : Str) : ∀ kv : KV1, (kv.any fun p => decide (p.1 = s)) = (aGet kv s).isSome
  | [] => rfl
  | p :: kv => by
    rw [List.any_cons, aGet_cons, aGet_any s kv]
    by_cases h : p.1 = s <;> simp [h]
theorem aGet_map (s s' : Str) (sh : Shelf) : ∀ kv : KV1, aGet (kv.map fun p => if p.1 = s then (p.1, sh) else p) s' = (aGet kv s').map fun x => if s' = s then sh else x
  | [] => rfl
  | p :: kv => by
    rw [List.map_cons, aGet_cons, aGet_cons, aGet_map s s' sh kv]
    by_cases h : p.1 = s
    · rw [if_pos h]
      by_cases h' : p.1 = s'
      · have h2 : s' = s := h'.symm.trans h
        rw [if_pos h', if_pos h', Option.map_some, if_pos h2]
      · rw [if_neg h', if_neg h']
    · rw [if_neg h]
      by_cases h' : p.1 = s'
      · have h2 : ¬ s' = s := fun z => h (h'.trans z)
        rw [if_pos h', if_pos h', Option.map_some, if_neg h2]
      · rw [if_neg h', if_neg h']
theorem aGet_app (s s' : Str) (sh : Shelf) : ∀ kv : KV1, aGet kv s = none → aGet (kv ++ [(s, sh)]) s' = if s' = s then some sh else aGet kv s'
  | [], _ => by
    show aGet [(s, sh)] s' = _
    rw [aGet_cons]
    by_cases h : s = s'
    · rw [if_pos h, if_pos h.symm]
    · rw [if_neg h, if_neg fun z => h z.symm]
  | p :: kv, h => by
    rw [aGet_cons] at h
    by_cases e : p.1 = s
    · rw [if_pos e] at h; cases h
    · rw [if_neg e] at h
      rw [List.cons_append, aGet_cons, aGet_cons, aGet_app s s' sh kv h]
      by_cases e' : p.1 = s'
      · rw [if_pos e', if_pos e', if_neg fun z => e (e'.trans z)]
      · rw [if_neg e', if_neg e']
theorem aGet_put (kv : KV1) (s s' : Str) (sh : Shelf) : aGet (aPut kv s sh) s' = if s' = s then some sh else aGet kv s' := by
  unfold aPut
  rw [aGet_any]
  cases h : aGet kv s with
  | none => exact aGet_app s s' sh kv h
  | some x =>
    show aGet (kv.map fun p => if p.1 = s then (p.1, sh) else p) s' = _
    rw [aGet_map]
    by_cases e : s' = s
    · subst e; rw [h, if_pos rfl, Option.map_some, if_pos rfl]
    · rw [if_neg e]
      cases aGet kv s' with
      | none => rfl
      | some y => rw [Option.map_some, if_neg e]
theorem aPut_keys (kv : KV1) (s : Str) (sh : Shelf) : (aPut kv s sh).map (·.1) = kv.map (·.1) ∨ (s ∉ kv.map (·.1) ∧ (aPut kv s sh).map (·.1) = kv.map (·.1) ++ [s]) := by
  unfold aPut
  by_cases h : (kv.any fun p => decide (p.1 = s)) = true
  · rw [if_pos h]
    refine .inl ?_
    rw [List.map_map]
    refine List.map_congr_left fun p _ => ?_
    show (if p.1 = s then (p.1, sh) else p).1 = p.1
    split <;> rfl
  · rw [if_neg h]
    refine .inr ⟨fun z => h ?_, by rw [List.map_append]; rfl⟩
    obtain ⟨p, hp, e⟩ := List.mem_map.mp z
    exact List.any_eq_true.mpr ⟨p, hp, decide_eq_true e⟩
theorem aPut_nod {kv : KV1} {s : Str} {sh : Shelf} (h : (kv.map (·.1)).Nodup) : ((aPut kv s sh).map (·.1)).Nodup := by
  rcases aPut_keys kv s sh with e | ⟨n, e⟩
  · rw [e]; exact h
  · rw [e]; exact nd_snoc h n
theorem aPut_len (kv : KV1) (s : Str) (sh : Shelf) : (aPut kv s sh).length ≤ kv.length + 1 := by
  unfold aPut
  split
  · rw [List.length_map]; omega
  · rw [List.length_append]; exact Nat.le_refl _
theorem aGet_mem {kv : KV1} {s : Str} {sh : Shelf} (h : aGet kv s = some sh) : (s, sh) ∈ kv := by
  unfold aGet at h
  cases e : kv.find? (fun p => decide (p.1 = s)) with
  | none => rw [e] at h; cases h
  | some p =>
    rw [e] at h
    have h1 := List.find?_some e
    have h2 := List.mem_of_find?_eq_some e
    have h3 : p.2 = sh := Option.some.inj h
    have h4 : p.1 = s := of_decide_eq_true h1
    rw [← h3, ← h4]; exact h2
/-- the shelf of a key at a keeper -/
def shelfOf (n : Nat) (kv : KV1) (s : Str) : Shelf := (aGet kv s).getD (List.replicate n 0, [])
theorem shelfOf_put (n : Nat) (kv : KV1) (s s' : Str) (sh : Shelf) : shelfOf n (aPut kv s sh) s' = if s' = s then sh else shelfOf n kv s' := by
  unfold shelfOf
  rw [aGet_put]
  split <;> rfl
/-- a dict's pairs and their shelves -/
def DRel (M : Addr → Prop) (H : Hp) (kvs : List (Key × V)) (kv : KV1) : Prop := Paired (fun (p : Key × V) (q : Str × Shelf) => p.1 = Sum.inr q.1 ∧ Rp M H p.2 (shelfD q.2)) kvs kv
section
variable {M M' : Addr → Prop} {H H' : Hp} {kvs : List (Key × V)} {kv : KV1} {s : Str} {x : V} {sh : Shelf}
theorem DRel.ext (h : DRel M H kvs kv) (e : Ext M M' H H') : DRel M' H' kvs kv := Paired.mapP h fun p q r => ⟨r.1, r.2.ext e⟩
theorem DRel.get : ∀ {kvs : List (Key × V)} {kv : KV1}, DRel M H kvs kv → (valV kvs (Sum.inr s : Key) = none ∧ aGet kv s = none) ∨ ∃ x sh, valV kvs (Sum.inr s : Key) = some x ∧ aGet kv s = some sh ∧ Rp M H x (shelfD sh)
  | _, _, .nil => .inl ⟨rfl, rfl⟩
  | p :: kvs, q :: kv, .cons r t => by
    by_cases e : q.1 = s
    · have e' : p.1 = Sum.inr s := by rw [r.1, e]
      exact .inr ⟨p.2, q.2, valV_pos e', by rw [aGet_cons, if_pos e], r.2⟩
    · have e' : ¬ p.1 = Sum.inr s := fun z => e (Sum.inr.inj (r.1.symm.trans z))
      rcases DRel.get t with ⟨h1, h2⟩ | ⟨x, sh, h1, h2, h3⟩
      · exact .inl ⟨by rw [valV_neg e']; exact h1, by rw [aGet_cons, if_neg e]; exact h2⟩
      · exact .inr ⟨x, sh, by rw [valV_neg e']; exact h1, by rw [aGet_cons, if_neg e]; exact h2, h3⟩
theorem DRel.map (rx : Rp M H x (shelfD sh)) : ∀ {kvs : List (Key × V)} {kv : KV1}, DRel M H kvs kv → DRel M H (kvs.map fun p => if p.1 = (Sum.inr s : Key) then (p.1, x) else p) (kv.map fun q => if q.1 = s then (q.1, sh) else q)
  | _, _, .nil => .nil
  | p :: kvs, q :: kv, .cons r t => by
    refine .cons ?_ (DRel.map rx t)
    by_cases e : q.1 = s
    · have e' : p.1 = Sum.inr s := by rw [r.1, e]
      dsimp only
      rw [if_pos e, if_pos e']
      exact ⟨r.1, rx⟩
    · have e' : ¬ p.1 = Sum.inr s := fun z => e (Sum.inr.inj (r.1.symm.trans z))
      dsimp only
      rw [if_neg e, if_neg e']
      exact r
theorem paired_app {α β : Type} {F : α → β → Prop} : ∀ {l₁ : List α} {l₂ : List β} {a : α} {b : β}, Paired F l₁ l₂ → F a b → Paired F (l₁ ++ [a]) (l₂ ++ [b])
  | _, _, _, _, .nil, h => .cons h .nil
  | _, _, _, _, .cons r t, h => .cons r (paired_app t h)
theorem DRel.put (h : DRel M H kvs kv) (rx : Rp M H x (shelfD sh)) : DRel M H (putK kvs (Sum.inr s : Key) x) (aPut kv s sh) := by
  unfold putK aPut
  rw [valV_any, aGet_any]
  rcases h.get (s := s) with ⟨h1, h2⟩ | ⟨y, sh', h1, h2, _⟩
  · rw [h1, h2]
    exact paired_app h ⟨rfl, rx⟩
  · rw [h1, h2]
    exact h.map rx
theorem DRel.len (h : DRel M H kvs kv) : kvs.length = kv.length := Paired.length h
theorem DRel.at : ∀ {kvs : List (Key × V)} {kv : KV1} {i : Nat} {q : Str × Shelf}, DRel M H kvs kv → kv[i]? = some q → ∃ x, kvs[i]? = some (Sum.inr q.1, x) ∧ Rp M H x (shelfD q.2)
  | _, _, _, _, .nil, e => by simp at e
  | p :: kvs, _, 0, q, .cons r _, e => by
    simp at e; subst e
    refine ⟨p.2, ?_, r.2⟩
    show some p = _
    rw [← r.1]
  | _, _, i + 1, q, .cons _ t, e => by
    obtain ⟨x, h1, h2⟩ := DRel.at (i := i) (q := q) t (by simpa using e)
    exact ⟨x, by simpa using h1, h2⟩
end
/-! ### the instance -/
theorem kfs : ¬ (("first" : Str) = "kept") := by decide +kernel
def sflds (vf : V) (l : Addr) : List (Str × V) := putF "kept" (.ref l) (putF "first" vf [])
theorem sflds_first (vf : V) (l : Addr) : (sflds vf l).lookup ("first" : Str) = some vf := by
  unfold sflds
  rw [lookup_putF, if_neg kfs, lookup_putF, if_pos rfl]
theorem sflds_kept (vf : V) (l : Addr) : (sflds vf l).lookup ("kept" : Str) = some (.ref l) := by
  unfold sflds
  rw [lookup_putF, if_pos rfl]
theorem sflds_no (vf : V) (l : Addr) {m : Str} (h1 : ¬ m = "first") (h2 : ¬ m = "kept") : (sflds vf l).lookup m = none := by
  unfold sflds
  rw [lookup_putF, if_neg h2, lookup_putF, if_neg h1]
  rfl
/-- a store of n keepers stands at v: its dicts at ds hold the shelves st -/
structure StoreAt (M : Addr → Prop) (H : Hp) (C : Addr) (v : V) (ds : List Addr) (n : Nat) (st : Kept) : Prop where
  obj : ∃ p dx l vf, v = .ref p ∧ H p = some (.ins C dx (sflds vf l)) ∧ Rp M H vf (markD (List.replicate n 0)) ∧ ¬ M l ∧ H l = some (.lst (ds.map V.ref))
  dl : ds.length = n
  sl : st.length = n
  nd : ds.Nodup
  dic : ∀ (k : Nat) (d : Addr) (kv : KV1), ds[k]? = some d → st[k]? = some kv → ∃ kvs, H d = some (.dK kvs) ∧ DRel M H kvs kv
section
variable {M M' : Addr → Prop} {H H' : Hp} {C : Addr} {v : V} {ds : List Addr} {n : Nat} {st : Kept} {K : Frag} {Q : VK}
theorem StoreAt.occ (S : StoreAt M H C v ds n st) {d : Addr} (h : d ∈ ds) : ∃ kvs, H d = some (.dK kvs) := by
  obtain ⟨k, hk⟩ := List.mem_iff_getElem?.mp h
  have h1 := (List.getElem?_eq_some_iff.mp hk).1
  have h2 : k < st.length := by rw [S.sl, ← S.dl]; exact h1
  obtain ⟨kvs, h3, _⟩ := S.dic k d st[k] hk (List.getElem?_eq_getElem h2)
  exact ⟨kvs, h3⟩
theorem StoreAt.same (S : StoreAt M H C v ds n st) (s : Same H H') : StoreAt M H' C v ds n st := by
  obtain ⟨p, dx, l, vf, e, h1, h2, h3, h4⟩ := S.obj
  refine ⟨⟨p, dx, l, vf, e, s _ _ h1, h2.same s, h3, s _ _ h4⟩, S.dl, S.sl, S.nd, fun k d kv hd hk => ?_⟩
  obtain ⟨kvs, a, b⟩ := S.dic k d kv hd hk
  exact ⟨kvs, s _ _ a, b.ext (.same s)⟩
/-- a thing of the law's own is written: a list among the changing ones, or a dict that is none of the store's -/
theorem StoreAt.but {q : Addr} (S : StoreAt M H C v ds n st) (b : But q H H') (hl : ∀ xs, H q ≠ some (.tup xs) ∧ (¬ M q → H q ≠ some (.lst xs))) (hi : ∀ D dx fs, H q ≠ some (.ins D dx fs)) (hq : q ∉ ds) : StoreAt M H' C v ds n st := by
  obtain ⟨p, dx, l, vf, e, h1, h2, h3, h4⟩ := S.obj
  have ex : Ext M M H H' := b.ext hl
  refine ⟨⟨p, dx, l, vf, e, b _ _ (fun z => by subst z; exact hi _ _ _ h1) h1, h2.ext ex, h3, (ex.lst _ _ h3 h4).2⟩, S.dl, S.sl, S.nd, fun k d kv hd hk => ?_⟩
  obtain ⟨kvs, a, r⟩ := S.dic k d kv hd hk
  exact ⟨kvs, b _ _ (fun z => hq (by rw [← z]; exact List.mem_of_getElem? hd)) a, r.ext ex⟩
/-- one more address changes: it was new -/
theorem StoreAt.fresh {q : Addr} (S : StoreAt M H C v ds n st) (s : Same H H') (hq : H q = none) : StoreAt (fun a => M a ∨ a = q) H' C v ds n st := by
  obtain ⟨p, dx, l, vf, e, h1, h2, h3, h4⟩ := S.obj
  have ex : Ext M (fun a => M a ∨ a = q) H H' := Ext.fresh s hq
  refine ⟨⟨p, dx, l, vf, e, s _ _ h1, h2.ext ex, (ex.lst _ _ h3 h4).1, s _ _ h4⟩, S.dl, S.sl, S.nd, fun k d kv hd hk => ?_⟩
  obtain ⟨kvs, a, r⟩ := S.dic k d kv hd hk
  exact ⟨kvs, s _ _ a, r.ext ex⟩
theorem StoreAt.less (S : StoreAt M H C v ds n st) (k : ∀ a, M' a → M a) : StoreAt M' H C v ds n st := by
  obtain ⟨p, dx, l, vf, e, h1, h2, h3, h4⟩ := S.obj
  have ex : Ext M M' H H := Ext.less k
  refine ⟨⟨p, dx, l, vf, e, h1, h2.ext ex, fun z => h3 (k _ z), h4⟩, S.dl, S.sl, S.nd, fun i d kv hd hk => ?_⟩
  obtain ⟨kvs, a, r⟩ := S.dic i d kv hd hk
  exact ⟨kvs, a, r.ext ex⟩
/-- a shelf is laid in the dict of keeper k -/
theorem StoreAt.put {k : Nat} {d : Addr} {kv : KV1} {kvs : List (Key × V)} {key : Str} {x : V} {sh : Shelf} (S : StoreAt M H C v ds n st) (hd : ds[k]? = some d) (hk : st[k]? = some kv) (hx : Rp M H x (shelfD sh))
    (hkv : H d = some (.dK kvs)) (hr : DRel M H kvs kv) : StoreAt M (upd H d (.dK (putK kvs (Sum.inr key : Key) x))) C v ds n (st.set k (aPut kv key sh)) := by
  obtain ⟨p, dx, l, vf, e, h1, h2, h3, h4⟩ := S.obj
  have bt : But d H (upd H d (.dK (putK kvs (Sum.inr key : Key) x))) := But.upd _
  have ex : Ext M M H (upd H d (.dK (putK kvs (Sum.inr key : Key) x))) := bt.ext fun xs => ⟨fun z => (by rw [hkv] at z; cases z), fun _ z => (by rw [hkv] at z; cases z)⟩
  refine ⟨⟨p, dx, l, vf, e, bt _ _ (fun z => by subst z; rw [hkv] at h1; cases h1) h1, h2.ext ex, h3, (ex.lst _ _ h3 h4).2⟩, S.dl, by rw [List.length_set]; exact S.sl, S.nd, fun i d' kv' hd' hk' => ?_⟩
  by_cases ei : i = k
  · subst ei
    rw [hd] at hd'
    cases hd'
    have hl : i < st.length := (List.getElem?_eq_some_iff.mp hk).1
    rw [List.getElem?_set_self hl] at hk'
    cases hk'
    exact ⟨_, upd_same, (hr.put hx).ext ex⟩
  · rw [List.getElem?_set_ne (fun z => ei z.symm)] at hk'
    obtain ⟨kvs', a, r⟩ := S.dic i d' kv' hd' hk'
    have hne : d' ≠ d := fun z => ei (nd_ix S.nd (by rw [← z]; exact hd') hd)
    exact ⟨kvs', by rw [upd_ne hne]; exact a, r.ext ex⟩
end
/-! ### fields and methods, named -/
def rFld (K : Frag) (f : Str) (x : V) (H : Hp) (Q : VK) : Prop := ∃ a C dx fs v, x = .ref a ∧ H a = some (.ins C dx fs) ∧ Cls K C ∧ NoAttr K C f ∧ fs.lookup f = some v ∧ Q v H
def rMth (C : Addr) (m : Str) (x : V) (H : Hp) (R : Prop) : Prop := ∃ a dx fs, x = .ref a ∧ H a = some (.ins C dx fs) ∧ fs.lookup m = none ∧ R
section
variable {M : Addr → Prop} {H : Hp} {C : Addr} {v x : V} {ds : List Addr} {n : Nat} {st : Kept} {K : Frag} {Q : VK} {ta : TE} {f m : Str} {σ : L2.St} {sp : Sp} {dvs : List V} {E : XK} {t : TA} {R : Prop}
theorem w_tFld (q : ta σ H fun x H1 => rFld K f x H1 Q) : tFld K ta f σ H Q := q
theorem w_tMeth (q : ta σ H fun x H1 => rMth C m x H1 (t σ H1 fun vs H2 => sp (x :: (vs ++ dvs)) H2 Q E)) : tMeth C m sp dvs E ta t σ H Q := q
theorem w_kept (S : StoreAt M H C v ds n st) (c : Cls K C) (na : NoAttr K C "kept") (q : ∀ l, ¬ M l → H l = some (.lst (ds.map V.ref)) → Q (.ref l) H) : rFld K "kept" v H Q := by
  obtain ⟨p, dx, l, vf, e, h1, h2, h3, h4⟩ := S.obj
  exact ⟨p, C, dx, _, _, e, h1, c, na, sflds_kept _ _, q l h3 h4⟩
theorem w_first (S : StoreAt M H C v ds n st) (c : Cls K C) (na : NoAttr K C "first") (q : ∀ vf, Rp M H vf (markD (List.replicate n 0)) → Q vf H) : rFld K "first" v H Q := by
  obtain ⟨p, dx, l, vf, e, h1, h2, h3, h4⟩ := S.obj
  exact ⟨p, C, dx, _, _, e, h1, c, na, sflds_first _ _, q vf h2⟩
theorem w_mth (S : StoreAt M H C v ds n st) (h1 : ¬ m = "first") (h2 : ¬ m = "kept") (q : R) : rMth C m v H R := by
  obtain ⟨p, dx, l, vf, e, h3, _⟩ := S.obj
  exact ⟨p, dx, _, e, h3, sflds_no _ _ h1 h2, q⟩
/-- kept[k] -/
theorem w_dictAt {l : Addr} {k : Nat} (S : StoreAt M H C v ds n st) (hl : H l = some (.lst (ds.map V.ref))) (hk : k < n) (q : ∀ d kv kvs, ds[k]? = some d → st[k]? = some kv → H d = some (.dK kvs) → DRel M H kvs kv → Q (.ref d) H) : rIxL K (.ref l) (.int k) H Q := by
  have h1 : k < ds.length := by rw [S.dl]; exact hk
  have h2 : k < st.length := by rw [S.sl]; exact hk
  obtain ⟨kvs, a, r⟩ := S.dic k ds[k] st[k] (List.getElem?_eq_getElem h1) (List.getElem?_eq_getElem h2)
  exact w_ixS k (SqL.of hl) rfl (by rw [List.getElem?_map, List.getElem?_eq_getElem h1]; rfl) (q _ _ kvs (List.getElem?_eq_getElem h1) (List.getElem?_eq_getElem h2) a r)
end
end Sb

set_option Elab.async false
set_option maxRecDepth 100000
set_option maxHeartbeats 4000000
set_option linter.all false
/-! What is a mark, told by data; looks and letters as data; texts in order. -/
namespace Sb
open PySem L2 PyProof.Rows
def goodI : PyData → Bool
  | .int i => decide (0 ≤ i)
  | _ => false
def isMk (n : Nat) : PyData → Bool
  | .tuple ds => decide (ds.length = n) && ds.all goodI
  | _ => false
def flatD : PyData → Bool
  | .none => true
  | .bool _ => true
  | .int _ => true
  | .str _ => true
  | _ => false
def okMk : PyData → Bool
  | .tuple ds => ds.all flatD
  | .dict _ => false
  | _ => true
theorem isMk_mark {n : Nat} {m : List Int} (h : m.length = n) (p : ∀ i ∈ m, 0 ≤ i) : isMk n (markD m) = true := by
  show (decide ((m.map PyData.int).length = n) && (m.map PyData.int).all goodI) = true
  rw [List.length_map, decide_eq_true h, Bool.true_and, List.all_map, List.all_eq_true]
  exact fun i hi => decide_eq_true (p i hi)
theorem okMk_mark (m : List Int) : okMk (markD m) = true := by
  show (m.map PyData.int).all flatD = true
  rw [List.all_map, List.all_eq_true]
  exact fun _ _ => rfl
theorem goods_ints : ∀ {ds : List PyData}, ds.all goodI = true → ∃ m : List Int, ds = m.map PyData.int ∧ ∀ i ∈ m, 0 ≤ i
  | [], _ => ⟨[], rfl, fun _ z => nomatch z⟩
  | d :: ds, h => by
    rw [List.all_cons, Bool.and_eq_true] at h
    obtain ⟨m, e, p⟩ := goods_ints h.2
    cases d with
    | int i =>
      refine ⟨i :: m, by rw [e]; rfl, fun j hj => ?_⟩
      rcases List.mem_cons.mp hj with rfl | hj
      · exact of_decide_eq_true h.1
      · exact p j hj
    | _ => cases h.1
theorem mark_of_isMk {n : Nat} {d : PyData} (h : isMk n d = true) : ∃ m, d = markD m ∧ m.length = n ∧ ∀ i ∈ m, 0 ≤ i := by
  cases d with
  | tuple ds =>
    have h : (decide (ds.length = n) && ds.all goodI) = true := h
    rw [Bool.and_eq_true] at h
    obtain ⟨m, e, p⟩ := goods_ints h.2
    have h1 := of_decide_eq_true h.1
    exact ⟨m, by rw [e]; rfl, by rw [← h1, e, List.length_map], p⟩
  | _ => cases h
def isTupD : PyData → Bool
  | .tuple _ => true
  | _ => false
def isIntD : PyData → Bool
  | .int _ => true
  | .bool _ => true
  | _ => false
def isBoolD : PyData → Bool
  | .bool _ => true
  | _ => false
section
variable {K : Frag} {M : Addr → Prop} {H : Hp} {x : V} {d : PyData} {Q : VK}
theorem w_isiTany (h : Rp M H x d) (q : Q (.bl (isTupD d)) H) : rIsi K [x, .ty "tuple"] H Q := by
  cases h with
  | non => exact isi_of (b := false) (.base .non) (by decide +kernel) q
  | bl b => exact isi_of (b := false) (.base (.bl b)) (by decide +kernel) q
  | int i => exact isi_of (b := false) (.base (.int i)) (by decide +kernel) q
  | str s => exact isi_of (b := false) (.base (.str s)) (by decide +kernel) q
  | lst m ha _ _ => exact isi_of (b := false) (.base (.lst ha)) (by decide +kernel) q
  | tup ha _ _ => exact isi_of (b := true) (.base (.tup ha)) (by decide +kernel) q
theorem w_isiIany (h : Rp M H x d) (q : Q (.bl (isIntD d)) H) : rIsi K [x, .ty "int"] H Q := by
  cases h with
  | non => exact isi_of (b := false) (.base .non) (by decide +kernel) q
  | bl b => exact isi_of (b := true) (.base (.bl b)) (by decide +kernel) q
  | int i => exact isi_of (b := true) (.base (.int i)) (by decide +kernel) q
  | str s => exact isi_of (b := false) (.base (.str s)) (by decide +kernel) q
  | lst m ha _ _ => exact isi_of (b := false) (.base (.lst ha)) (by decide +kernel) q
  | tup ha _ _ => exact isi_of (b := false) (.base (.tup ha)) (by decide +kernel) q
theorem w_isiBany (h : Rp M H x d) (q : Q (.bl (isBoolD d)) H) : rIsi K [x, .ty "bool"] H Q := by
  cases h with
  | non => exact isi_of (b := false) (.base .non) (by decide +kernel) q
  | bl b => exact isi_of (b := true) (.base (.bl b)) (by decide +kernel) q
  | int i => exact isi_of (b := false) (.base (.int i)) (by decide +kernel) q
  | str s => exact isi_of (b := false) (.base (.str s)) (by decide +kernel) q
  | lst m ha _ _ => exact isi_of (b := false) (.base (.lst ha)) (by decide +kernel) q
  | tup ha _ _ => exact isi_of (b := false) (.base (.tup ha)) (by decide +kernel) q
end
/-- what a shelf must be that its defs may work at it -/
structure ShOk (n : Nat) (s : Shelf) : Prop where
  len : s.1.length = n
  rin : Rin n s.2
  few : s.2.length ≤ 3000
theorem ShOk.start (n : Nat) : ShOk n (List.replicate n 0, []) := ⟨List.length_replicate, fun _ z => (nomatch z), Nat.zero_le _⟩
def valsD (rs : List Row) : PyData := .list ((rs.map fun r => r.2.2).map PyData.int)
def lookD (s : Shelf) : PyData := .tuple [valsD s.2, markD s.1]
def letterD (key : Str) (s : Shelf) : PyData := .tuple [.str key, markD s.1, .tuple (s.2.map rowD)]
theorem fm_vals (rs : List Row) : rs.filterMap (fun r => some (PyData.int r.2.2)) = (rs.map fun r => r.2.2).map PyData.int := by
  rw [List.filterMap_eq_map', List.map_map]; rfl
section
variable {M M' : Addr → Prop} {H : Hp} {x : V} {p : Addr} {ns : List Int}
theorem Rp.ints_at (h : Rp M H (.ref p) (.list (ns.map PyData.int))) (m : ¬ M' p) : Rp M' H (.ref p) (.list (ns.map PyData.int)) := by
  obtain ⟨a, xs, e, _, ha, r⟩ := h.lst_inv
  cases e
  rw [r.ints_inv] at ha
  exact .lstA m ha RpA.ints
end
/-! ### texts in order, any number of them -/
theorem lexS_irr (x : List Nat) : ¬ x < x := List.lt_irrefl x
def ltSB (a b : Str) : Bool := decide (a.cps.toList < b.cps.toList)
def ltSv (v u : Value) : Bool := match v, u with
  | .str a _, .str b _ => ltSB a b
  | _, _ => false
def strOf : Value → Str
  | .str a _ => a
  | _ => ⟨#[]⟩
theorem swo_ltSB {α : Type} (k : α → Str) : SrtO.Swo fun v u => ltSB (k v) (k u) := by
  refine ⟨fun x y h => ?_, fun x y z h1 h2 => ?_⟩
  · have h := of_decide_eq_true h
    exact decide_eq_false fun q => List.lt_irrefl _ (List.lt_trans h q)
  · have h1 := of_decide_eq_false h1
    have h2 := of_decide_eq_false h2
    refine decide_eq_false fun q => ?_
    exact List.not_lt.mpr (List.le_trans (List.not_lt.mp h1) (List.not_lt.mp h2)) q
def sortX (xs : List Str) : List Str := xs.mergeSort fun a b => !ltSB b a
theorem sortX_perm (xs : List Str) : (sortX xs).Perm xs := List.mergeSort_perm _ _
theorem ltSB_tr (a b c : Str) (h1 : (!ltSB b a) = true) (h2 : (!ltSB c b) = true) : (!ltSB c a) = true := by
  simp only [Bool.not_eq_true'] at h1 h2 ⊢
  exact (swo_ltSB (id : Str → Str)).tr a b c h1 h2
theorem ltSB_tot (a b : Str) : ((!ltSB b a) || (!ltSB a b)) = true := by
  cases h : ltSB b a with
  | false => rfl
  | true =>
    have h2 : ltSB a b = false := (swo_ltSB (id : Str → Str)).asym b a h
    rw [h2]; rfl
theorem sortX_srt (xs : List Str) : (sortX xs).Pairwise fun a b => ltSB b a = false :=
  (List.pairwise_mergeSort (le := fun a b => !ltSB b a) ltSB_tr ltSB_tot xs).imp fun h => by simpa using h
theorem ltSB_anti {a b : Str} (h1 : ltSB b a = false) (h2 : ltSB a b = false) : a = b := by
  have h1 := List.not_lt.mp (of_decide_eq_false h1)
  have h2 := List.not_lt.mp (of_decide_eq_false h2)
  have h3 := List.le_antisymm h1 h2
  obtain ⟨⟨a⟩⟩ := a
  obtain ⟨⟨b⟩⟩ := b
  have h3 : a = b := h3
  rw [h3]
theorem sortX_uniq {xs ys : List Str} (p : ys.Perm xs) (h : ys.Pairwise fun a b => ltSB b a = false) : ys = sortX xs :=
  List.Perm.eq_of_pairwise (le := fun a b => ltSB b a = false) (fun a b _ _ h1 h2 => ltSB_anti h1 h2) h (sortX_srt xs) (p.trans (sortX_perm xs).symm)
section
variable {prog : Program} {w : World} {A : Around} {E : Value → Shared → Prop} {s : Shared}
theorem strs_mem : ∀ {vs : List Value} {ns : List Str}, StrsAre vs ns → ∀ v ∈ vs, ∃ i t, v = Value.str i t
  | _, _, .nil, v, h => absurd h (by simp)
  | _, _, .cons n t r, v, h => by
    rcases List.mem_cons.mp h with e | h
    · exact ⟨n, t, e⟩
    · exact strs_mem r v h
theorem strs_of : ∀ {vs : List Value}, (∀ v ∈ vs, ∃ i t, v = Value.str i t) → StrsAre vs (vs.map strOf)
  | [], _ => .nil
  | v :: vs, h => by
    obtain ⟨i, t, e⟩ := h v List.mem_cons_self
    subst e
    exact .cons i t (strs_of fun u hu => h u (List.mem_cons_of_mem _ hu))
theorem of_strs : ∀ {vs : List Value} {ns : List Str}, StrsAre vs ns → vs.map strOf = ns
  | _, _, .nil => rfl
  | _, _, .cons n t r => congrArg (n :: ·) (of_strs r)
theorem str_cmp {vs : List Value} {ns : List Str} (hI : StrsAre vs ns) : SrtO.Cmp prog w A s oneType' (fun p => p.1 ∈ vs) (SrtO.lt2 fun v u => ltSB (strOf v) (strOf u)) := by
  intro p q hm hm'
  obtain ⟨a, t, e⟩ := strs_mem hI _ hm
  obtain ⟨b, u, e'⟩ := strs_mem hI _ hm'
  show wpAny (model prog w) A (keyLt' oneType' p.1 q.1) (fun r s' => s' = s ∧ r = ltSB (strOf p.1) (strOf q.1)) (fun _ _ => False) s
  rw [e, e', keyLt'_oneType]
  exact oneLt_str ⟨rfl, rfl⟩
theorem strs_sortable {a : Addr} {vs : List Value} {ns : List Str} (hI : StrsAre vs ns) (h2 : 2 ≤ vs.length) : SrtO.SortableO prog w A s a vs fun v u => ltSB (strOf v) (strOf u) := by
  intro h' _
  refine ⟨oneType', fun Q E hq => ?_, str_cmp hI⟩
  match vs, hI, h2 with
  | v1 :: v2 :: rest, hI, _ =>
    rw [keyKind_strs hI]
    exact wpAny_pure hq
  | [], _, h => exact absurd h (by decide)
  | [v], _, h => exact absurd h (by simp)
end
def rSortedX (K : Frag) : List V → Hp → VK → Prop := fun vs H Q => ∃ (a : Addr) (xs : List Str), vs = [V.ref a] ∧ SqL K H a (xs.map V.str) ∧ ∀ p, H p = none → Q (.ref p) (upd H p (.lst ((sortX xs).map V.str)))
theorem cr_sortedX {X : Cx} : CallR X (.builtin "sorted") (rSortedX X.K) := by
  intro pins s σ H vs us Q I r h
  obtain ⟨a, ns, rfl, hs, q⟩ := h
  obtain ⟨its, rv, hl, hz⟩ := I.list hs
  rw [Vals.ref1 r]
  have hi := rv.strs
  refine SrtO.sorted_ord (swo_ltSB strOf) hl.isList (by rw [← rv.length]; exact hz) (fun h2 h₁ a' _ _ => strs_sortable hi h2) fun out h1 h2 => ?_
  have h3 : ∀ v ∈ out, ∃ i t, v = Value.str i t := fun v hv => strs_mem hi v (h2.perm.mem_iff.mp hv)
  have k1 := strs_of h3
  have k2 : (out.map strOf).Perm ns := by
    have q := h2.perm.map strOf
    rw [of_strs hi] at q
    exact q
  have k3 : out.map strOf = sortX ns := sortX_uniq k2 (List.pairwise_map.mpr h1)
  obtain ⟨ep, he'⟩ := PyProof.Rows.sortedAll_at s.heap its out.toArray
  have hlen : ((sortX ns).map V.str).length ≤ sizeLine := by
    rw [List.length_map, (sortX_perm ns).length_eq]
    rw [List.length_map] at hz
    exact hz
  rw [k3] at k1
  exact ⟨.ref _, upd H (s.heap.objs.size + 1) (.lst ((sortX ns).map V.str)), I.laid (t' := s.toks) (fun _ _ => PyProof.Rows.sortedAll_old) (Nat.le_succ _) ⟨hlen, out, ep, vals_of_strs k1, he'⟩, rfl, q _ (I.hok.fresh (Nat.le_succ _))⟩
end Sb

set_option Elab.async false
set_option maxRecDepth 100000
set_option maxHeartbeats 4000000
set_option linter.all false
/-! Shelves of a whole run: what each keeps; a store of one key; what a store's deed leaves. -/
namespace Sb
open PySem L2 PyProof.Rows
/-- a shelf in a run: its rows are some of those put -/
structure Good (G : List Row) (n : Nat) (s : Shelf) : Prop where
  wf : WF n s
  pos : ∀ i, 0 ≤ s.1.getD i 0
  sub : ∀ r ∈ s.2, r ∈ G ∧ 1 ≤ r.2.1
theorem getD_rep (n : Nat) (i : Nat) : (List.replicate n (0 : Int)).getD i 0 = 0 := by
  rw [List.getD_eq_getElem?_getD, List.getElem?_replicate]
  split <;> rfl
theorem Good.start (G : List Row) (n : Nat) : Good G n (List.replicate n 0, []) :=
  ⟨⟨List.length_replicate, fun _ z => (nomatch z), fun _ z => (nomatch z), List.Pairwise.nil, List.nodup_nil⟩, fun i => by rw [getD_rep]; exact Int.le_refl 0, fun _ z => (nomatch z)⟩
section
variable {G G' : List Row} {n : Nat} {s t : Shelf} {m : List Int} {k : Nat} {v : Int}
theorem Good.mono (h : Good G n s) (sub : ∀ r ∈ G, r ∈ G') : Good G' n s := ⟨h.wf, h.pos, fun r hr => ⟨sub r (h.sub r hr).1, (h.sub r hr).2⟩⟩
theorem Good.few (h : Good G n s) : s.2.length ≤ G.length := List.Nodup.length_le_of_subset h.wf.nod fun r hr => (h.sub r hr).1
theorem Good.ok (h : Good G n s) (hG : G.length ≤ 3000) : ShOk n s := ⟨h.wf.len, h.wf.rin, by have := h.few; omega⟩
theorem getD_mem {m : List Int} (p : ∀ i, 0 ≤ m.getD i 0) : ∀ i ∈ m, 0 ≤ i := fun i hi => by
  obtain ⟨j, hj⟩ := List.mem_iff_getElem?.mp hi
  have := p j
  rw [List.getD_eq_getElem?_getD, hj] at this
  exact this
theorem mem_getD {m : List Int} (p : ∀ i ∈ m, 0 ≤ i) : ∀ i, 0 ≤ m.getD i 0 := fun i => by
  rw [List.getD_eq_getElem?_getD]
  cases h : m[i]? with
  | none => exact Int.le_refl 0
  | some x => exact p x (List.mem_of_getElem? h)
theorem Good.isMk (h : Good G n s) : isMk n (markD s.1) = true := isMk_mark h.wf.len (getD_mem h.pos)
theorem joinM_pos {a b : List Int} (e : a.length = b.length) (ha : ∀ i, 0 ≤ a.getD i 0) : ∀ i, 0 ≤ (joinM a b).getD i 0 := fun i => by
  by_cases hi : i < a.length
  · rw [joinM_getD e hi]
    have := ha i
    omega
  · rw [List.getD_eq_getElem?_getD, List.getElem?_eq_none (by rw [joinM_len e]; omega)]
    exact Int.le_refl 0
theorem Good.met (hs : Good G n s) (ht : Good G n t) : Good G n (metS s t) := by
  refine ⟨hs.wf.met ht.wf, joinM_pos (by rw [hs.wf.len, ht.wf.len]) hs.pos, fun r hr => ?_⟩
  rcases mem_met.mp hr with h | h | h
  · exact hs.sub r h.1
  · exact hs.sub r h.1
  · exact ht.sub r h.1
theorem Good.dropped (hs : Good G n s) (hm : m.length = n) : Good G n (droppedS s m) := by
  have e : s.1.length = m.length := by rw [hs.wf.len, hm]
  refine ⟨⟨by show (joinM s.1 m).length = n; rw [joinM_len e, hs.wf.len], hs.wf.rin.unseen, fun r hr => ?_, ?_, ?_⟩, joinM_pos e hs.pos, fun r hr => hs.sub r (mem_unseen.mp hr).1⟩
  · have hr := (mem_unseen.mp hr).1
    obtain ⟨h0, h1⟩ := hs.wf.rin r hr
    show seen (joinM s.1 m) r = true
    rw [seen_join e h0 (by rw [hs.wf.len]; exact h1), hs.wf.saw r hr]; rfl
  · exact hs.wf.srt.filter _
  · exact hs.wf.nod.filter _
/-- the row of a put -/
def newRow (s : Shelf) (k : Nat) (v : Int) : Row := ((k : Int), s.1.getD k 0 + 1, v)
theorem mem_putOn {r : Row} : r ∈ (putOn s k v m).2 ↔ (r ∈ s.2 ∧ seen m r = false) ∨ r = newRow s k v := by
  unfold putOn
  rw [mem_sortR, List.mem_append, mem_unseen, List.mem_singleton]; rfl
theorem new_unseen (k : Nat) (v : Int) (s : Shelf) : seen s.1 (newRow s k v) = false := by
  unfold seen newRow
  exact decide_eq_false (by simp; omega)
theorem putRows_nod (h : WF n s) : (unseen s.2 m ++ [newRow s k v]).Nodup := by
  refine nd_snoc (h.nod.filter _) fun z => ?_
  have h1 := h.saw _ (mem_unseen.mp z).1
  rw [new_unseen] at h1; cases h1
theorem putMark_getD (e : s.1.length = m.length) {i : Nat} (hi : i < s.1.length) : (putOn s k v m).1.getD i 0 = if i = k then s.1.getD k 0 + 1 else max (s.1.getD i 0) (m.getD i 0) := by
  show ((joinM s.1 m).set k (s.1.getD k 0 + 1)).getD i 0 = _
  have hi' : i < (joinM s.1 m).length := by rw [joinM_len e]; exact hi
  rw [List.getD_eq_getElem?_getD]
  by_cases h : i = k
  · subst h
    rw [List.getElem?_set_self hi', if_pos rfl]; rfl
  · rw [List.getElem?_set_ne (fun z => h z.symm), if_neg h, ← List.getD_eq_getElem?_getD, joinM_getD e hi]
theorem putMark_len (e : s.1.length = m.length) : (putOn s k v m).1.length = s.1.length := by
  show ((joinM s.1 m).set k (s.1.getD k 0 + 1)).length = _
  rw [List.length_set, joinM_len e]
theorem Good.put (hs : Good G n s) (hm : m.length = n) (hk : k < n) (hG : ∀ r ∈ G, r ∈ G') (hn : newRow s k v ∈ G') : Good G' n (putOn s k v m) := by
  have e : s.1.length = m.length := by rw [hs.wf.len, hm]
  have rin : Rin n (unseen s.2 m ++ [newRow s k v]) := hs.wf.rin.unseen.app fun r hr => by
    rw [List.mem_singleton] at hr
    subst hr
    exact ⟨Int.natCast_nonneg k, by show (k : Int) < n; omega⟩
  refine ⟨⟨by rw [putMark_len e, hs.wf.len], rin.sort, fun r hr => ?_, sortR_srt _, sortR_nod (putRows_nod hs.wf)⟩, fun i => ?_, fun r hr => ?_⟩
  · rcases mem_putOn.mp hr with h | h
    · obtain ⟨h0, h1⟩ := hs.wf.rin r h.1
      have hsaw := hs.wf.saw r h.1
      unfold seen at hsaw ⊢
      rw [putMark_getD e (by rw [hs.wf.len]; omega)]
      have := of_decide_eq_true hsaw
      refine decide_eq_true ?_
      split
      · rename_i q; rw [q] at this; omega
      · omega
    · subst h
      unfold seen newRow
      have hk' : ((k : Int)).toNat = k := by omega
      dsimp only
      rw [hk', putMark_getD e (by rw [hs.wf.len]; exact hk), if_pos rfl]
      exact decide_eq_true (Int.le_refl _)
  · by_cases hi : i < s.1.length
    · rw [putMark_getD e hi]
      have h1 := hs.pos k
      have h2 := hs.pos i
      split <;> omega
    · rw [List.getD_eq_getElem?_getD, List.getElem?_eq_none (by rw [putMark_len e]; omega)]
      exact Int.le_refl 0
  · rcases mem_putOn.mp hr with h | h
    · exact ⟨hG r (hs.sub r h.1).1, (hs.sub r h.1).2⟩
    · subst h
      refine ⟨hn, ?_⟩
      have := hs.pos k
      show 1 ≤ s.1.getD k 0 + 1
      omega
end
/-! ### a store of one key -/
def One (key : Str) (kv : KV1) : Prop := kv = [] ∨ ∃ sh, kv = [(key, sh)]
theorem One.put {key : Str} {kv : KV1} (h : One key kv) (sh : Shelf) : One key (aPut kv key sh) := by
  rcases h with rfl | ⟨s, rfl⟩
  · exact .inr ⟨sh, rfl⟩
  · refine .inr ⟨sh, ?_⟩
    unfold aPut
    rw [if_pos (by simp)]
    simp
theorem One.len {key : Str} {kv : KV1} (h : One key kv) : kv.length ≤ 1 := by
  rcases h with rfl | ⟨s, rfl⟩
  · exact Nat.zero_le _
  · exact Nat.le_refl _
theorem One.other {key s : Str} {kv : KV1} {n : Nat} (h : One key kv) (e : ¬ s = key) : shelfOf n kv s = (List.replicate n 0, []) := by
  unfold shelfOf
  rcases h with rfl | ⟨sh, rfl⟩
  · rfl
  · rw [aGet_cons, if_neg fun z => e z.symm]; rfl
def setF (f : Nat → Shelf) (k : Nat) (s : Shelf) : Nat → Shelf := fun i => if i = k then s else f i
theorem setF_eq {f : Nat → Shelf} {k : Nat} {s : Shelf} : setF f k s k = s := if_pos rfl
theorem setF_ne {f : Nat → Shelf} {k i : Nat} {s : Shelf} (h : i ≠ k) : setF f k s i = f i := if_neg h
/-- a store of n keepers at v that knows the key alone: f tells the shelves -/
def OneAt (M : Addr → Prop) (H : Hp) (C : Addr) (v : V) (ds : List Addr) (n : Nat) (key : Str) (f : Nat → Shelf) : Prop :=
  ∃ st, StoreAt M H C v ds n st ∧ ∀ (k : Nat) (kv : KV1), st[k]? = some kv → One key kv ∧ shelfOf n kv key = f k
/-- all but the dicts stands as before -/
structure Keep (H H' : Hp) : Prop where
  keep : ∀ b o, (∀ kvs, o ≠ .dK kvs) → H b = some o → H' b = some o
  occ : ∀ b, H' b = none → H b = none
section
variable {M M' : Addr → Prop} {H H' H'' : Hp} {C : Addr} {v x : V} {ds : List Addr} {n : Nat} {key : Str} {f : Nat → Shelf} {K : Frag} {d : PyData}
theorem Keep.same (s : Same H H') : Keep H H' := ⟨fun b o _ e => s b o e, fun b e => s.free e⟩
theorem Keep.refl (H : Hp) : Keep H H := .same (Same.refl H)
theorem Keep.trans (a : Keep H H') (b : Keep H' H'') : Keep H H'' := ⟨fun x o n e => b.keep x o n (a.keep x o n e), fun x e => a.occ x (b.occ x e)⟩
theorem Keep.ext (k : Keep H H') : Ext M M H H' := ⟨fun a xs e => k.keep a _ (fun _ z => nomatch z) e, fun a xs m e => ⟨m, k.keep a _ (fun _ z => nomatch z) e⟩⟩
theorem Keep.rp (k : Keep H H') (h : Rp M H x d) : Rp M H' x d := h.ext k.ext
theorem Keep.fr (k : Keep H H') (f : Fr M H) : Fr M H' := fun a e => f a (k.occ a e)
theorem Keep.lst (k : Keep H H') {a : Addr} {xs : List V} (h : H a = some (.lst xs)) : H' a = some (.lst xs) := k.keep a _ (fun _ z => nomatch z) h
theorem Keep.seq (k : Keep H H') {a : Addr} {xs : List V} (h : SqL K H a xs) : SqL K H' a xs := by
  rcases h with (h | ⟨o, h⟩) | h
  · exact .inl (.inl (k.lst h))
  · exact .inl (.inr ⟨o, k.keep a _ (fun _ z => nomatch z) h⟩)
  · exact .inr h
theorem Keep.old (k : Keep H H') (h : Rp (Old H') H'' x d) : Rp (Old H) H'' x d := h.ext (Ext.less fun a m z => m (k.occ a z))
theorem StoreAt.keep {st st' : Kept} {dk : Addr} (S : StoreAt M H C v ds n st) (S' : StoreAt M' H' C v ds n st') (hd : dk ∈ ds) (b : But dk H H') : Keep H H' := by
  refine ⟨fun a o no e => b a o (fun z => ?_) e, fun a e => ?_⟩
  · obtain ⟨kvs, hk⟩ := S.occ hd
    rw [z, hk] at e
    exact no kvs (Option.some.inj e).symm
  · cases q : H a with
    | none => rfl
    | some o =>
      by_cases z : a = dk
      · obtain ⟨kvs, hk⟩ := S'.occ hd
        rw [z, hk] at e; cases e
      · rw [b a o z q] at e; cases e
theorem StoreAt.write {st : Kept} {L : Addr} {xs ys : List V} (S : StoreAt M H C v ds n st) (m : M L) (h : H L = some (.lst xs)) : StoreAt M (upd H L (.lst ys)) C v ds n st :=
  S.but (But.upd _) (fun zs => ⟨fun z => (by rw [h] at z; cases z), fun z => absurd m z⟩) (fun D dx fs z => by rw [h] at z; cases z) fun z => by
    obtain ⟨kvs, hk⟩ := S.occ z
    rw [hk] at h; cases h
theorem OneAt.same (S : OneAt M H C v ds n key f) (s : Same H H') : OneAt M H' C v ds n key f := let ⟨st, a, b⟩ := S; ⟨st, a.same s, b⟩
theorem OneAt.fresh {q : Addr} (S : OneAt M H C v ds n key f) (s : Same H H') (hq : H q = none) : OneAt (fun a => M a ∨ a = q) H' C v ds n key f := let ⟨st, a, b⟩ := S; ⟨st, a.fresh s hq, b⟩
theorem OneAt.less (S : OneAt M H C v ds n key f) (k : ∀ a, M' a → M a) : OneAt M' H C v ds n key f := let ⟨st, a, b⟩ := S; ⟨st, a.less k, b⟩
theorem OneAt.write {L : Addr} {xs ys : List V} (S : OneAt M H C v ds n key f) (m : M L) (h : H L = some (.lst xs)) : OneAt M (upd H L (.lst ys)) C v ds n key f := let ⟨st, a, b⟩ := S; ⟨st, a.write m h, b⟩
theorem OneAt.start (S : StoreAt M H C v ds n (List.replicate n [])) : OneAt M H C v ds n key fun _ => (List.replicate n 0, []) :=
  ⟨_, S, fun k kv h => by
    rw [List.getElem?_replicate] at h
    split at h
    · cases h; exact ⟨.inl rfl, rfl⟩
    · cases h⟩
theorem OneAt.at {k : Nat} (S : OneAt M H C v ds n key f) (hk : k < n) : ∃ st kv dk, StoreAt M H C v ds n st ∧ st[k]? = some kv ∧ ds[k]? = some dk ∧ One key kv ∧ shelfOf n kv key = f k ∧ ∀ (k : Nat) (kv : KV1), st[k]? = some kv → One key kv ∧ shelfOf n kv key = f k := by
  obtain ⟨st, a, b⟩ := S
  have h1 : st[k]? = some (st[k]'(by rw [a.sl]; exact hk)) := List.getElem?_eq_getElem _
  exact ⟨st, _, _, a, h1, List.getElem?_eq_getElem (by rw [a.dl]; exact hk), (b k _ h1).1, (b k _ h1).2, b⟩
theorem OneAt.put {st : Kept} {k : Nat} {kv : KV1} {sh : Shelf} (b : ∀ (k : Nat) (kv : KV1), st[k]? = some kv → One key kv ∧ shelfOf n kv key = f k) (h : st[k]? = some kv) (S : StoreAt M H C v ds n (st.set k (aPut kv key sh))) : OneAt M H C v ds n key (setF f k sh) := by
  refine ⟨_, S, fun i kv' h' => ?_⟩
  by_cases e : i = k
  · subst e
    rw [List.getElem?_set_self (List.getElem?_eq_some_iff.mp h).1] at h'
    cases h'
    exact ⟨(b i kv h).1.put sh, by rw [shelfOf_put, if_pos rfl, setF_eq]⟩
  · rw [List.getElem?_set_ne (fun z => e z.symm)] at h'
    rw [setF_ne e]
    exact b i kv' h'
end
end Sb

set_option Elab.async false
set_option maxRecDepth 100000
set_option maxHeartbeats 4000000
set_option linter.all false
/-! Equal data of looks, of lists of ints and of texts. -/
namespace Sb
open PySem L2 PyProof.Rows
mutual
theorem eqv_refl : ∀ d : PyData, d.canLay0 = true → PyData.eqv d d = true
  | .none, _ => by unfold PyData.eqv; rfl
  | .bool b, _ => by unfold PyData.eqv; simp
  | .int i, _ => by unfold PyData.eqv; simp
  | .str x, _ => by unfold PyData.eqv; simp
  | .list xs, h => by
    unfold PyData.eqv
    unfold PyData.canLay0 at h
    exact eqvAll_refl xs h
  | .tuple xs, h => by
    unfold PyData.eqv
    unfold PyData.canLay0 at h
    exact eqvAll_refl xs h
  | .dict xs, h => by unfold PyData.canLay0 at h; cases h
theorem eqvAll_refl : ∀ ds : List PyData, PyData.canLayAll0 ds = true → PyData.eqvAll ds ds = true
  | [], _ => by unfold PyData.eqvAll; rfl
  | d :: ds, h => by
    unfold PyData.canLayAll0 at h
    rw [Bool.and_eq_true] at h
    unfold PyData.eqvAll
    rw [eqv_refl d h.1, eqvAll_refl ds h.2]; rfl
end
theorem lay_list {ds : List PyData} : (PyData.list ds).canLay0 = PyData.canLayAll0 ds := by unfold PyData.canLay0; rfl
theorem lay_tuple {ds : List PyData} : (PyData.tuple ds).canLay0 = PyData.canLayAll0 ds := by
  conv => lhs; unfold PyData.canLay0
theorem depth_list {ds : List PyData} : (PyData.list ds).depth = PyData.depthAll ds + 1 := by
  conv => lhs; unfold PyData.depth
theorem depth_tuple {ds : List PyData} : (PyData.tuple ds).depth = PyData.depthAll ds + 1 := by
  conv => lhs; unfold PyData.depth
theorem layAll_cons {d : PyData} {ds : List PyData} : PyData.canLayAll0 (d :: ds) = (d.canLay0 && PyData.canLayAll0 ds) := by
  conv => lhs; unfold PyData.canLayAll0
theorem layAll_nil : PyData.canLayAll0 [] = true := by unfold PyData.canLayAll0; rfl
theorem depthAll_nil : PyData.depthAll [] = 0 := by unfold PyData.depthAll; rfl
theorem depthAll_cons {d : PyData} {ds : List PyData} : PyData.depthAll (d :: ds) = max d.depth (PyData.depthAll ds) := by
  conv => lhs; unfold PyData.depthAll
theorem shaped_of {d : PyData} (h : d.canLay0 = true) (k : d.depth ≤ 64) : SeqAt.shaped d = true := by
  unfold SeqAt.shaped
  rw [h, decide_eq_true k]; rfl
/-- no deeper than n -/
structure Sh (n : Nat) (d : PyData) : Prop where
  lay : d.canLay0 = true
  deep : d.depth ≤ n
theorem Sh.shaped {n : Nat} {d : PyData} (h : Sh n d) (hn : n ≤ 64) : SeqAt.shaped d = true := shaped_of h.lay (Nat.le_trans h.deep hn)
theorem sh_all {n : Nat} : ∀ {ds : List PyData}, (∀ d ∈ ds, Sh n d) → PyData.canLayAll0 ds = true ∧ PyData.depthAll ds ≤ n
  | [], _ => ⟨layAll_nil, by rw [depthAll_nil]; exact Nat.zero_le _⟩
  | d :: ds, h => by
    have h1 := h d List.mem_cons_self
    have h2 := sh_all fun e he => h e (List.mem_cons_of_mem _ he)
    refine ⟨by rw [layAll_cons, h1.lay, h2.1]; rfl, ?_⟩
    rw [depthAll_cons]
    have := h1.deep
    omega
theorem Sh.list {n : Nat} {ds : List PyData} (h : ∀ d ∈ ds, Sh n d) : Sh (n + 1) (.list ds) := ⟨by rw [lay_list]; exact (sh_all h).1, by rw [depth_list]; have := (sh_all h).2; omega⟩
theorem Sh.tuple {n : Nat} {ds : List PyData} (h : ∀ d ∈ ds, Sh n d) : Sh (n + 1) (.tuple ds) := ⟨by rw [lay_tuple]; exact (sh_all h).1, by rw [depth_tuple]; have := (sh_all h).2; omega⟩
theorem sh_int (i : Int) : Sh 0 (.int i) := ⟨by unfold PyData.canLay0; rfl, by unfold PyData.depth; exact Nat.le_refl _⟩
theorem sh_str {x : Str} (h : PyData.strOk x = true) : Sh 0 (.str x) := ⟨by unfold PyData.canLay0; exact h, by unfold PyData.depth; exact Nat.le_refl _⟩
theorem Sh.mono {n m : Nat} {d : PyData} (h : Sh n d) (k : n ≤ m) : Sh m d := ⟨h.lay, Nat.le_trans h.deep k⟩
theorem sh_ints (ns : List Int) : ∀ d ∈ ns.map PyData.int, Sh 0 d := fun d h => by
  obtain ⟨i, _, rfl⟩ := List.mem_map.mp h
  exact sh_int i
theorem sh_mark (m : List Int) : Sh 1 (markD m) := .tuple (sh_ints m)
theorem sh_intl (ns : List Int) : Sh 1 (.list (ns.map PyData.int)) := .list (sh_ints ns)
theorem sh_look (s : Shelf) : Sh 2 (lookD s) := .tuple fun d h => by
  rcases List.mem_cons.mp h with rfl | h
  · exact sh_intl _
  · rw [List.mem_singleton] at h
    subst h; exact sh_mark _
theorem sh_strs {ns : List Str} (h : ∀ x ∈ ns, PyData.strOk x = true) : Sh 1 (.list (ns.map PyData.str)) := .list fun d k => by
  obtain ⟨i, hi, rfl⟩ := List.mem_map.mp k
  exact sh_str (h i hi)
theorem eqv_intl (m n : List Int) : PyData.eqv (.list (m.map PyData.int)) (.list (n.map PyData.int)) = decide (m = n) := by
  unfold PyData.eqv
  exact eqvAll_ints m n
theorem eqvAll_strs : ∀ m n : List Str, PyData.eqvAll (m.map PyData.str) (n.map PyData.str) = decide (m = n)
  | [], [] => rfl
  | [], _ :: _ => rfl
  | _ :: _, [] => rfl
  | a :: m, b :: n => by
    rw [List.map_cons, List.map_cons]
    unfold PyData.eqvAll
    rw [eqvAll_strs m n]
    unfold PyData.eqv
    by_cases h : a = b <;> by_cases h' : m = n <;> simp [h, h']
theorem eqv_strs (m n : List Str) : PyData.eqv (.list (m.map PyData.str)) (.list (n.map PyData.str)) = decide (m = n) := by
  unfold PyData.eqv
  exact eqvAll_strs m n
section
variable {K : Frag} {M M' : Addr → Prop} {H : Hp} {x y : V} {d e : PyData} {Q : VK} {m n : List Int} {ks ls : List Str}
/-- the same data -/
theorem w_eqS {k : Nat} (h : Rp M H x d) (h' : Rp M' H y d) (s : Sh k d) (hk : k ≤ 64) (q : Q (.bl true) H) : rEqD K x y H Q := ⟨_, _, h.dp, h'.dp, s.shaped hk, s.shaped hk, by rw [eqv_refl d s.lay]; exact q⟩
theorem w_neS {k : Nat} (h : Rp M H x d) (h' : Rp M' H y d) (s : Sh k d) (hk : k ≤ 64) (q : Q (.bl false) H) : rNeD K x y H Q := ⟨_, _, h.dp, h'.dp, s.shaped hk, s.shaped hk, by rw [eqv_refl d s.lay]; exact q⟩
theorem w_eqI (h : Rp M H x (.list (m.map PyData.int))) (h' : Rp M' H y (.list (n.map PyData.int))) (q : Q (.bl (decide (m = n))) H) : rEqD K x y H Q := ⟨_, _, h.dp, h'.dp, (sh_intl m).shaped (by decide), (sh_intl n).shaped (by decide), by rw [eqv_intl]; exact q⟩
theorem w_neI (h : Rp M H x (.list (m.map PyData.int))) (h' : Rp M' H y (.list (n.map PyData.int))) (q : Q (.bl (!decide (m = n))) H) : rNeD K x y H Q := ⟨_, _, h.dp, h'.dp, (sh_intl m).shaped (by decide), (sh_intl n).shaped (by decide), by rw [eqv_intl]; exact q⟩
theorem w_eqK (h : Rp M H x (.list (ks.map PyData.str))) (h' : Rp M' H y (.list (ls.map PyData.str))) (s : ∀ x ∈ ks, PyData.strOk x = true) (s' : ∀ x ∈ ls, PyData.strOk x = true) (q : Q (.bl (decide (ks = ls))) H) : rEqD K x y H Q := ⟨_, _, h.dp, h'.dp, (sh_strs s).shaped (by decide), (sh_strs s').shaped (by decide), by rw [eqv_strs]; exact q⟩
theorem w_neK (h : Rp M H x (.list (ks.map PyData.str))) (h' : Rp M' H y (.list (ls.map PyData.str))) (s : ∀ x ∈ ks, PyData.strOk x = true) (s' : ∀ x ∈ ls, PyData.strOk x = true) (q : Q (.bl (!decide (ks = ls))) H) : rNeD K x y H Q := ⟨_, _, h.dp, h'.dp, (sh_strs s).shaped (by decide), (sh_strs s').shaped (by decide), by rw [eqv_strs]; exact q⟩
/-- the parts of a look -/
theorem w_look0 {s : Shelf} {i : Int} (h : Rp M H x (lookD s)) (ei : i = 0) (q : ∀ v, Rp M H v (valsD s.2) → Q v H) : rIxT K x (.int i) H Q := by subst ei; exact w_ixT 0 h rfl rfl q
theorem w_look1 {s : Shelf} {i : Int} (h : Rp M H x (lookD s)) (ei : i = 1) (q : ∀ v, Rp M H v (markD s.1) → Q v H) : rIxT K x (.int i) H Q := by subst ei; exact w_ixT 1 h rfl rfl q
/-- x in a list of ints -/
theorem inV_ints (i : Int) : ∀ ns : List Int, inV (.int i) (ns.map V.int) = decide (i ∈ ns)
  | [] => rfl
  | n :: ns => by
    unfold inV
    rw [List.map_cons, List.any_cons]
    have := inV_ints i ns
    unfold inV at this
    rw [this]
    show (eqV (.int n) (.int i) || _) = _
    unfold eqV
    by_cases h : n = i
    · subst h; simp
    · have h2 : ¬ i = n := fun z => h z.symm
      simp [h, h2]
theorem flat_ints (ns : List Int) : (ns.map V.int).all flatV = true := List.all_eq_true.mpr fun v hv => by
  obtain ⟨i, _, rfl⟩ := List.mem_map.mp hv
  rfl
theorem w_inI {i : Int} (h : Rp M H y (.list (m.map PyData.int))) (q : Q (.bl (decide (i ∈ m))) H) : rIn K false (.int i) y H Q := by
  obtain ⟨a, xs, rfl, _, ha, r⟩ := h.lst_inv
  rw [r.ints_inv] at ha
  exact ⟨a, _, rfl, .inl (SqL.of ha), rfl, flat_ints m, by rw [inV_ints]; exact q⟩
theorem w_ninI {i : Int} (h : Rp M H y (.list (m.map PyData.int))) (q : Q (.bl (!decide (i ∈ m))) H) : rIn K true (.int i) y H Q := by
  obtain ⟨a, xs, rfl, _, ha, r⟩ := h.lst_inv
  rw [r.ints_inv] at ha
  exact ⟨a, _, rfl, .inl (SqL.of ha), rfl, flat_ints m, by rw [inV_ints]; exact q⟩
end
end Sb

set_option Elab.async false
set_option maxRecDepth 100000
set_option maxHeartbeats 4000000
set_option linter.all false
/-! Steps of the laws over a whole run: lists by their address, pairs of enumerate, cut lists. -/
namespace Sb
open PySem L2 PyProof.Rows
section
variable {M M' : Addr → Prop} {H H' : Hp} {x : V}
theorem RpA.strs : ∀ {ns : List Str}, RpA M H (ns.map V.str) (ns.map PyData.str)
  | [] => RpA.nil
  | n :: ns => RpA.cons (.str n) RpA.strs
theorem RpA.strs_inv : ∀ {ns : List Str} {xs : List V}, RpA M H xs (ns.map PyData.str) → xs = ns.map V.str
  | [], [], _ => rfl
  | [], x :: xs, h => by have := h.1; simp at this
  | n :: ns, [], h => by have := h.1; simp at this
  | n :: ns, x :: xs, h => by
    have h1 := h.head.str_inv
    have h2 := RpA.strs_inv h.tail
    rw [h1, h2, List.map_cons]
end
theorem w_iEnum {K : Frag} {ta : TA} {σ : L2.St} {H : Hp} {R : It → Hp → Prop} (q : ta σ H fun vs H1 => ∃ a xs, vs = [.ref a] ∧ SqL K H1 a xs ∧ R (Ite K a) H1) : iEnum K ta σ H R := q
theorem w_tCB' {K : Frag} {r : List V → Hp → VK → Prop} {t : TA} {σ : L2.St} {H : Hp} {Q : VK} (q : t σ H fun vs H1 => r vs H1 Q) : tCB r t σ H Q := q
section
variable {K : Frag} {M M' : Addr → Prop} {H H' : Hp} {x y v : V} {d e : PyData} {Q : VK} {m n : List Int} {ks ls : List Str} {p : Addr}
/-- a new list of ints, by its address -/
theorem w_listI (h : Rp M H x (.list (m.map PyData.int))) (q : ∀ l H2, H l = none → Same H H2 → (∀ M', ¬ M' l → Rp M' H2 (.ref l) (.list (m.map PyData.int))) → Q (.ref l) H2) : rLst K [x] H Q := by
  obtain ⟨a, xs, rfl, _, ha, r⟩ := h.lst_inv
  rw [r.ints_inv] at ha
  exact ⟨a, _, rfl, .inl (SqL.of ha), fun l hl => q l _ hl (Same.new hl) fun M' n => .lstA n upd_same RpA.ints⟩
/-- more is appended to a list of one's own -/
theorem w_app {xs : List V} (h : H p = some (.lst xs)) (hl : xs.length < 100000) (q : Q .non (upd H p (.lst (xs ++ [v])))) : rAppend (.ref p) [v] H Q := ⟨p, xs, v, rfl, rfl, h, sz_smallL hl, q⟩
theorem Rp.intl_at (h : Rp M H (.ref p) (.list (m.map PyData.int))) : H p = some (.lst (m.map V.int)) := by
  obtain ⟨a, xs, e, _, ha, r⟩ := h.lst_inv
  cases e
  rw [r.ints_inv] at ha
  exact ha
theorem Rp.strl_inv (h : Rp M H v (.list (ks.map PyData.str))) : ∃ a, v = .ref a ∧ ¬ M a ∧ H a = some (.lst (ks.map V.str)) := by
  obtain ⟨a, xs, e, n, ha, r⟩ := h.lst_inv
  rw [r.strs_inv] at ha
  exact ⟨a, e, n, ha⟩
theorem Rp.intl_inv (h : Rp M H v (.list (m.map PyData.int))) : ∃ a, v = .ref a ∧ ¬ M a ∧ H a = some (.lst (m.map V.int)) := by
  obtain ⟨a, xs, e, n, ha, r⟩ := h.lst_inv
  rw [r.ints_inv] at ha
  exact ⟨a, e, n, ha⟩
/-- what has no list of one's own among its lists stays when that is written -/
theorem Rp.wr {o : HO} (h : Rp M H v d) (m : M p) (hp : ∀ xs, H p ≠ some (.tup xs)) : Rp M (upd H p o) v d := h.ext (Ext.write m hp)
theorem lst_notup {xs : List V} (h : H p = some (.lst xs)) : ∀ ys, H p ≠ some (.tup ys) := fun ys z => by rw [h] at z; cases z
theorem look_ref {s : Shelf} (h : Rp M H v (lookD s)) : ∃ p, v = .ref p := by
  obtain ⟨p, xs, e, _⟩ := h.tup_inv
  exact ⟨p, e⟩
end
/-- a look, taken apart -/
theorem look_at {M : Addr → Prop} {H : Hp} {v : V} {s : Shelf} (h : Rp M H v (lookD s)) : ∃ t p mv, v = .ref t ∧ H t = some (.tup [.ref p, mv]) ∧ ¬ M p ∧ H p = some (.lst ((s.2.map fun r => r.2.2).map V.int)) ∧ ∀ M', Rp M' H mv (markD s.1) := by
  obtain ⟨t, xs, rfl, ht, r⟩ := Rp.tup_inv (ds := [valsD s.2, markD s.1]) h
  match xs, r with
  | [x, y], r =>
    obtain ⟨p, rfl, np, hp⟩ := Rp.intl_inv r.head
    exact ⟨t, p, y, rfl, ht, np, hp, fun M' => Rp.mark r.tail.head⟩
  | [], r => exact absurd r.1 (by simp)
  | [_], r => exact absurd r.1 (by simp)
  | _ :: _ :: _ :: _, r => exact absurd r.1 (by simp)
theorem look_of {M : Addr → Prop} {H : Hp} {t p : Addr} {mv : V} {s : Shelf} (ht : H t = some (.tup [.ref p, mv])) (np : ¬ M p) (hp : H p = some (.lst ((s.2.map fun r => r.2.2).map V.int))) (hm : Rp M H mv (markD s.1)) : Rp M H (.ref t) (lookD s) :=
  .tupA ht (RpA.nil.cons hm |>.cons (.lstA np hp RpA.ints))
theorem w_t0 {K : Frag} {H : Hp} {t : Addr} {x : V} {xs : List V} {Q : VK} (h : H t = some (.tup (x :: xs))) (q : Q x H) : rIxT K (.ref t) (.int 0) H Q := ⟨t, _, 0, x, rfl, rfl, SqT.of h, atI_nat (j := 0) rfl, q⟩
theorem w_t1 {K : Frag} {H : Hp} {t : Addr} {x y : V} {xs : List V} {Q : VK} (h : H t = some (.tup (x :: y :: xs))) (q : Q y H) : rIxT K (.ref t) (.int 1) H Q := ⟨t, _, 1, y, rfl, rfl, SqT.of h, atI_nat (j := 1) rfl, q⟩
theorem w_t2 {K : Frag} {H : Hp} {t : Addr} {x y z : V} {xs : List V} {Q : VK} (h : H t = some (.tup (x :: y :: z :: xs))) (q : Q z H) : rIxT K (.ref t) (.int 2) H Q := ⟨t, _, 2, z, rfl, rfl, SqT.of h, atI_nat (j := 2) rfl, q⟩
theorem w_lenTt {K : Frag} {H : Hp} {t : Addr} {xs : List V} {Q : VK} (h : H t = some (.tup xs)) (q : Q (.int xs.length) H) : rLen K [.ref t] H Q := ⟨t, xs, rfl, .inr (SqT.of h), q⟩
theorem not_old {H : Hp} {p : Addr} (h : ¬ Old H p) : H p = none := by
  cases z : H p with
  | none => rfl
  | some o => exact absurd (fun e => by rw [z] at e; cases e) h
theorem w_mth1 {M : Addr → Prop} {H : Hp} {C : Addr} {v : V} {ds : List Addr} {n : Nat} {key : Str} {f : Nat → Shelf} {m : Str} {R : Prop} (S : OneAt M H C v ds n key f) (h1 : ¬ m = "first") (h2 : ¬ m = "kept") (q : R) : rMth C m v H R := let ⟨_, S, _⟩ := S; w_mth S h1 h2 q
theorem cutV_from {xs : List V} {lo hi : Int} (h0 : 0 ≤ lo) (h1 : lo ≤ hi) : (cutV xs (some lo) (some hi)).length ≤ (hi - lo).toNat := by
  unfold cutV
  rw [List.length_take]
  unfold HT.sIx
  simp only
  split <;> split <;> omega
end Sb

set_option Elab.async false
set_option maxRecDepth 100000
set_option maxHeartbeats 4000000
set_option linter.all false
/-! list(reversed(a list)). -/
namespace Sb
open PySem L2 PyProof.Rows RT
section
variable {prog : Program} {w : World} {A : Around} {E : Value → Shared → Prop} {s : Shared}
theorem ext_rev {R : Result → Shared → Prop} {it l S : Addr} {items : Array Value} {res : Value} {c₀ : Nat} (hh : A.handled = none) (hit : s.heap.IsRevIter it l ((items.size : Int) - 1)) (hl : s.heap.IsList l items) (hne : l ≠ it) (hn : items.size ≤ sizeLine) (hSi : S ≠ it) (hSl : S ≠ l)
    (hS : s.heap.get? S = some { cls := .type "list", data := .seq #[] c₀ })
    (hR : ∀ h' tk acc' c', (∀ b o, b ≠ S → b ≠ it → s.heap.get? b = some o → h'.get? b = some o) → h'.get? S = some { cls := .type "list", dict := none, data := .seq acc' c', slots := #[] } → ItemsOf (fun i v => items[items.size - 1 - i]? = some v) acc' items.size → R (.ok (.ret res)) { s with heap := h', toks := tk }) :
    wpAny (model prog w) A.in1 (Builtin.List.listExtendWith (.ref S) (.ref it) res)
      (fun fin s' => match fin with | .done f => R (.ok f) s' | .again c' => c'.quiet = true ∧ codeAny (model prog w) A c' R s') (fun e s' => R (.error e) s') s := by
  have W := (Walks.listRev (prog := prog) (w := w) (A := A.in1) hh it l hne items).toS
  have hSf : S ∉ [it, l] := by simp only [List.mem_cons, List.not_mem_nil, or_false, not_or]; exact ⟨hSi, hSl⟩
  have hT : s.TypeIs (.ref it) "list_reverseiterator" := Heap.IsRevIter.typeIs hit
  have h1 : Builtin.List.listSameRef (.ref S) (.ref it) = false := by simp [Builtin.List.listSameRef, hSi]
  unfold Builtin.List.listExtendWith
  refine wpAny_bind (wpAny_typeOf hT ?_)
  rw [if_neg (by rw [h1]; decide)]
  refine wpAny_bind (wpAny_pyIter_revIter hit ?_)
  refine wpAny_bind (wpAny_holding ?_)
  unfold Builtin.List.listLengthHint
  refine wpAny_bind (wpAny_specialOf hT nolen_lri ?_)
  show wpAny _ A.in1 (specialOf (Value.ref it) (Str.ofString "__length_hint__") >>= _) _ _ _
  refine wpAny_bind (wpAny_specialOf hT hint_lri ?_)
  generalize hid : ("list_reverseiterator.__length_hint__" : String) = id0
  wp_delta
  rw [show splitId id0 = some ("list_reverseiterator", "__length_hint__") from by subst hid; decide +kernel]
  subst hid
  refine wpAny_bind (wpAny_isInstance (b := true) hT (by rw [isSubtype_type]; kernel_rfl) ?_)
  refine wpAny_pure ?_
  rw [if_neg (by decide)]
  have e0 : ((items.size : Nat) : Int) - 1 - ((0 : Nat) : Int) = (items.size : Int) - 1 := by omega
  refine wpAny_pure ⟨plainId_quiet F.plain_extend_loop _, codeAny_extend_loopS W hn _ hSf _ items.size 0 _ _ _ rfl (Nat.zero_le _) ⟨Nat.zero_le _, by rw [e0]; exact hit, hl⟩ hS (ItemsOf.nil _) fun s' acc' c' hm hS' hacc => ?_⟩
  rw [Moved.eq_with hm]
  refine hR s'.heap s'.toks acc' c' (fun b o hb hi e => hm.heap b o (fun hmem => ?_) e) hS' hacc
  rcases List.mem_cons.mp hmem with e' | hmem
  · exact hb e'
  · exact hi (List.mem_singleton.mp hmem)
theorem init_rev {R : Result → Shared → Prop} {it l S : Addr} {items : Array Value} (hh : A.handled = none) (hit : s.heap.IsRevIter it l ((items.size : Int) - 1)) (hl : s.heap.IsList l items) (hne : l ≠ it) (hn : items.size ≤ sizeLine) (hSi : S ≠ it) (hSl : S ≠ l)
    (hS : s.heap.get? S = some { cls := .type "list", data := .seq #[] })
    (hR : ∀ h' tk acc' c', (∀ b o, b ≠ S → b ≠ it → s.heap.get? b = some o → h'.get? b = some o) → h'.get? S = some { cls := .type "list", dict := none, data := .seq acc' c', slots := #[] } → ItemsOf (fun i v => items[items.size - 1 - i]? = some v) acc' items.size → R (.ok (.ret .none)) { s with heap := h', toks := tk }) :
    wpAny (model prog w) A.in1 (Builtin.«list.__init__» ⟨[.ref S, .ref it], []⟩)
      (fun fin s' => match fin with | .done f => R (.ok f) s' | .again c' => c'.quiet = true ∧ codeAny (model prog w) A c' R s') (fun e s' => R (.error e) s') s := by
  show wpAny _ _ (do let old ← Builtin.List.listItems (.ref S); Builtin.List.listUpdate (.ref S) (fun _ => #[]); letGo old.toList.reverse; Builtin.List.listExtendWith (.ref S) (.ref it) .none) _ _ s
  refine wpAny_bind ?_
  unfold Builtin.List.listItems
  refine wpAny_bind (wpAny_seqItems hS rfl (wpAny_pure ?_))
  show wpAny _ _ (updateSeq S (fun _ => #[]) >>= fun _ => letGo (#[] : Array Value).toList.reverse >>= fun _ => Builtin.List.listExtendWith (.ref S) (.ref it) .none) _ _ s
  refine wpAny_bind (wpAny_updateSeq hS rfl ?_)
  have hS₂ := Heap.get?_update_self (Obj.mapSeq (fun _ => (#[] : Array Value))) hS rfl
  have oth : ∀ b o, b ≠ S → s.heap.get? b = some o → (s.heap.update S (Obj.mapSeq (fun _ => (#[] : Array Value)))).get? b = some o :=
    fun b o hb e => (Heap.get?_update_other _ _ (Ne.symm hb)).trans e
  refine wpAny_bind (wpAny_letGo ?_)
  obtain ⟨ol, hol, rl⟩ := hl
  refine ext_rev (s := { s with heap := s.heap.update S (Obj.mapSeq (fun _ => (#[] : Array Value))) }) hh (hit.at fun o e => oth it o hSi.symm e) ⟨ol, oth l ol hSl.symm hol, rl⟩ hne hn hSi hSl hS₂ fun h' tk acc' c' hk hS' hacc => ?_
  exact hR h' tk acc' c' (fun b o hb hi e => hk b o hb hi (oth b o hb e)) hS' hacc
theorem call_list_rev {it l : Addr} {items : Array Value} {Q : Value → Shared → Prop} (hh : A.handled = none) (hit : s.heap.IsRevIter it l ((items.size : Int) - 1)) (hl : s.heap.IsList l items) (hne : l ≠ it) (hn : items.size ≤ sizeLine)
    (hQ : ∀ h' tk acc' c', (∀ b o, b ≠ it → s.heap.get? b = some o → h'.get? b = some o) → h'.get? s.heap.objs.size = some { cls := .type "list", dict := none, data := .seq acc' c', slots := #[] } → ItemsOf (fun i v => items[items.size - 1 - i]? = some v) acc' items.size → Q (.ref s.heap.objs.size) { s with heap := h', toks := tk }) :
    wpAny (model prog w) A (call (.type "list") [.ref it]) Q E s := by
  refine callType_codes (Q₁ := fun obj s₁ => obj = .ref s.heap.objs.size ∧ s₁ = { s with heap := s.heap.push { cls := .type "list", data := .seq #[] } }) PySem.F.called_list (PySem.F.typeCall_list_1 _) PySem.F.entry_list_init
    (code_list_new _ ⟨rfl, rfl⟩) fun obj s₁ h₁ => ?_
  obtain ⟨rfl, rfl⟩ := h₁
  have hS : (s.heap.push { cls := .type "list", data := .seq #[] }).get? s.heap.objs.size = some { cls := .type "list", data := .seq #[] } := Heap.get?_push_size _ rfl
  obtain ⟨oi, hoi, _⟩ := id hit
  obtain ⟨ol, hol, _⟩ := id hl
  refine ⟨⟨_, hS, rfl⟩, PySem.F.args_list_init_2 _ _, init_rev (A := A.in1) hh (hit.at fun o e => Heap.get?_push_of_some _ e) (hl.push _) hne hn (Nat.ne_of_gt (Heap.lt_size hoi)) (Nat.ne_of_gt (Heap.lt_size hol)) hS (fun h' tk acc' c' hk hS' hacc => ?_)⟩
  exact ⟨rfl, hQ h' tk acc' c' (fun b o hi e => hk b o (Nat.ne_of_lt (Heap.lt_size e)) hi (Heap.get?_push_of_some _ e)) hS' hacc⟩
end
def tLstRev (K : PySem.W.Frag) (te : TE) : TE := fun σ H Q => te σ H fun v H1 => ∃ (a : Addr) (xs : List V), v = .ref a ∧ SqL K H1 a xs ∧ ∀ q, H1 q = none → Q (.ref q) (upd H1 q (.lst xs.reverse))
theorem pe_lstRev {X : Cx} {e : Expr} {te : TE} {p p2 pos pos2 : Pos} (hc : X.calm = true) (hg : Gl X "list") (hm : X.mg "list" = none) (hg2 : Gl X "reversed") (hm2 : X.mg "reversed" = none) (he : PE X e te)
    (hs : starEach [e] X.env = (false, eval e X.env) :: starEach [] X.env := by rfl)
    (hs2 : starEach [.Call (.Name "reversed" p2) [e] [] pos2] X.env = (false, eval (.Call (.Name "reversed" p2) [e] [] pos2) X.env) :: starEach [] X.env := by rfl) :
    PE X (.Call (.Name "list" p) [.Call (.Name "reversed" p2) [e] [] pos2] [] pos) (tLstRev X.K te) := by
  refine ⟨fun pins s σ H Q I h => ?_⟩
  refine Call_ (ld_blt I hg hm boot_list (PyProof.Rows.callWith_type1 (args_cons (Call_ (ld_blt I hg2 hm2 PyProof.Rows.boot_reversed (PyProof.Rows.callWith_type1 (args_cons (thn (he.run pins s σ H _ I h) fun u s1 ⟨v, H1, I1, r1, q1⟩ => args_nil ?_) hs) hs rfl))) hs2) hs2 rfl))
  obtain ⟨a, xs, ev, hq, q⟩ := q1
  subst ev
  obtain rfl : u = Value.ref a := r1
  obtain ⟨its, rv, p', hz⟩ := I1.list hq
  refine call_reversed_list p'.isList (args_nil ?_)
  have k0 : ∀ b o, s1.heap.get? b = some o → (s1.heap.push (revObj a ((its.toArray.size : Int) - 1))).get? b = some o := fun b o e => Heap.get?_push_of_some _ e
  have I2 : Inv X pins σ H1 { s1 with heap := s1.heap.push (revObj a ((its.toArray.size : Int) - 1)) } := I1.kept (t' := s1.toks) k0
  obtain ⟨f0, f1, f2, f3, f4, f5⟩ := I1.fpOk (H' := H1) (b := s1.heap.objs.size) (Nat.le_refl _) (I1.hok.fresh (Nat.le_refl _))
  have hl := p'.isList
  obtain ⟨ol, hol, _⟩ := id hl
  have hne : a ≠ s1.heap.objs.size := Nat.ne_of_lt (Heap.lt_size hol)
  have hn : its.toArray.size ≤ sizeLine := by rw [List.size_toArray, ← rv.length]; exact hz
  refine call_list_rev (s := { s1 with heap := s1.heap.push (revObj a ((its.toArray.size : Int) - 1)) }) (I1.ok.hd hc) ⟨_, Heap.get?_push_size _ rfl, rfl, rfl⟩ (hl.push _) hne hn fun h' tk acc c' hk hS hi => ?_
  generalize hS0 : (s1.heap.push (revObj a ((its.toArray.size : Int) - 1))).objs.size = S at hS
  have hit : S ≠ s1.heap.objs.size := by
    rw [← hS0]
    exact Nat.ne_of_gt (Heap.lt_size (Heap.get?_push_size _ rfl : (s1.heap.push (revObj a ((its.toArray.size : Int) - 1))).get? s1.heap.objs.size = some _))
  have hn1 : H1 S = none := by rw [← hS0]; exact I2.hok.fresh (Nat.le_refl _)
  have I4 : Inv X pins σ (upd H1 S (.lst xs.reverse)) { s1 with heap := (s1.heap.push (revObj a ((its.toArray.size : Int) - 1))).push { cls := .type "list", dict := none, data := .seq acc c', slots := #[] } } := by
    rw [← hS0]
    exact I2.laid (t' := s1.toks) (fun b o e => Heap.get?_push_of_some _ e) (Nat.le_refl _) (show ObjOk X.prog X.w _ _ _ (.lst xs.reverse) from ⟨by rw [List.length_reverse]; exact hz, acc.toList, c', vals_rev rv hi, by rw [Array.toArray_toList]; exact Heap.get?_push_size _ rfl⟩)
  obtain ⟨g0, g1, g2, g3, g4, g5⟩ := I1.fpOk (H' := upd H1 S (.lst xs.reverse)) (b := s1.heap.objs.size) (Nat.le_refl _) (by rw [upd_ne hit.symm]; exact I1.hok.fresh (Nat.le_refl _))
  have I3 : Inv X pins σ (upd H1 S (.lst xs.reverse)) { s1 with heap := h', toks := tk } := I4.turned (t' := tk) (fun b o hb e => by
    by_cases z : b = S
    · subst z
      rw [← hS0] at e
      rw [Heap.get?_push_size _ rfl] at e
      rw [hS]; exact e
    · refine hk b o hb ?_
      rw [← Heap.get?_push_ne _ b _ (by rw [hS0]; exact z)]
      exact e) g0 g1 g3 g4 g5
  exact ⟨.ref S, _, I3, rfl, q S hn1⟩
end Sb

set_option Elab.async false
set_option maxRecDepth 100000
set_option maxHeartbeats 4000000
set_option linter.all false
/-! A store of several keys. -/
namespace Sb
open PySem L2 PyProof.Rows
/-- a store of n keepers at v, its keys among Ks: f tells the shelves -/
def KeyAt (M : Addr → Prop) (H : Hp) (C : Addr) (v : V) (ds : List Addr) (n : Nat) (Ks : List Str) (f : Nat → Str → Shelf) : Prop :=
  ∃ st, StoreAt M H C v ds n st ∧ ∀ (k : Nat) (kv : KV1), st[k]? = some kv → (kv.map (·.1)).Nodup ∧ (∀ s ∈ kv.map (·.1), s ∈ Ks) ∧ ∀ s, shelfOf n kv s = f k s
def setK (f : Nat → Str → Shelf) (k : Nat) (s : Str) (sh : Shelf) : Nat → Str → Shelf := fun i t => if i = k ∧ t = s then sh else f i t
theorem setK_eq {f : Nat → Str → Shelf} {k : Nat} {s : Str} {sh : Shelf} : setK f k s sh k s = sh := if_pos ⟨rfl, rfl⟩
theorem setK_ne {f : Nat → Str → Shelf} {k i : Nat} {s t : Str} {sh : Shelf} (h : ¬ (i = k ∧ t = s)) : setK f k s sh i t = f i t := if_neg h
section
variable {M M' : Addr → Prop} {H H' H'' : Hp} {C : Addr} {v x : V} {ds : List Addr} {n : Nat} {Ks Ls : List Str} {f : Nat → Str → Shelf} {K : Frag} {d : PyData}
theorem KeyAt.same (S : KeyAt M H C v ds n Ks f) (s : Same H H') : KeyAt M H' C v ds n Ks f := let ⟨st, a, b⟩ := S; ⟨st, a.same s, b⟩
theorem KeyAt.fresh {q : Addr} (S : KeyAt M H C v ds n Ks f) (s : Same H H') (hq : H q = none) : KeyAt (fun a => M a ∨ a = q) H' C v ds n Ks f := let ⟨st, a, b⟩ := S; ⟨st, a.fresh s hq, b⟩
theorem KeyAt.less (S : KeyAt M H C v ds n Ks f) (k : ∀ a, M' a → M a) : KeyAt M' H C v ds n Ks f := let ⟨st, a, b⟩ := S; ⟨st, a.less k, b⟩
theorem KeyAt.write {L : Addr} {xs ys : List V} (S : KeyAt M H C v ds n Ks f) (m : M L) (h : H L = some (.lst xs)) : KeyAt M (upd H L (.lst ys)) C v ds n Ks f := let ⟨st, a, b⟩ := S; ⟨st, a.write m h, b⟩
/-- another dict changes -/
theorem KeyAt.but {q : Addr} {kvs : List (Key × V)} (S : KeyAt M H C v ds n Ks f) (b : But q H H') (hd : H q = some (.dK kvs)) (hq : q ∉ ds) : KeyAt M H' C v ds n Ks f :=
  let ⟨st, a, c⟩ := S
  ⟨st, a.but b (fun xs => ⟨fun z => (by rw [hd] at z; cases z), fun _ z => (by rw [hd] at z; cases z)⟩) (fun D dx fs z => by rw [hd] at z; cases z) hq, c⟩
theorem KeyAt.mono (S : KeyAt M H C v ds n Ks f) (h : ∀ s ∈ Ks, s ∈ Ls) : KeyAt M H C v ds n Ls f := let ⟨st, a, b⟩ := S; ⟨st, a, fun k kv e => ⟨(b k kv e).1, fun s hs => h s ((b k kv e).2.1 s hs), (b k kv e).2.2⟩⟩
theorem KeyAt.dicts (S : KeyAt M H C v ds n Ks f) {d : Addr} (h : d ∈ ds) : ∃ kvs, H d = some (.dK kvs) := let ⟨_, a, _⟩ := S; a.occ h
theorem KeyAt.start (S : StoreAt M H C v ds n (List.replicate n [])) : KeyAt M H C v ds n [] fun _ _ => (List.replicate n 0, []) :=
  ⟨_, S, fun k kv h => by
    rw [List.getElem?_replicate] at h
    split at h
    · cases h; exact ⟨List.nodup_nil, fun _ z => (nomatch z), fun _ => rfl⟩
    · cases h⟩
theorem KeyAt.at {k : Nat} (S : KeyAt M H C v ds n Ks f) (hk : k < n) : ∃ st kv dk, StoreAt M H C v ds n st ∧ st[k]? = some kv ∧ ds[k]? = some dk ∧ (kv.map (·.1)).Nodup ∧ (∀ s ∈ kv.map (·.1), s ∈ Ks) ∧ (∀ s, shelfOf n kv s = f k s) ∧
    ∀ (k : Nat) (kv : KV1), st[k]? = some kv → (kv.map (·.1)).Nodup ∧ (∀ s ∈ kv.map (·.1), s ∈ Ks) ∧ ∀ s, shelfOf n kv s = f k s := by
  obtain ⟨st, a, b⟩ := S
  have h1 : st[k]? = some (st[k]'(by rw [a.sl]; exact hk)) := List.getElem?_eq_getElem _
  exact ⟨st, _, _, a, h1, List.getElem?_eq_getElem (by rw [a.dl]; exact hk), (b k _ h1).1, (b k _ h1).2.1, (b k _ h1).2.2, b⟩
theorem keys_few {kv : KV1} (nd : (kv.map (·.1)).Nodup) (sub : ∀ s ∈ kv.map (·.1), s ∈ Ks) : kv.length ≤ Ks.length := by
  have := List.Nodup.length_le_of_subset nd sub
  rwa [List.length_map] at this
theorem KeyAt.put {st : Kept} {k : Nat} {kv : KV1} {key : Str} {sh : Shelf} (b : ∀ (k : Nat) (kv : KV1), st[k]? = some kv → (kv.map (·.1)).Nodup ∧ (∀ s ∈ kv.map (·.1), s ∈ Ks) ∧ ∀ s, shelfOf n kv s = f k s) (h : st[k]? = some kv) (hk : key ∈ Ks)
    (S : StoreAt M H C v ds n (st.set k (aPut kv key sh))) : KeyAt M H C v ds n Ks (setK f k key sh) := by
  refine ⟨_, S, fun i kv' h' => ?_⟩
  by_cases e : i = k
  · subst e
    rw [List.getElem?_set_self (List.getElem?_eq_some_iff.mp h).1] at h'
    cases h'
    obtain ⟨b1, b2, b3⟩ := b i kv h
    refine ⟨aPut_nod b1, fun s hs => ?_, fun s => ?_⟩
    · rcases aPut_keys kv key sh with z | ⟨_, z⟩
      · rw [z] at hs; exact b2 s hs
      · rw [z] at hs
        rcases List.mem_append.mp hs with hs | hs
        · exact b2 s hs
        · rw [List.mem_singleton] at hs; subst hs; exact hk
    · rw [shelfOf_put]
      by_cases z : s = key
      · subst z; rw [if_pos rfl, setK_eq]
      · rw [if_neg z, setK_ne (fun y => z y.2)]; exact b3 s
  · rw [List.getElem?_set_ne (fun z => e z.symm)] at h'
    obtain ⟨b1, b2, b3⟩ := b i kv' h'
    exact ⟨b1, b2, fun s => by rw [setK_ne (fun y => e y.1)]; exact b3 s⟩
end
/-- a text that is no key has nothing -/
theorem shelf_no {n : Nat} {kv : KV1} {s : Str} (h : s ∉ kv.map (·.1)) : shelfOf n kv s = (List.replicate n 0, []) := by
  unfold shelfOf
  have e := aGet_any s kv
  cases z : aGet kv s with
  | none => rfl
  | some x =>
    rw [z] at e
    obtain ⟨p, hp, e2⟩ := List.any_eq_true.mp e
    exact absurd (List.mem_map.mpr ⟨p, hp, of_decide_eq_true e2⟩) h
theorem sortX_ext {xs ys : List Str} (h1 : xs.Nodup) (h2 : ys.Nodup) (h : ∀ s, s ∈ xs ↔ s ∈ ys) : sortX xs = sortX ys :=
  sortX_uniq ((sortX_perm xs).trans ((List.perm_ext_iff_of_nodup h1 h2).mpr h)) (sortX_srt xs)
end Sb

set_option Elab.async false
set_option maxRecDepth 100000
set_option maxHeartbeats 4000000
set_option linter.all false
/-! Changes, the sets of changes known, and the shelf that is due to a set. -/
namespace Sb
open PySem L2 PyProof.Rows
structure Chg where
  key : Str
  k : Int
  num : Int
  val : Int
  seen : List Nat
abbrev noChg : Chg := ⟨"", -1, 0, 0, []⟩
def chgAt (chs : List Chg) (i : Nat) : Chg := chs.getD i noChg
def rowOf (c : Chg) : Row := (c.k, c.num, c.val)
def cnt (chs : List Chg) (S : List Nat) (k : Int) : Nat := (S.filter fun i => decide ((chgAt chs i).k = k)).length
def goneB (chs : List Chg) (S : List Nat) (i : Nat) : Bool := S.any fun j => decide (i ∈ (chgAt chs j).seen)
def liveL (chs : List Chg) (S : List Nat) : List Nat := S.filter fun i => !goneB chs S i && decide (0 ≤ (chgAt chs i).k)
def dueS (n : Nat) (chs : List Chg) (S : List Nat) : Shelf := ((List.range n).map fun k : Nat => ((cnt chs S (k : Int) : Nat) : Int), sortR ((liveL chs S).map fun i => rowOf (chgAt chs i)))
def addL (acc : List Nat) (x : Nat) : List Nat := if x ∈ acc then acc else acc ++ [x]
def unionL (S T : List Nat) : List Nat := T.foldl addL S
theorem mem_addL {acc : List Nat} {x y : Nat} : y ∈ addL acc x ↔ y ∈ acc ∨ y = x := by
  unfold addL
  split
  · rename_i h
    exact ⟨.inl, fun z => z.elim id fun e => by rw [e]; exact h⟩
  · rw [List.mem_append, List.mem_singleton]
theorem mem_unionL : ∀ {T S : List Nat} {y : Nat}, y ∈ unionL S T ↔ y ∈ S ∨ y ∈ T
  | [], S, y => ⟨.inl, fun z => z.elim id fun z => nomatch z⟩
  | t :: T, S, y => by
    show y ∈ unionL (addL S t) T ↔ _
    rw [mem_unionL, mem_addL, List.mem_cons, or_assoc]
theorem addL_nod {acc : List Nat} {x : Nat} (h : acc.Nodup) : (addL acc x).Nodup := by
  unfold addL
  split
  · exact h
  · rename_i z; exact nd_snoc h z
theorem unionL_nod : ∀ {T S : List Nat}, S.Nodup → (unionL S T).Nodup
  | [], _, h => h
  | t :: T, S, h => unionL_nod (T := T) (addL_nod h)
theorem addL_new {acc : List Nat} {x : Nat} (h : x ∉ acc) : addL acc x = acc ++ [x] := if_neg h
theorem chg_old {chs : List Chg} {c : Chg} {i : Nat} (h : i < chs.length) : chgAt (chs ++ [c]) i = chgAt chs i := by
  unfold chgAt
  rw [List.getD_eq_getElem?_getD, List.getD_eq_getElem?_getD, List.getElem?_append_left h]
theorem chg_new {chs : List Chg} {c : Chg} : chgAt (chs ++ [c]) chs.length = c := by
  unfold chgAt
  rw [List.getD_eq_getElem?_getD, List.getElem?_append_right (Nat.le_refl _), Nat.sub_self]; rfl
def sameP (chs : List Chg) (i j : Nat) : Bool := decide ((chgAt chs j).key = (chgAt chs i).key) && decide ((chgAt chs j).k = (chgAt chs i).k)
/-- the world: keepers that are there, numbers by place, nothing seen that comes later; a keeper knows its own puts -/
structure Wd (n : Nat) (chs : List Chg) (kn : Nat → Str → List Nat) : Prop where
  rng : ∀ i, i < chs.length → (chgAt chs i).k = -1 ∨ (0 ≤ (chgAt chs i).k ∧ (chgAt chs i).k < n)
  num : ∀ i, i < chs.length → 0 ≤ (chgAt chs i).k → (chgAt chs i).num = 1 + (((List.range i).filter fun j => sameP chs i j).length : Nat)
  early : ∀ i, i < chs.length → ∀ j ∈ (chgAt chs i).seen, j < i
  own : ∀ i, i < chs.length → ∀ k : Nat, (chgAt chs i).k = (k : Int) → i ∈ kn k (chgAt chs i).key
structure Gd (chs : List Chg) (key : Str) (S : List Nat) : Prop where
  nod : S.Nodup
  inn : ∀ i ∈ S, i < chs.length ∧ (chgAt chs i).key = key
  cls : ∀ i ∈ S, ∀ j ∈ (chgAt chs i).seen, j ∈ S
  dwn : ∀ i ∈ S, 0 ≤ (chgAt chs i).k → ∀ j, j < i → sameP chs i j = true → j ∈ S
section
variable {n : Nat} {chs : List Chg} {kn : Nat → Str → List Nat} {key : Str} {S T L : List Nat} {i j : Nat} {c : Chg}
theorem Gd.nil : Gd chs key [] := ⟨List.nodup_nil, (fun _ z => nomatch z), (fun _ z => nomatch z), (fun _ z => nomatch z)⟩
theorem Gd.union (h : Gd chs key S) (g : Gd chs key T) : Gd chs key (unionL S T) := by
  refine ⟨unionL_nod h.nod, fun i hi => ?_, fun i hi j hj => ?_, fun i hi h0 j hj sp => ?_⟩
  · exact (mem_unionL.mp hi).elim (h.inn i) (g.inn i)
  · exact mem_unionL.mpr ((mem_unionL.mp hi).elim (fun z => .inl (h.cls i z j hj)) fun z => .inr (g.cls i z j hj))
  · exact mem_unionL.mpr ((mem_unionL.mp hi).elim (fun z => .inl (h.dwn i z h0 j hj sp)) fun z => .inr (g.dwn i z h0 j hj sp))
theorem sameP_iff : sameP chs i j = true ↔ (chgAt chs j).key = (chgAt chs i).key ∧ (chgAt chs j).k = (chgAt chs i).k := by
  unfold sameP
  rw [Bool.and_eq_true, decide_eq_true_eq, decide_eq_true_eq]
theorem filt_nod {l : List Nat} {p : Nat → Bool} (h : l.Nodup) : (l.filter p).Nodup := h.filter _
theorem num_le (w : Wd n chs kn) (g : Gd chs key S) (hi : i ∈ S) (h0 : 0 ≤ (chgAt chs i).k) : (chgAt chs i).num ≤ (cnt chs S (chgAt chs i).k : Nat) := by
  rw [w.num i (g.inn i hi).1 h0]
  have nd : ((List.range i).filter (fun j => sameP chs i j) ++ [i]).Nodup := nd_snoc (filt_nod List.nodup_range) fun z => by
    have := List.mem_range.mp (List.mem_filter.mp z).1
    omega
  have := List.Nodup.length_le_of_subset (l₂ := S.filter fun j => decide ((chgAt chs j).k = (chgAt chs i).k)) nd fun j hj => by
    rcases List.mem_append.mp hj with hj | hj
    · obtain ⟨h1, h2⟩ := List.mem_filter.mp hj
      exact List.mem_filter.mpr ⟨g.dwn i hi h0 j (List.mem_range.mp h1) h2, decide_eq_true (sameP_iff.mp h2).2⟩
    · rw [List.mem_singleton.mp hj]
      exact List.mem_filter.mpr ⟨hi, decide_eq_true rfl⟩
  rw [List.length_append, List.length_singleton] at this
  unfold cnt
  omega
theorem num_gt (w : Wd n chs kn) (g : Gd chs key S) (hl : i < chs.length) (hk : (chgAt chs i).key = key) (h0 : 0 ≤ (chgAt chs i).k) (hi : i ∉ S) : ((cnt chs S (chgAt chs i).k : Nat) : Int) < (chgAt chs i).num := by
  rw [w.num i hl h0]
  have := List.Nodup.length_le_of_subset (l₁ := S.filter fun j => decide ((chgAt chs j).k = (chgAt chs i).k)) (l₂ := (List.range i).filter fun j => sameP chs i j) (filt_nod g.nod) fun j hj => by
    obtain ⟨h1, h2⟩ := List.mem_filter.mp hj
    have h2 := of_decide_eq_true h2
    obtain ⟨h3, h4⟩ := g.inn j h1
    refine List.mem_filter.mpr ⟨List.mem_range.mpr ?_, sameP_iff.mpr ⟨by rw [h4, hk], h2⟩⟩
    rcases Nat.lt_trichotomy j i with z | z | z
    · exact z
    · subst z; exact absurd h1 hi
    · exact absurd (g.dwn j h1 (by rw [h2]; exact h0) i z (sameP_iff.mpr ⟨by rw [hk, h4], h2.symm⟩)) hi
  unfold cnt
  omega
theorem mark_getD {k : Nat} (hk : k < n) : (dueS n chs S).1.getD k 0 = (cnt chs S (k : Int) : Nat) := by
  unfold dueS
  rw [List.getD_eq_getElem?_getD, List.getElem?_map, List.getElem?_range hk]; rfl
theorem mark_len : (dueS n chs S).1.length = n := by
  unfold dueS
  rw [List.length_map, List.length_range]
theorem seen_due (w : Wd n chs kn) (g : Gd chs key S) (hl : i < chs.length) (hk : (chgAt chs i).key = key) (h0 : 0 ≤ (chgAt chs i).k) : seen (dueS n chs S).1 (rowOf (chgAt chs i)) = decide (i ∈ S) := by
  have hn : (chgAt chs i).k < n := (w.rng i hl).elim (fun z => by omega) fun z => z.2
  unfold seen rowOf
  dsimp only
  rw [mark_getD (by omega), Int.toNat_of_nonneg h0]
  by_cases hi : i ∈ S
  · rw [decide_eq_true hi, decide_eq_true (num_le w g hi h0)]
  · rw [decide_eq_false hi]
    have := num_gt w g hl hk h0 hi
    exact decide_eq_false (by omega)
theorem mem_live : i ∈ liveL chs S ↔ i ∈ S ∧ goneB chs S i = false ∧ 0 ≤ (chgAt chs i).k := by
  unfold liveL
  rw [List.mem_filter, Bool.and_eq_true, decide_eq_true_eq]
  simp
theorem gone_iff : goneB chs S i = true ↔ ∃ j ∈ S, i ∈ (chgAt chs j).seen := by
  unfold goneB
  rw [List.any_eq_true]
  constructor
  · rintro ⟨j, h1, h2⟩
    exact ⟨j, h1, of_decide_eq_true h2⟩
  · rintro ⟨j, h1, h2⟩
    exact ⟨j, h1, decide_eq_true h2⟩
theorem gone_no : goneB chs S i = false ↔ ∀ j ∈ S, i ∉ (chgAt chs j).seen := by
  constructor
  · intro h j hj hi
    rw [gone_iff.mpr ⟨j, hj, hi⟩] at h
    cases h
  · intro h
    cases z : goneB chs S i with
    | false => rfl
    | true =>
      obtain ⟨j, hj, hi⟩ := gone_iff.mp z
      exact absurd hi (h j hj)
theorem mem_due {r : Row} : r ∈ (dueS n chs S).2 ↔ ∃ i ∈ S, goneB chs S i = false ∧ 0 ≤ (chgAt chs i).k ∧ rowOf (chgAt chs i) = r := by
  unfold dueS
  rw [mem_sortR, List.mem_map]
  constructor
  · rintro ⟨i, hi, e⟩
    obtain ⟨h1, h2, h3⟩ := mem_live.mp hi
    exact ⟨i, h1, h2, h3, e⟩
  · rintro ⟨i, h1, h2, h3, e⟩
    exact ⟨i, mem_live.mpr ⟨h1, h2, h3⟩, e⟩
theorem num_mono (w : Wd n chs kn) (hj : j < chs.length) (hij : i < j) (sp : sameP chs j i = true) (h0 : 0 ≤ (chgAt chs j).k) : (chgAt chs i).num < (chgAt chs j).num := by
  obtain ⟨e1, e2⟩ := sameP_iff.mp sp
  rw [w.num j hj h0, w.num i (by omega) (by rw [e2]; exact h0)]
  have nd : ((List.range i).filter (fun x => sameP chs i x) ++ [i]).Nodup := nd_snoc (filt_nod List.nodup_range) fun z => by
    have := List.mem_range.mp (List.mem_filter.mp z).1
    omega
  have := List.Nodup.length_le_of_subset (l₂ := (List.range j).filter fun x => sameP chs j x) nd fun x hx => by
    rcases List.mem_append.mp hx with hx | hx
    · obtain ⟨h1, h2⟩ := List.mem_filter.mp hx
      obtain ⟨h3, h4⟩ := sameP_iff.mp h2
      exact List.mem_filter.mpr ⟨List.mem_range.mpr (by have := List.mem_range.mp h1; omega), sameP_iff.mpr ⟨by rw [h3, e1], by rw [h4, e2]⟩⟩
    · rw [List.mem_singleton.mp hx]
      exact List.mem_filter.mpr ⟨List.mem_range.mpr hij, sp⟩
  rw [List.length_append, List.length_singleton] at this
  omega
theorem row_inj (w : Wd n chs kn) (hi : i < chs.length) (hj : j < chs.length) (hk : (chgAt chs i).key = (chgAt chs j).key) (h0 : 0 ≤ (chgAt chs i).k) (e : rowOf (chgAt chs i) = rowOf (chgAt chs j)) : i = j := by
  have e1 : (chgAt chs i).k = (chgAt chs j).k := congrArg (fun r : Row => r.1) e
  have e2 : (chgAt chs i).num = (chgAt chs j).num := congrArg (fun r : Row => r.2.1) e
  rcases Nat.lt_trichotomy i j with z | z | z
  · have := num_mono w hj z (sameP_iff.mpr ⟨hk, e1⟩) (by rw [← e1]; exact h0)
    omega
  · exact z
  · have := num_mono w hi z (sameP_iff.mpr ⟨hk.symm, e1.symm⟩) h0
    omega
theorem map_nod_on {α β : Type} {f : α → β} : ∀ {l : List α}, l.Nodup → (∀ a ∈ l, ∀ b ∈ l, f a = f b → a = b) → (l.map f).Nodup
  | [], _, _ => List.nodup_nil
  | a :: l, h, inj => by
    obtain ⟨h1, h2⟩ := List.nodup_cons.mp h
    rw [List.map_cons]
    refine List.nodup_cons.mpr ⟨fun z => ?_, map_nod_on h2 fun x hx y hy e => inj x (List.mem_cons_of_mem _ hx) y (List.mem_cons_of_mem _ hy) e⟩
    obtain ⟨b, hb, e⟩ := List.mem_map.mp z
    have := inj b (List.mem_cons_of_mem _ hb) a List.mem_cons_self e
    rw [this] at hb
    exact h1 hb
theorem rows_nod (w : Wd n chs kn) (g : Gd chs key S) : ((liveL chs S).map fun i => rowOf (chgAt chs i)).Nodup := by
  refine map_nod_on (filt_nod g.nod) fun a ha b hb e => ?_
  obtain ⟨a1, _, a3⟩ := mem_live.mp ha
  obtain ⟨b1, _, _⟩ := mem_live.mp hb
  obtain ⟨x1, x2⟩ := g.inn a a1
  obtain ⟨y1, y2⟩ := g.inn b b1
  exact row_inj w x1 y1 (by rw [x2, y2]) a3 e
theorem due_wf (w : Wd n chs kn) (g : Gd chs key S) : WF n (dueS n chs S) := by
  refine ⟨mark_len, fun r hr => ?_, fun r hr => ?_, sortR_srt _, sortR_nod (rows_nod w g)⟩
  · obtain ⟨i, hi, _, h0, rfl⟩ := mem_due.mp hr
    obtain ⟨h1, _⟩ := g.inn i hi
    exact ⟨h0, (w.rng i h1).elim (fun z => absurd h0 (by rw [z]; decide)) fun z => z.2⟩
  · obtain ⟨i, hi, _, h0, rfl⟩ := mem_due.mp hr
    obtain ⟨h1, h2⟩ := g.inn i hi
    rw [seen_due w g h1 h2 h0, decide_eq_true hi]
theorem due_few (w : Wd n chs kn) (g : Gd chs key S) : (dueS n chs S).2.length ≤ chs.length := by
  unfold dueS
  rw [sortR_len, List.length_map]
  unfold liveL
  have h1 := List.length_filter_le (fun i => !goneB chs S i && decide (0 ≤ (chgAt chs i).k)) S
  have h2 := List.Nodup.length_le_of_subset (l₂ := List.range chs.length) g.nod fun i hi => List.mem_range.mpr (g.inn i hi).1
  rw [List.length_range] at h2
  omega
theorem due_ok (w : Wd n chs kn) (g : Gd chs key S) (hc : chs.length ≤ 3000) : ShOk n (dueS n chs S) := ⟨mark_len, (due_wf w g).rin, by have := due_few w g; omega⟩
theorem mark_pos : ∀ j ∈ (dueS n chs S).1, 0 ≤ j := fun j hj => by
  unfold dueS at hj
  obtain ⟨k, _, rfl⟩ := List.mem_map.mp hj
  exact Int.natCast_nonneg _
theorem due_mk : isMk n (markD (dueS n chs S).1) = true := isMk_mark mark_len mark_pos
/-- counts of two sets together -/
theorem cnt_mono (h : S.Nodup) (sub : ∀ i ∈ S, i ∈ T) (k : Int) : cnt chs S k ≤ cnt chs T k := by
  unfold cnt
  refine List.Nodup.length_le_of_subset (filt_nod h) fun i hi => ?_
  obtain ⟨h1, h2⟩ := List.mem_filter.mp hi
  exact List.mem_filter.mpr ⟨sub i h1, h2⟩
theorem cnt_union (g : Gd chs key S) (g' : Gd chs key T) {k : Int} (h0 : 0 ≤ k) : cnt chs (unionL S T) k = max (cnt chs S k) (cnt chs T k) := by
  have m1 := cnt_mono (chs := chs) g.nod (fun i hi => mem_unionL.mpr (.inl hi) : ∀ i ∈ S, i ∈ unionL S T) k
  have m2 := cnt_mono (chs := chs) g'.nod (fun i hi => mem_unionL.mpr (.inr hi) : ∀ i ∈ T, i ∈ unionL S T) k
  by_cases h : ∀ i ∈ S, (chgAt chs i).k = k → i ∈ T
  · have : cnt chs (unionL S T) k ≤ cnt chs T k := by
      unfold cnt
      refine List.Nodup.length_le_of_subset (filt_nod (unionL_nod g.nod)) fun i hi => ?_
      obtain ⟨h1, h2⟩ := List.mem_filter.mp hi
      refine List.mem_filter.mpr ⟨?_, h2⟩
      exact (mem_unionL.mp h1).elim (fun z => h i z (of_decide_eq_true h2)) id
    omega
  · have hi : ∃ i ∈ S, (chgAt chs i).k = k ∧ i ∉ T := by
      refine Classical.byContradiction fun z => h fun i hi hk => ?_
      exact Classical.byContradiction fun y => z ⟨i, hi, hk, y⟩
    obtain ⟨i, hi, hk, hn⟩ := hi
    have : cnt chs (unionL S T) k ≤ cnt chs S k := by
      unfold cnt
      refine List.Nodup.length_le_of_subset (filt_nod (unionL_nod g.nod)) fun j hj => ?_
      obtain ⟨h1, h2⟩ := List.mem_filter.mp hj
      refine List.mem_filter.mpr ⟨?_, h2⟩
      have h2 := of_decide_eq_true h2
      rcases mem_unionL.mp h1 with z | z
      · exact z
      · have sp : (chgAt chs i).key = (chgAt chs j).key := by rw [(g.inn i hi).2, (g'.inn j z).2]
        rcases Nat.lt_trichotomy i j with y | y | y
        · exact absurd (g'.dwn j z (by rw [h2]; exact h0) i y (sameP_iff.mpr ⟨sp, by rw [hk, h2]⟩)) hn
        · subst y; exact absurd z hn
        · exact g.dwn i hi (by rw [hk]; exact h0) j y (sameP_iff.mpr ⟨sp.symm, by rw [hk, h2]⟩)
    omega
theorem mark_union (g : Gd chs key S) (g' : Gd chs key T) : joinM (dueS n chs S).1 (dueS n chs T).1 = (dueS n chs (unionL S T)).1 := by
  have e : (dueS n chs S).1.length = (dueS n chs T).1.length := by rw [mark_len, mark_len]
  refine ext_getD (by rw [joinM_len e, mark_len, mark_len]) fun i hi => ?_
  rw [joinM_len e, mark_len] at hi
  rw [joinM_getD e (by rw [mark_len]; exact hi), mark_getD hi, mark_getD hi, mark_getD hi, cnt_union g g' (Int.natCast_nonneg _)]
  omega
theorem due_met (w : Wd n chs kn) (g : Gd chs key S) (g' : Gd chs key T) : metS (dueS n chs S) (dueS n chs T) = dueS n chs (unionL S T) := by
  refine Prod.ext (mark_union g g') ?_
  refine sort_ext (metRows_nod (due_wf w g) (due_wf w g')) (rows_nod w (g.union g')) fun r => ?_
  rw [mem_metRows]
  have r0 : r ∈ (liveL chs (unionL S T)).map (fun i => rowOf (chgAt chs i)) ↔ r ∈ (dueS n chs (unionL S T)).2 := mem_sortR.symm
  rw [r0]
  have gU : ∀ i, goneB chs (unionL S T) i = false ↔ goneB chs S i = false ∧ goneB chs T i = false := fun i => by
    rw [gone_no, gone_no, gone_no]
    exact ⟨fun h => ⟨fun j hj => h j (mem_unionL.mpr (.inl hj)), fun j hj => h j (mem_unionL.mpr (.inr hj))⟩, fun h j hj => (mem_unionL.mp hj).elim (h.1 j) (h.2 j)⟩
  constructor
  · rintro (⟨h1, h2⟩ | ⟨h1, h2⟩ | ⟨h1, h2⟩)
    · obtain ⟨i, i1, i2, i3, rfl⟩ := mem_due.mp h1
      obtain ⟨j, j1, j2, j3, e⟩ := mem_due.mp h2
      have ij : j = i := row_inj w (g'.inn j j1).1 (g.inn i i1).1 (by rw [(g'.inn j j1).2, (g.inn i i1).2]) j3 e
      subst ij
      exact mem_due.mpr ⟨j, mem_unionL.mpr (.inl i1), (gU j).mpr ⟨i2, j2⟩, i3, rfl⟩
    · obtain ⟨i, i1, i2, i3, rfl⟩ := mem_due.mp h1
      rw [seen_due w g' (g.inn i i1).1 (g.inn i i1).2 i3] at h2
      have nT := of_decide_eq_false h2
      exact mem_due.mpr ⟨i, mem_unionL.mpr (.inl i1), (gU i).mpr ⟨i2, gone_no.mpr fun j hj hs => nT (g'.cls j hj i hs)⟩, i3, rfl⟩
    · obtain ⟨i, i1, i2, i3, rfl⟩ := mem_due.mp h1
      rw [seen_due w g (g'.inn i i1).1 (g'.inn i i1).2 i3] at h2
      have nS := of_decide_eq_false h2
      exact mem_due.mpr ⟨i, mem_unionL.mpr (.inr i1), (gU i).mpr ⟨gone_no.mpr fun j hj hs => nS (g.cls j hj i hs), i2⟩, i3, rfl⟩
  · intro hr
    obtain ⟨i, i1, i2, i3, rfl⟩ := mem_due.mp hr
    obtain ⟨gS, gT⟩ := (gU i).mp i2
    by_cases hS : i ∈ S
    · by_cases hT : i ∈ T
      · exact .inl ⟨mem_due.mpr ⟨i, hS, gS, i3, rfl⟩, mem_due.mpr ⟨i, hT, gT, i3, rfl⟩⟩
      · refine .inr (.inl ⟨mem_due.mpr ⟨i, hS, gS, i3, rfl⟩, ?_⟩)
        rw [seen_due w g' (g.inn i hS).1 (g.inn i hS).2 i3]
        exact decide_eq_false hT
    · have hT : i ∈ T := (mem_unionL.mp i1).elim (fun z => absurd z hS) id
      refine .inr (.inr ⟨mem_due.mpr ⟨i, hT, gT, i3, rfl⟩, ?_⟩)
      rw [seen_due w g (g'.inn i hT).1 (g'.inn i hT).2 i3]
      exact decide_eq_false hS
end
end Sb

set_option Elab.async false
set_option maxRecDepth 100000
set_option maxHeartbeats 4000000
set_option linter.all false
/-! A change more: put, drop. -/
namespace Sb
open PySem L2 PyProof.Rows
section
variable {n : Nat} {chs : List Chg} {kn kn' : Nat → Str → List Nat} {key : Str} {S T L : List Nat} {i j k : Nat} {c : Chg} {v : Int}
theorem filter_congr' {l : List Nat} {p q : Nat → Bool} (h : ∀ i ∈ l, p i = q i) : l.filter p = l.filter q := List.filter_congr h
theorem cnt_old (h : ∀ i ∈ S, i < chs.length) (k : Int) : cnt (chs ++ [c]) S k = cnt chs S k := by
  unfold cnt
  rw [filter_congr' fun i hi => by rw [chg_old (h i hi)]]
theorem gone_old (h : ∀ i ∈ S, i < chs.length) (i : Nat) : goneB (chs ++ [c]) S i = goneB chs S i := by
  cases z : goneB chs S i with
  | true =>
    obtain ⟨j, hj, hi⟩ := gone_iff.mp z
    exact gone_iff.mpr ⟨j, hj, by rw [chg_old (h j hj)]; exact hi⟩
  | false =>
    exact gone_no.mpr fun j hj => by rw [chg_old (h j hj)]; exact gone_no.mp z j hj
theorem live_old (h : ∀ i ∈ S, i < chs.length) : liveL (chs ++ [c]) S = liveL chs S := by
  unfold liveL
  exact filter_congr' fun i hi => by rw [gone_old h, chg_old (h i hi)]
theorem due_old (h : ∀ i ∈ S, i < chs.length) : dueS n (chs ++ [c]) S = dueS n chs S := by
  unfold dueS
  rw [live_old h]
  refine Prod.ext ?_ ?_
  · exact List.map_congr_left fun k _ => by rw [cnt_old h]
  · show sortR _ = sortR _
    rw [List.map_congr_left fun i hi => by rw [chg_old (h i (mem_live.mp hi).1)]]
theorem Gd.old (g : Gd chs key S) : Gd (chs ++ [c]) key S := by
  have h : ∀ i ∈ S, i < chs.length := fun i hi => (g.inn i hi).1
  refine ⟨g.nod, fun i hi => ?_, fun i hi => ?_, fun i hi h0 j hj sp => ?_⟩
  · rw [chg_old (h i hi), List.length_append]
    exact ⟨by have := h i hi; omega, (g.inn i hi).2⟩
  · rw [chg_old (h i hi)]; exact g.cls i hi
  · rw [chg_old (h i hi)] at h0
    refine g.dwn i hi h0 j hj ?_
    have := h i hi
    obtain ⟨e1, e2⟩ := sameP_iff.mp sp
    rw [chg_old (by omega), chg_old (h i hi)] at e1 e2
    exact sameP_iff.mpr ⟨e1, e2⟩
theorem Gd.lt (g : Gd chs key S) : ∀ i ∈ S, i < chs.length := fun i hi => (g.inn i hi).1
theorem grow_eq (g : Gd chs key S) (gL : Gd chs key L) : addL (unionL S L) chs.length = unionL S L ++ [chs.length] := addL_new fun z => by
  have := (g.union gL).lt _ z
  omega
/-- the set behind a change -/
theorem Gd.grow (g : Gd chs key S) (gL : Gd chs key L) (hk : c.key = key) (hs : c.seen = L) (hp : 0 ≤ c.k → ∀ j, j < chs.length → (chgAt chs j).key = key → (chgAt chs j).k = c.k → j ∈ S) :
    Gd (chs ++ [c]) key (addL (unionL S L) chs.length) := by
  have gU := g.union gL
  have gO := gU.old (c := c)
  refine ⟨addL_nod gU.nod, fun i hi => ?_, fun i hi j hj => ?_, fun i hi h0 j hj sp => ?_⟩
  · rcases mem_addL.mp hi with hi | rfl
    · exact gO.inn i hi
    · rw [chg_new, List.length_append, List.length_singleton]
      exact ⟨by omega, hk⟩
  · rcases mem_addL.mp hi with hi | rfl
    · exact mem_addL.mpr (.inl (gO.cls i hi j hj))
    · rw [chg_new, hs] at hj
      exact mem_addL.mpr (.inl (mem_unionL.mpr (.inr hj)))
  · rcases mem_addL.mp hi with hi | rfl
    · exact mem_addL.mpr (.inl (gO.dwn i hi h0 j hj sp))
    · rw [chg_new] at h0
      obtain ⟨e1, e2⟩ := sameP_iff.mp sp
      rw [chg_old hj, chg_new] at e1 e2
      exact mem_addL.mpr (.inl (mem_unionL.mpr (.inl (hp h0 j hj (by rw [e1, hk]) e2))))
theorem Wd.grow (w : Wd n chs kn) (hr : c.k = -1 ∨ (0 ≤ c.k ∧ c.k < n)) (hn : 0 ≤ c.k → c.num = 1 + (((List.range chs.length).filter fun j => decide ((chgAt chs j).key = c.key) && decide ((chgAt chs j).k = c.k)).length : Nat)) (hs : ∀ j ∈ c.seen, j < chs.length)
    (sub : ∀ k s, ∀ i ∈ kn k s, i ∈ kn' k s) (own : ∀ k : Nat, c.k = (k : Int) → chs.length ∈ kn' k c.key) : Wd n (chs ++ [c]) kn' := by
  have len : (chs ++ [c]).length = chs.length + 1 := by rw [List.length_append]; rfl
  have split : ∀ i, i < (chs ++ [c]).length → i < chs.length ∨ i = chs.length := fun i hi => by rw [len] at hi; omega
  refine ⟨fun i hi => ?_, fun i hi h0 => ?_, fun i hi => ?_, fun i hi k hk => ?_⟩
  · rcases split i hi with z | rfl
    · rw [chg_old z]; exact w.rng i z
    · rw [chg_new]; exact hr
  · rcases split i hi with z | rfl
    · rw [chg_old z] at h0 ⊢
      rw [w.num i z h0]
      have : (List.range i).filter (fun j => sameP (chs ++ [c]) i j) = (List.range i).filter (fun j => sameP chs i j) := filter_congr' fun j hj => by
        have := List.mem_range.mp hj
        unfold sameP
        rw [chg_old z, chg_old (show j < chs.length by omega)]
      rw [this]
    · rw [chg_new] at h0 ⊢
      rw [hn h0]
      have : (List.range chs.length).filter (fun j => sameP (chs ++ [c]) chs.length j) = (List.range chs.length).filter (fun j => decide ((chgAt chs j).key = c.key) && decide ((chgAt chs j).k = c.k)) := filter_congr' fun j hj => by
        unfold sameP
        rw [chg_new, chg_old (List.mem_range.mp hj)]
      rw [this]
  · rcases split i hi with z | rfl
    · rw [chg_old z]; exact w.early i z
    · rw [chg_new]; exact hs
  · rcases split i hi with z | rfl
    · rw [chg_old z] at hk ⊢
      exact sub _ _ _ (w.own i z k hk)
    · rw [chg_new] at hk ⊢
      exact own k hk
/-- what a keeper knows of its own puts -/
theorem own_cnt (w : Wd n chs kn) (g : Gd chs key (kn k key)) : (((List.range chs.length).filter fun j => decide ((chgAt chs j).key = key) && decide ((chgAt chs j).k = (k : Int))).length) = cnt chs (kn k key) (k : Int) := by
  unfold cnt
  refine Nat.le_antisymm ?_ ?_
  · refine List.Nodup.length_le_of_subset (filt_nod List.nodup_range) fun j hj => ?_
    obtain ⟨h1, h2⟩ := List.mem_filter.mp hj
    rw [Bool.and_eq_true, decide_eq_true_eq, decide_eq_true_eq] at h2
    refine List.mem_filter.mpr ⟨?_, decide_eq_true h2.2⟩
    have := w.own j (List.mem_range.mp h1) k h2.2
    rw [h2.1] at this
    exact this
  · refine List.Nodup.length_le_of_subset (filt_nod g.nod) fun j hj => ?_
    obtain ⟨h1, h2⟩ := List.mem_filter.mp hj
    refine List.mem_filter.mpr ⟨List.mem_range.mpr (g.lt j h1), ?_⟩
    rw [Bool.and_eq_true]
    exact ⟨decide_eq_true (g.inn j h1).2, h2⟩
theorem cnt_add (h : ∀ i ∈ T, i < chs.length) (k : Int) : cnt (chs ++ [c]) (T ++ [chs.length]) k = cnt chs T k + if c.k = k then 1 else 0 := by
  have e := cnt_old (c := c) h k
  unfold cnt at e ⊢
  rw [List.filter_append, List.length_append, e]
  congr 1
  rw [List.filter_cons, List.filter_nil, chg_new]
  by_cases z : c.k = k
  · rw [if_pos z, decide_eq_true z]; rfl
  · rw [if_neg z, decide_eq_false z]; rfl
theorem gone_grow (g : Gd chs key S) (gL : Gd chs key L) (hs : c.seen = L) (hi : i < chs.length) : goneB (chs ++ [c]) (addL (unionL S L) chs.length) i = false ↔ goneB chs S i = false ∧ i ∉ L := by
  rw [gone_no, gone_no]
  constructor
  · intro h
    refine ⟨fun j hj z => ?_, fun z => ?_⟩
    · refine h j (mem_addL.mpr (.inl (mem_unionL.mpr (.inl hj)))) ?_
      rw [chg_old (g.lt j hj)]; exact z
    · refine h chs.length (mem_addL.mpr (.inr rfl)) ?_
      rw [chg_new, hs]; exact z
  · rintro ⟨h1, h2⟩ j hj z
    rcases mem_addL.mp hj with hj | rfl
    · rcases mem_unionL.mp hj with hj | hj
      · rw [chg_old (g.lt j hj)] at z
        exact h1 j hj z
      · rw [chg_old (gL.lt j hj)] at z
        exact h2 (gL.cls j hj i z)
    · rw [chg_new, hs] at z
      exact h2 z
theorem gone_new (w : Wd n chs kn) (g : Gd chs key S) (gL : Gd chs key L) (hs : c.seen = L) : goneB (chs ++ [c]) (addL (unionL S L) chs.length) chs.length = false := by
  refine gone_no.mpr fun j hj z => ?_
  rcases mem_addL.mp hj with hj | rfl
  · have hj := (g.union gL).lt j hj
    rw [chg_old hj] at z
    have := w.early j hj _ z
    omega
  · rw [chg_new, hs] at z
    have := gL.lt _ z
    omega
/-- the rows behind a change -/
theorem rows_grow (w : Wd n chs kn) (g : Gd chs key S) (gL : Gd chs key L) (hs : c.seen = L) {r : Row} :
    r ∈ (dueS n (chs ++ [c]) (addL (unionL S L) chs.length)).2 ↔ (r ∈ (dueS n chs S).2 ∧ seen (dueS n chs L).1 r = false) ∨ (0 ≤ c.k ∧ r = rowOf c) := by
  rw [mem_due]
  constructor
  · rintro ⟨i, i1, i2, i3, rfl⟩
    rcases mem_addL.mp i1 with i1 | rfl
    · have hl := (g.union gL).lt i i1
      rw [gone_grow g gL hs hl] at i2
      rw [chg_old hl] at i3 ⊢
      rcases mem_unionL.mp i1 with z | z
      · refine .inl ⟨mem_due.mpr ⟨i, z, i2.1, i3, rfl⟩, ?_⟩
        rw [seen_due w gL hl (g.inn i z).2 i3]
        exact decide_eq_false i2.2
      · exact absurd z i2.2
    · rw [chg_new] at i3 ⊢
      exact .inr ⟨i3, rfl⟩
  · rintro (⟨h1, h2⟩ | ⟨h1, rfl⟩)
    · obtain ⟨i, i1, i2, i3, rfl⟩ := mem_due.mp h1
      have hl := g.lt i i1
      rw [seen_due w gL hl (g.inn i i1).2 i3] at h2
      refine ⟨i, mem_addL.mpr (.inl (mem_unionL.mpr (.inl i1))), (gone_grow g gL hs hl).mpr ⟨i2, of_decide_eq_false h2⟩, ?_, ?_⟩
      · rw [chg_old hl]; exact i3
      · rw [chg_old hl]
    · refine ⟨chs.length, mem_addL.mpr (.inr rfl), gone_new w g gL hs, ?_, ?_⟩
      · rw [chg_new]; exact h1
      · rw [chg_new]
theorem due_put (w : Wd n chs kn) (g : Gd chs key (kn k key)) (gL : Gd chs key L) (hk : k < n) (w' : Wd n (chs ++ [⟨key, k, cnt chs (kn k key) k + 1, v, L⟩]) kn') (g' : Gd (chs ++ [⟨key, k, cnt chs (kn k key) k + 1, v, L⟩]) key (addL (unionL (kn k key) L) chs.length)) :
    putOn (dueS n chs (kn k key)) k v (dueS n chs L).1 = dueS n (chs ++ [⟨key, k, cnt chs (kn k key) k + 1, v, L⟩]) (addL (unionL (kn k key) L) chs.length) := by
  have e : (dueS n chs (kn k key)).1.length = (dueS n chs L).1.length := by rw [mark_len, mark_len]
  have enew : newRow (dueS n chs (kn k key)) k v = rowOf ⟨key, k, cnt chs (kn k key) k + 1, v, L⟩ := by
    unfold newRow rowOf
    rw [mark_getD hk]
  refine Prod.ext ?_ ?_
  · refine ext_getD (by rw [putMark_len e, mark_len, mark_len]) fun i hi => ?_
    rw [putMark_len e, mark_len] at hi
    rw [putMark_getD e (by rw [mark_len]; exact hi), mark_getD hi, mark_getD hk, mark_getD hi, mark_getD hi, grow_eq g gL, cnt_add (g.union gL).lt, cnt_union g gL (Int.natCast_nonneg _)]
    by_cases z : i = k
    · subst z
      rw [if_pos rfl, if_pos rfl]
      have : cnt chs L (i : Int) ≤ cnt chs (kn i key) (i : Int) := by
        unfold cnt
        refine List.Nodup.length_le_of_subset (filt_nod gL.nod) fun j hj => ?_
        obtain ⟨h1, h2⟩ := List.mem_filter.mp hj
        obtain ⟨h3, h4⟩ := gL.inn j h1
        have := w.own j h3 i (of_decide_eq_true h2)
        rw [h4] at this
        exact List.mem_filter.mpr ⟨this, h2⟩
      omega
    · rw [if_neg z, if_neg (show ¬ ((k : Nat) : Int) = (i : Int) by omega)]
      omega
  · show sortR (unseen (dueS n chs (kn k key)).2 (dueS n chs L).1 ++ [newRow (dueS n chs (kn k key)) k v]) = sortR _
    refine sort_ext (putRows_nod (due_wf w g)) (rows_nod w' g') fun r => ?_
    have r0 : r ∈ (liveL (chs ++ [⟨key, k, cnt chs (kn k key) k + 1, v, L⟩]) (addL (unionL (kn k key) L) chs.length)).map (fun i => rowOf (chgAt (chs ++ [⟨key, k, cnt chs (kn k key) k + 1, v, L⟩]) i)) ↔
        r ∈ (dueS n (chs ++ [⟨key, k, cnt chs (kn k key) k + 1, v, L⟩]) (addL (unionL (kn k key) L) chs.length)).2 := mem_sortR.symm
    rw [r0, rows_grow w g gL rfl, List.mem_append, List.mem_singleton, mem_unseen, enew]
    constructor
    · rintro (h | h)
      · exact .inl h
      · exact .inr ⟨Int.natCast_nonneg _, h⟩
    · rintro (h | h)
      · exact .inl h
      · exact .inr h.2
theorem due_drop (w : Wd n chs kn) (g : Gd chs key S) (gL : Gd chs key L) (w' : Wd n (chs ++ [⟨key, -1, 0, 0, L⟩]) kn') (g' : Gd (chs ++ [⟨key, -1, 0, 0, L⟩]) key (addL (unionL S L) chs.length)) :
    droppedS (dueS n chs S) (dueS n chs L).1 = dueS n (chs ++ [⟨key, -1, 0, 0, L⟩]) (addL (unionL S L) chs.length) := by
  have e : (dueS n chs S).1.length = (dueS n chs L).1.length := by rw [mark_len, mark_len]
  refine Prod.ext ?_ ?_
  · show joinM _ _ = _
    refine ext_getD (by rw [joinM_len e, mark_len, mark_len]) fun i hi => ?_
    rw [joinM_len e, mark_len] at hi
    rw [joinM_getD e (by rw [mark_len]; exact hi), mark_getD hi, mark_getD hi, mark_getD hi, grow_eq g gL, cnt_add (g.union gL).lt, cnt_union g gL (Int.natCast_nonneg _), if_neg (show ¬ (-1 : Int) = (i : Int) by omega)]
    omega
  · have wf := due_wf w g
    refine rows_ext (wf.nod.filter _) (sortR_nod (rows_nod w' g')) (wf.srt.filter _) (sortR_srt _) fun r => ?_
    have r2 := rows_grow w g gL (c := ⟨key, -1, 0, 0, L⟩) rfl (r := r)
    refine Iff.trans ?_ r2.symm
    show r ∈ unseen (dueS n chs S).2 (dueS n chs L).1 ↔ _
    rw [mem_unseen]
    constructor
    · exact .inl
    · rintro (h | h)
      · exact h
      · exact absurd (show (0:Int) ≤ -1 from h.1) (by omega)
end
end Sb

set_option Elab.async false
set_option maxRecDepth 100000
set_option maxHeartbeats 4000000
set_option linter.all false
/-! Sets of changes as dicts; a comprehension over one. -/
namespace Sb
open PySem L2 PyProof.Rows
/-- a set of changes as the dict's rows -/
def dkv (S : List Nat) : List (Key × V) := S.map fun (i : Nat) => ((Sum.inl (i : Int) : Key), V.bl true)
theorem dkv_len (S : List Nat) : (dkv S).length = S.length := List.length_map _
theorem dkv_val (i : Nat) : ∀ S : List Nat, valV (dkv S) (Sum.inl (i : Int) : Key) = if i ∈ S then some (.bl true) else none
  | [] => rfl
  | j :: S => by
    show valV (((Sum.inl (j : Int) : Key), V.bl true) :: dkv S) _ = _
    by_cases e : j = i
    · subst e
      rw [valV_pos rfl, if_pos List.mem_cons_self]
    · rw [valV_neg (fun z => e (by have := Sum.inl.inj z; omega)), dkv_val i S]
      by_cases h : i ∈ S
      · rw [if_pos h, if_pos (List.mem_cons_of_mem _ h)]
      · rw [if_neg h, if_neg fun z => (List.mem_cons.mp z).elim (fun z => e z.symm) h]
theorem dkv_put (S : List Nat) (i : Nat) : putK (dkv S) (Sum.inl (i : Int) : Key) (.bl true) = dkv (addL S i) := by
  unfold putK addL
  rw [valV_any, dkv_val]
  by_cases h : i ∈ S
  · rw [if_pos h, if_pos h]
    show (if true = true then _ else _) = _
    rw [if_pos rfl]
    unfold dkv
    rw [List.map_map]
    refine List.map_congr_left fun j _ => ?_
    show (if (Sum.inl (j : Int) : Key) = Sum.inl (i : Int) then _ else _) = _
    split
    · rfl
    · rfl
  · rw [if_neg h, if_neg h]
    show (if false = true then _ else _) = _
    rw [if_neg (by decide)]
    unfold dkv
    rw [List.map_append]; rfl
theorem dkv_merge : ∀ (T S : List Nat), mergeK (dkv S) (dkv T) = dkv (unionL S T)
  | [], _ => rfl
  | t :: T, S => by
    show mergeK (putK (dkv S) (Sum.inl (t : Int) : Key) (.bl true)) (dkv T) = dkv (unionL (addL S t) T)
    rw [dkv_put]
    exact dkv_merge T _
theorem dkv_at {S : List Nat} {j : Nat} {k : Key} {v : V} (h : (dkv S)[j]? = some (k, v)) : ∃ i : Nat, S[j]? = some i ∧ k = Sum.inl (i : Int) := by
  unfold dkv at h
  rw [List.getElem?_map] at h
  cases e : S[j]? with
  | none => rw [e] at h; cases h
  | some i =>
    rw [e] at h
    cases h
    exact ⟨i, rfl, rfl⟩
/-- a comprehension over a set of changes -/
theorem lcK {g : TG} {tt : TT} {te : TE} {vs : List Nat} {σ : L2.St} {H1 : Hp} {Qd : Addr → Hp → Prop} {d : Addr} {od : Obj} (S : List Nat) (f : Nat → Option PyData) (M : Addr → Prop) (fr : Fr M H1) (hl : H1 d = some (.frz od (.dK (dkv S)))) (hz : S.length ≤ sizeLine)
    (hs : ∀ (i y : Nat) (H2 : Hp) (M' : Addr → Prop) (Yes : V → Hp → Prop) (No : Hp → Prop), S[i]? = some y → Same H1 H2 → Ext M M' H1 H2 → Fr M' H2 → (∀ x H4 e, f y = some e → Same H2 H4 → Rp M' H4 x e → Yes x H4) → (∀ H4, f y = none → Same H2 H4 → No H4) → LcItem g tt te vs σ (.int y) H2 Yes No)
    (hd : ∀ D H', H1 D = none → Same H1 H' → Rp M H' (.ref D) (.list (S.filterMap f)) → Qd D H') :
    ∀ D, H1 D = none → ∃ W : Nat → Nat → Hp → Prop, (∃ m, W 0 m (upd H1 D (.lst []))) ∧ ∀ i m H, W i m H →
      ((Itk d od (dkv S)).stop i H ∧ Qd D H) ∨ ((Itk d od (dkv S)).go i H ∧ ∃ Nx : Hp → Prop, (∀ H', Nx H' → ∃ m', m' < m ∧ W (i + 1) m' H') ∧ ∀ x H', (Itk d od (dkv S)).yld i H x H' → g x (wipe σ vs) H' fun σ2 H2 => wipe σ2 vs = wipe σ vs ∧ tt σ2 H2 fun b H3 =>
        if b = true then te σ2 H3 fun y H4 => ∃ acc, H4 D = some (.lst acc) ∧ acc.length < sizeLine ∧ Nx (upd H4 D (.lst (acc ++ [y]))) else Nx H3) := by
  intro D hD
  refine lc_it walk_keys (fun i H => LcInv M H1 D ((S.take i).filterMap f) H) (by simpa using LcInv.start hD) (fun i H _ w => w.1 _ _ hl) ?_ (fun H w => ?_)
  · rintro i x H H' hi w ⟨rfl, ky, vv, hki, rfl⟩
    obtain ⟨y, hy, rfl⟩ := dkv_at hki
    have hi := (List.getElem?_eq_some_iff.mp hy).1
    refine hs i y H' _ (fun y H4 => _) (fun H4 => _) hy w.1 (w.ext hD) (w.fr fr) (fun x H4 e he s r => ?_) (fun H4 he s => ?_)
    · obtain ⟨acc, h1, h2, h3⟩ := w.more hD s r (Nat.lt_of_le_of_lt (List.length_filterMap_le f (S.take i)) (by rw [List.length_take]; omega))
      refine ⟨acc, h1, h2, ?_⟩
      rw [fm_take hy, he]; exact h3
    · rw [fm_take hy, he]
      obtain ⟨s1, ys, hy', ra⟩ := w
      exact ⟨Same.trans s1 s, ys, s _ _ hy', by simpa using ra.same s⟩
  · rw [dkv_len, List.take_length] at w
    obtain ⟨s, r⟩ := w.out fr hD
    exact hd D H hD s r
/-- a frozen dict is given back -/
theorem thaw {d : Addr} {od : Obj} {u : HO} {H H' : Hp} (h : H d = some u) (s : Same (upd H d (.frz od u)) H') : Same H (upd H' d u) := fun b o e => by
  by_cases z : b = d
  · subst z; rw [upd_same, ← h]; exact e
  · rw [upd_ne z]; exact s _ _ (by rw [upd_ne z]; exact e)
/-- the list of changes -/
def ChA (H : Hp) (cs : List V) (chs : List Chg) : Prop := cs.length = chs.length ∧ ∀ i, i < chs.length → ∃ t e, cs[i]? = some (.ref t) ∧ H t = some (.tup [.int (chgAt chs i).k, .int (chgAt chs i).num, .int (chgAt chs i).val, .ref e]) ∧ Rd H e (.dK (dkv (chgAt chs i).seen))
theorem Rd.same {H H' : Hp} {e : Addr} {u : HO} (h : Rd H e u) (s : Same H H') : Rd H' e u := h.elim (fun z => .inl (s _ _ z)) fun ⟨o, z⟩ => .inr ⟨o, s _ _ z⟩
theorem ChA.same {H H' : Hp} {cs : List V} {chs : List Chg} (h : ChA H cs chs) (s : Same H H') : ChA H' cs chs := ⟨h.1, fun i hi => let ⟨t, e, a, b, c⟩ := h.2 i hi; ⟨t, e, a, s _ _ b, Rd.same c s⟩⟩
theorem ChA.freeze {H : Hp} {cs : List V} {chs : List Chg} {d : Addr} {od : Obj} {S : List Nat} (h : ChA H cs chs) (hd : H d = some (.dK (dkv S))) : ChA (upd H d (.frz od (.dK (dkv S)))) cs chs := by
  refine ⟨h.1, fun i hi => ?_⟩
  obtain ⟨t, e, a, b, c⟩ := h.2 i hi
  refine ⟨t, e, a, by rw [upd_ne (fun z => by rw [z, hd] at b; cases b)]; exact b, ?_⟩
  by_cases z : e = d
  · subst z
    rcases c with c | ⟨o, c⟩
    · rw [hd] at c
      have := HO.dK.inj (Option.some.inj c)
      rw [← this]
      exact .inr ⟨od, upd_same⟩
    · rw [hd] at c; cases c
  · rcases c with c | ⟨o, c⟩
    · exact .inl (by rw [upd_ne z]; exact c)
    · exact .inr ⟨o, by rw [upd_ne z]; exact c⟩
theorem upd_back {d : Addr} {u w : HO} {H : Hp} (h : H d = some u) : upd (upd H d w) d u = H := by
  funext b
  by_cases z : b = d
  · subst z; rw [upd_same, h]
  · rw [upd_ne z, upd_ne z]
end Sb

set_option Elab.async false
set_option maxRecDepth 100000
set_option maxHeartbeats 4000000
set_option linter.all false
/-! The heap of the whole law: what stays, looks and letters, known sets. -/
namespace Sb
open PySem L2 PyProof.Rows
/-- data without lists -/
abbrev Pu : Addr → Prop := fun _ => True
/-- tuples, dicts that are not the store's, and lists that are not the law's stay -/
structure Stays (M : Addr → Prop) (ds : List Addr) (H H' : Hp) : Prop where
  tup : ∀ b xs, H b = some (.tup xs) → H' b = some (.tup xs)
  dic : ∀ e kvs, e ∉ ds → H e = some (.dK kvs) → H' e = some (.dK kvs)
  lst : ∀ b xs, ¬ M b → H b = some (.lst xs) → H' b = some (.lst xs)
  occ : ∀ b, H' b = none → H b = none
section
variable {M : Addr → Prop} {ds : List Addr} {H H' H'' : Hp} {x : V} {d : PyData} {n : Nat} {chs : List Chg} {kn : Nat → Str → List Nat}
theorem Stays.refl : Stays M ds H H := ⟨fun _ _ e => e, fun _ _ _ e => e, fun _ _ _ e => e, fun _ e => e⟩
theorem Stays.same (s : Same H H') : Stays M ds H H' := ⟨fun b _ e => s b _ e, fun b _ _ e => s b _ e, fun b _ _ e => s b _ e, fun b e => s.free e⟩
theorem Stays.trans (a : Stays M ds H H') (b : Stays M ds H' H'') : Stays M ds H H'' :=
  ⟨fun c xs e => b.tup _ _ (a.tup _ _ e), fun c k n e => b.dic _ _ n (a.dic _ _ n e), fun c xs n e => b.lst _ _ n (a.lst _ _ n e), fun c e => a.occ _ (b.occ _ e)⟩
theorem Stays.ext (s : Stays M ds H H') : Ext M M H H' := ⟨fun a xs e => s.tup a xs e, fun a xs m e => ⟨m, s.lst a xs m e⟩⟩
theorem Stays.store {dk : Addr} (hd : dk ∈ ds) (b : But dk H H') (k : Keep H H') : Stays M ds H H' :=
  ⟨fun a xs e => k.keep a _ (fun _ z => nomatch z) e, fun e kvs n h => b e _ (fun z => n (by rw [z]; exact hd)) h, fun a xs _ e => k.lst e, k.occ⟩
theorem Stays.list {L : Addr} {xs : List V} {o : HO} (m : M L) (h : H L = some (.lst xs)) : Stays M ds H (upd H L o) := by
  refine ⟨fun b ys e => ?_, fun b ys _ e => ?_, fun b ys n e => ?_, fun b e => ?_⟩
  · rw [upd_ne (fun z => by rw [z, h] at e; cases e)]; exact e
  · rw [upd_ne (fun z => by rw [z, h] at e; cases e)]; exact e
  · rw [upd_ne (fun z => n (by rw [z]; exact m))]; exact e
  · by_cases z : b = L
    · rw [z, upd_same] at e; cases e
    · rw [upd_ne z] at e; exact e
theorem Stays.table {L : Addr} {kvs : List (List Key × V)} {o : HO} (h : H L = some (.dT kvs)) : Stays M ds H (upd H L o) := by
  refine ⟨fun b ys e => ?_, fun b ys _ e => ?_, fun b ys n e => ?_, fun b e => ?_⟩
  · rw [upd_ne (fun z => by rw [z, h] at e; cases e)]; exact e
  · rw [upd_ne (fun z => by rw [z, h] at e; cases e)]; exact e
  · rw [upd_ne (fun z => by rw [z, h] at e; cases e)]; exact e
  · by_cases z : b = L
    · rw [z, upd_same] at e; cases e
    · rw [upd_ne z] at e; exact e
theorem Stays.fr {M' : Addr → Prop} (s : Stays M ds H H') (f : Fr M' H) : Fr M' H' := fun a e => f a (s.occ a e)
theorem Stays.extM {M' : Addr → Prop} (s : Stays M ds H H') (sub : ∀ a, M a → M' a) : Ext M' M' H H' := ⟨fun a xs e => s.tup a xs e, fun a xs m e => ⟨m, s.lst a xs (fun z => m (sub a z)) e⟩⟩
theorem Stays.pu {M' : Addr → Prop} (s : Stays M ds H H') (h : ∀ M, Rp M H x d) : Rp M' H' x d := (h Pu).ext ⟨fun a xs e => s.tup a xs e, fun _ _ n => absurd trivial n⟩
theorem Stays.old (s : Stays M ds H H') (h : Rp (Old H') H'' x d) : Rp (Old H) H'' x d := h.ext (Ext.less fun a m z => m (s.occ a z))
/-- a set that stands in a dict of its own -/
structure SetAt (ds : List Addr) (H : Hp) (e : Addr) (S : List Nat) : Prop where
  out : e ∉ ds
  at_ : H e = some (.dK (dkv S))
theorem SetAt.stays {e : Addr} {S : List Nat} (h : SetAt ds H e S) (s : Stays M ds H H') : SetAt ds H' e S := ⟨h.out, s.dic _ _ h.out h.at_⟩
/-- the changes' list -/
def Chs (ds : List Addr) (H : Hp) (cs : List V) (chs : List Chg) : Prop := cs.length = chs.length ∧ ∀ i, i < chs.length → ∃ t e, cs[i]? = some (.ref t) ∧ H t = some (.tup [.int (chgAt chs i).k, .int (chgAt chs i).num, .int (chgAt chs i).val, .ref e]) ∧ SetAt ds H e (chgAt chs i).seen
theorem Chs.stays {cs : List V} (h : Chs ds H cs chs) (s : Stays M ds H H') : Chs ds H' cs chs := ⟨h.1, fun i hi => let ⟨t, e, a, b, c⟩ := h.2 i hi; ⟨t, e, a, s.tup _ _ b, c.stays s⟩⟩
theorem Chs.cha {cs : List V} (h : Chs ds H cs chs) : ChA H cs chs := ⟨h.1, fun i hi => let ⟨t, e, a, b, c⟩ := h.2 i hi; ⟨t, e, a, b, .inl c.at_⟩⟩
theorem Chs.more {cs : List V} {c : Chg} {t e : Addr} (h : Chs ds H cs chs) (ht : H t = some (.tup [.int c.k, .int c.num, .int c.val, .ref e])) (he : SetAt ds H e c.seen) : Chs ds H (cs ++ [.ref t]) (chs ++ [c]) := by
  refine ⟨by rw [List.length_append, List.length_append, h.1]; rfl, fun i hi => ?_⟩
  rw [List.length_append, List.length_singleton] at hi
  by_cases z : i < chs.length
  · obtain ⟨t', e', a, b, q⟩ := h.2 i z
    rw [chg_old z]
    exact ⟨t', e', by rw [List.getElem?_append_left (by rw [h.1]; exact z)]; exact a, b, q⟩
  · obtain rfl : i = chs.length := by omega
    rw [chg_new]
    exact ⟨t, e, by rw [← h.1, List.getElem?_append_right (Nat.le_refl _), Nat.sub_self]; rfl, ht, he⟩
/-- looks or letters: a key, data, the set that was known -/
def EnA (D : Str × List Nat → PyData) (ds : List Addr) (H : Hp) (xs : List V) (ls : List (Str × List Nat)) : Prop :=
  xs.length = ls.length ∧ ∀ (i : Nat) (p : Str × List Nat), ls[i]? = some p → ∃ (t : Addr) (mv : V) (e : Addr), xs[i]? = some (V.ref t) ∧ H t = some (.tup [.str p.1, mv, .ref e]) ∧ (∀ M, Rp M H mv (D p)) ∧ SetAt ds H e p.2
section
variable {D D' : Str × List Nat → PyData} {xs : List V} {ls : List (Str × List Nat)}
theorem EnA.stays (h : EnA D ds H xs ls) (s : Stays M ds H H') : EnA D ds H' xs ls := ⟨h.1, fun i p hp => let ⟨t, mv, e, a, b, c, q⟩ := h.2 i p hp; ⟨t, mv, e, a, s.tup _ _ b, fun _ => s.pu c, q.stays s⟩⟩
theorem EnA.to (h : EnA D ds H xs ls) (k : ∀ p ∈ ls, D p = D' p) : EnA D' ds H xs ls := ⟨h.1, fun i p hp => by rw [← k p (List.mem_of_getElem? hp)]; exact h.2 i p hp⟩
theorem EnA.nil : EnA D ds H [] [] := ⟨rfl, fun i p h => by simp at h⟩
theorem EnA.more {p : Str × List Nat} {t e : Addr} {mv : V} (h : EnA D ds H xs ls) (ht : H t = some (.tup [.str p.1, mv, .ref e])) (hm : ∀ M, Rp M H mv (D p)) (he : SetAt ds H e p.2) : EnA D ds H (xs ++ [.ref t]) (ls ++ [p]) := by
  refine ⟨by rw [List.length_append, List.length_append, h.1]; rfl, fun i q hq => ?_⟩
  by_cases z : i < ls.length
  · rw [List.getElem?_append_left z] at hq
    obtain ⟨t', mv', e', a, b⟩ := h.2 i q hq
    exact ⟨t', mv', e', by rw [List.getElem?_append_left (by rw [h.1]; exact z)]; exact a, b⟩
  · have hi := (List.getElem?_eq_some_iff.mp hq).1
    rw [List.length_append, List.length_singleton] at hi
    obtain rfl : i = ls.length := by omega
    rw [List.getElem?_append_right (Nat.le_refl _), Nat.sub_self] at hq
    cases hq
    exact ⟨t, mv, e, by rw [← h.1, List.getElem?_append_right (Nat.le_refl _), Nat.sub_self]; rfl, ht, hm, he⟩
end
/-- the lists that a deed writes -/
abbrev M3 (Cl Lk Le : Addr) : Addr → Prop := fun b => b = Cl ∨ b = Lk ∨ b = Le
def markOf (n : Nat) (chs : List Chg) (p : Str × List Nat) : PyData := markD (dueS n chs p.2).1
def letOf (n : Nat) (chs : List Chg) (p : Str × List Nat) : PyData := letterD p.1 (dueS n chs p.2)
abbrev AB : List Str := ["a", "b"]
/-- the table of what is known -/
def KnA (ds : List Addr) (H : Hp) (n : Nat) (kvs : List (List Key × V)) (kn : Nat → Str → List Nat) : Prop := kvs.length = 2 * n ∧ ∀ k, k < n → ∀ s ∈ AB, ∃ e, valV kvs [Sum.inl (k : Int), Sum.inr s] = some (.ref e) ∧ SetAt ds H e (kn k s)
def setN (kn : Nat → Str → List Nat) (k : Nat) (s : Str) (T : List Nat) : Nat → Str → List Nat := fun i t => if i = k ∧ t = s then T else kn i t
theorem setN_eq {k : Nat} {s : Str} {T : List Nat} : setN kn k s T k s = T := if_pos ⟨rfl, rfl⟩
theorem setN_ne {k i : Nat} {s t : Str} {T : List Nat} (h : ¬ (i = k ∧ t = s)) : setN kn k s T i t = kn i t := if_neg h
theorem KnA.stays {kvs : List (List Key × V)} (h : KnA ds H n kvs kn) (s : Stays M ds H H') : KnA ds H' n kvs kn := ⟨h.1, fun k hk t ht => let ⟨e, a, b⟩ := h.2 k hk t ht; ⟨e, a, b.stays s⟩⟩
theorem putK_len {κ : Type} [DecidableEq κ] {kvs : List (κ × V)} {k : κ} {v u : V} (h : valV kvs k = some u) : (putK kvs k v).length = kvs.length := by
  unfold putK
  rw [valV_any, h]
  show (if true = true then _ else _ : List (κ × V)).length = _
  rw [if_pos rfl, List.length_map]
theorem KnA.put {kvs : List (List Key × V)} {k : Nat} {s : Str} {T : List Nat} {e : Addr} (h : KnA ds H n kvs kn) (hk : k < n) (hs : s ∈ AB) (he : SetAt ds H e T) : KnA ds H n (putK kvs [Sum.inl (k : Int), Sum.inr s] (.ref e)) (setN kn k s T) := by
  obtain ⟨e0, h0, _⟩ := h.2 k hk s hs
  refine ⟨by rw [putK_len h0]; exact h.1, fun i hi t ht => ?_⟩
  rw [valV_put]
  by_cases z : i = k ∧ t = s
  · obtain ⟨rfl, rfl⟩ := z
    rw [if_pos rfl, setN_eq]
    exact ⟨e, rfl, he⟩
  · rw [if_neg (fun y => z (by
      have y1 := List.cons.inj y
      have y2 := List.cons.inj y1.2
      have := Sum.inl.inj y1.1
      exact ⟨by omega, Sum.inr.inj y2.1⟩)), setN_ne z]
    exact h.2 i hi t ht
end
/-- the world of the law -/
structure W8 (C : Addr) (M : Addr → Prop) (H : Hp) (v : V) (ds : List Addr) (n : Nat) (Cl Kd Lk Le : Addr) (i : Nat) (f : Nat → Str → Shelf) (chs : List Chg) (kn : Nat → Str → List Nat) (ls es : List (Str × List Nat)) : Prop where
  S : KeyAt M H C v ds n AB f
  fr : Fr M H
  cl : ∃ cs, H Cl = some (.lst cs) ∧ Chs ds H cs chs
  kd : ∃ kvs, H Kd = some (.dT kvs) ∧ KnA ds H n kvs kn
  lk : ∃ xs, H Lk = some (.lst xs) ∧ EnA (markOf n chs) ds H xs ls
  le : ∃ xs, H Le = some (.lst xs) ∧ EnA (letOf n chs) ds H xs es
  mC : M Cl
  mL : M Lk
  mE : M Le
  n1 : Cl ≠ Lk
  n2 : Cl ≠ Le
  n3 : Lk ≠ Le
  fe : ∀ k, k < n → ∀ s ∈ AB, f k s = dueS n chs (kn k s)
  wd : Wd n chs kn
  gk : ∀ k, k < n → ∀ s ∈ AB, Gd chs s (kn k s)
  gl : ∀ p ∈ ls, Gd chs p.1 p.2
  ge : ∀ p ∈ es, Gd chs p.1 p.2 ∧ p.1 ∈ AB
  ci : chs.length ≤ i
  li : ls.length ≤ i
  ei : es.length ≤ i
  n0 : 1 ≤ n
  n9 : n ≤ 9
  i9 : i ≤ 100
  sn : ∀ j, j < chs.length → (chgAt chs j).seen.length ≤ 100
section
variable {C : Addr} {M : Addr → Prop} {H H' : Hp} {v : V} {ds : List Addr} {n : Nat} {Cl Kd Lk Le : Addr} {i k : Nat} {f f' : Nat → Str → Shelf} {chs : List Chg} {kn kn' : Nat → Str → List Nat} {ls es : List (Str × List Nat)} {s : Str} {S T L : List Nat} {c : Chg} {val : Int}
theorem W8.occ (h : W8 C M H v ds n Cl Kd Lk Le i f chs kn ls es) : ∀ d ∈ ds, H d ≠ none := fun d hd z => by
  obtain ⟨kvs, hk⟩ := h.S.dicts hd
  rw [z] at hk; cases hk
theorem W8.out (h : W8 C M H v ds n Cl Kd Lk Le i f chs kn ls es) {e : Addr} (he : H e = none) : e ∉ ds := fun z => h.occ e z he
theorem W8.to {M' : Addr → Prop} (h : W8 C M H v ds n Cl Kd Lk Le i f chs kn ls es) (s : Stays M' ds H H') (S : KeyAt M H' C v ds n AB f) (e1 : H' Cl = H Cl) (e2 : H' Kd = H Kd) (e3 : H' Lk = H Lk) (e4 : H' Le = H Le) : W8 C M H' v ds n Cl Kd Lk Le i f chs kn ls es := by
  obtain ⟨cs, c1, c2⟩ := h.cl
  obtain ⟨kvs, k1, k2⟩ := h.kd
  obtain ⟨xs, l1, l2⟩ := h.lk
  obtain ⟨ys, m1, m2⟩ := h.le
  exact ⟨S, s.fr h.fr, ⟨cs, e1 ▸ c1, c2.stays s⟩, ⟨kvs, e2 ▸ k1, k2.stays s⟩, ⟨xs, e3 ▸ l1, l2.stays s⟩, ⟨ys, e4 ▸ m1, m2.stays s⟩, h.mC, h.mL, h.mE, h.n1, h.n2, h.n3, h.fe, h.wd, h.gk, h.gl, h.ge, h.ci, h.li, h.ei, h.n0, h.n9, h.i9, h.sn⟩
theorem W8.same (h : W8 C M H v ds n Cl Kd Lk Le i f chs kn ls es) (s : Same H H') : W8 C M H' v ds n Cl Kd Lk Le i f chs kn ls es := by
  obtain ⟨cs, c1, c2⟩ := h.cl
  obtain ⟨kvs, k1, k2⟩ := h.kd
  obtain ⟨xs, l1, l2⟩ := h.lk
  obtain ⟨ys, m1, m2⟩ := h.le
  exact h.to (.same s : Stays M ds H H') (h.S.same s) (by rw [c1]; exact s _ _ c1) (by rw [k1]; exact s _ _ k1) (by rw [l1]; exact s _ _ l1) (by rw [m1]; exact s _ _ m1)
theorem W8.ok (h : W8 C M H v ds n Cl Kd Lk Le i f chs kn ls es) (hk : k < n) (s : Str) : ShOk n (f k s) := by
  by_cases hs : s ∈ AB
  · rw [h.fe k hk s hs]
    exact due_ok h.wd (h.gk k hk s hs) (by have := h.ci; have := h.i9; omega)
  · obtain ⟨st, a, b⟩ := h.S
    have h1 : st[k]? = some (st[k]'(by rw [a.sl]; exact hk)) := List.getElem?_eq_getElem _
    obtain ⟨_, b2, b3⟩ := b k _ h1
    rw [← b3 s, shelf_no fun z => hs (b2 s z)]
    exact .start n
theorem W8.markOld (h : W8 C M H v ds n Cl Kd Lk Le i f chs kn ls es) : ∀ p ∈ ls, markOf n chs p = markOf n (chs ++ [c]) p := fun p hp => by
  unfold markOf
  rw [due_old (h.gl p hp).lt]
theorem W8.letOld (h : W8 C M H v ds n Cl Kd Lk Le i f chs kn ls es) : ∀ p ∈ es, letOf n chs p = letOf n (chs ++ [c]) p := fun p hp => by
  unfold letOf
  rw [due_old (h.ge p hp).1.lt]
theorem Wd.more (w : Wd n chs kn) (sub : ∀ k s, ∀ i ∈ kn k s, i ∈ kn' k s) : Wd n chs kn' := ⟨w.rng, w.num, w.early, fun i hi k hk => sub _ _ _ (w.own i hi k hk)⟩
theorem setN_sub (hs : ∀ i ∈ kn k s, i ∈ T) : ∀ k' s', ∀ i ∈ kn k' s', i ∈ setN kn k s T k' s' := fun k' s' i hi => by
  by_cases z : k' = k ∧ s' = s
  · obtain ⟨rfl, rfl⟩ := z
    rw [setN_eq]; exact hs i hi
  · rw [setN_ne z]; exact hi
/-- a change is made: the shelf follows its set -/
theorem W8.change (h : W8 C M H v ds n Cl Kd Lk Le i f chs kn ls es) (hk : k < n) (hs : s ∈ AB) (hc : c.key = s) (hseen : c.seen = L) (gL : Gd chs s L)
    (wd' : Wd n (chs ++ [c]) (setN kn k s (addL (unionL (kn k s) L) chs.length))) (gd' : Gd (chs ++ [c]) s (addL (unionL (kn k s) L) chs.length))
    (S : KeyAt M H' C v ds n AB (setK f k s (dueS n (chs ++ [c]) (addL (unionL (kn k s) L) chs.length)))) (fr : Fr M H')
    (cl : ∃ cs, H' Cl = some (.lst cs) ∧ Chs ds H' cs (chs ++ [c])) (kd : ∃ kvs, H' Kd = some (.dT kvs) ∧ KnA ds H' n kvs (setN kn k s (addL (unionL (kn k s) L) chs.length)))
    (lk : ∃ xs, H' Lk = some (.lst xs) ∧ EnA (markOf n chs) ds H' xs ls) (le : ∃ xs, H' Le = some (.lst xs) ∧ EnA (letOf n chs) ds H' xs es) (hi : i < 100) :
    W8 C M H' v ds n Cl Kd Lk Le (i + 1) (setK f k s (dueS n (chs ++ [c]) (addL (unionL (kn k s) L) chs.length))) (chs ++ [c]) (setN kn k s (addL (unionL (kn k s) L) chs.length)) ls es := by
  obtain ⟨xs, l1, l2⟩ := lk
  obtain ⟨ys, m1, m2⟩ := le
  refine ⟨S, fr, cl, kd, ⟨xs, l1, l2.to h.markOld⟩, ⟨ys, m1, m2.to h.letOld⟩, h.mC, h.mL, h.mE, h.n1, h.n2, h.n3, fun k' hk' s' hs' => ?_, wd', fun k' hk' s' hs' => ?_, fun p hp => (h.gl p hp).old, fun p hp => ⟨(h.ge p hp).1.old, (h.ge p hp).2⟩, by rw [List.length_append, List.length_singleton]; have := h.ci; omega, by have := h.li; omega, by have := h.ei; omega, h.n0, h.n9, by omega, fun j hj => ?_⟩
  rotate_left 2
  · by_cases z : j < chs.length
    · rw [chg_old z]; exact h.sn j z
    · rw [List.length_append, List.length_singleton] at hj
      obtain rfl : j = chs.length := by omega
      rw [chg_new, hseen]
      have h2 := List.Nodup.length_le_of_subset (l₂ := List.range chs.length) gL.nod fun i hi => List.mem_range.mpr (gL.inn i hi).1
      rw [List.length_range] at h2
      have := h.ci
      omega
  · by_cases z : k' = k ∧ s' = s
    · obtain ⟨rfl, rfl⟩ := z
      rw [setK_eq, setN_eq]
    · rw [setK_ne z, setN_ne z, h.fe k' hk' s' hs', due_old (h.gk k' hk' s' hs').lt]
  · by_cases z : k' = k ∧ s' = s
    · obtain ⟨rfl, rfl⟩ := z
      rw [setN_eq]; exact gd'
    · rw [setN_ne z]; exact (h.gk k' hk' s' hs').old
/-- a letter is taken -/
theorem W8.take {M' : Addr → Prop} (h : W8 C M H v ds n Cl Kd Lk Le i f chs kn ls es) (hk : k < n) (hs : s ∈ AB) (gL : Gd chs s L) (st : Stays M' ds H H')
    (S : KeyAt M H' C v ds n AB (setK f k s (metS (f k s) (dueS n chs L)))) (cl : H' Cl = H Cl) (e3 : H' Lk = H Lk) (e4 : H' Le = H Le)
    (kd : ∃ kvs, H' Kd = some (.dT kvs) ∧ KnA ds H' n kvs (setN kn k s (unionL (kn k s) L))) (hi : i < 100) :
    W8 C M H' v ds n Cl Kd Lk Le (i + 1) (setK f k s (metS (f k s) (dueS n chs L))) chs (setN kn k s (unionL (kn k s) L)) ls es := by
  obtain ⟨cs, c1, c2⟩ := h.cl
  obtain ⟨xs, l1, l2⟩ := h.lk
  obtain ⟨ys, m1, m2⟩ := h.le
  have g := h.gk k hk s hs
  refine ⟨S, st.fr h.fr, ⟨cs, cl ▸ c1, c2.stays st⟩, kd, ⟨xs, e3 ▸ l1, l2.stays st⟩, ⟨ys, e4 ▸ m1, m2.stays st⟩, h.mC, h.mL, h.mE, h.n1, h.n2, h.n3, fun k' hk' s' hs' => ?_, h.wd.more (setN_sub fun i hi => mem_unionL.mpr (.inl hi)), fun k' hk' s' hs' => ?_, h.gl, h.ge, by have := h.ci; omega, by have := h.li; omega, by have := h.ei; omega, h.n0, h.n9, by omega, h.sn⟩
  · by_cases z : k' = k ∧ s' = s
    · obtain ⟨rfl, rfl⟩ := z
      rw [setK_eq, setN_eq, h.fe _ hk _ hs, due_met h.wd g gL]
    · rw [setK_ne z, setN_ne z, h.fe k' hk' s' hs']
  · by_cases z : k' = k ∧ s' = s
    · obtain ⟨rfl, rfl⟩ := z
      rw [setN_eq]; exact g.union gL
    · rw [setN_ne z]; exact h.gk k' hk' s' hs'
/-- a look is remembered -/
theorem W8.look (h : W8 C M H v ds n Cl Kd Lk Le i f chs kn ls es) {t e : Addr} {mv : V} {xs : List V} (hx : H Lk = some (.lst xs)) (ht : H t = some (.tup [.str s, mv, .ref e])) (hm : ∀ M, Rp M H mv (markD (dueS n chs L).1)) (he : SetAt ds H e L) (g : Gd chs s L) (hi : i < 100) :
    W8 C M (upd H Lk (.lst (xs ++ [.ref t]))) v ds n Cl Kd Lk Le (i + 1) f chs kn (ls ++ [(s, L)]) es := by
  obtain ⟨cs, c1, c2⟩ := h.cl
  obtain ⟨kvs, k1, k2⟩ := h.kd
  obtain ⟨xs', l1, l2⟩ := h.lk
  obtain ⟨ys, m1, m2⟩ := h.le
  rw [hx] at l1
  cases l1
  have st : Stays M ds H (upd H Lk (.lst (xs ++ [.ref t]))) := .list h.mL hx
  refine ⟨h.S.write h.mL hx, st.fr h.fr, ⟨cs, by rw [upd_ne h.n1]; exact c1, c2.stays st⟩, ⟨kvs, by rw [upd_ne (fun z => by rw [z, hx] at k1; cases k1)]; exact k1, k2.stays st⟩, ⟨_, upd_same, (l2.stays st).more (p := (s, L)) (st.tup _ _ ht) (fun _ => st.pu hm) (he.stays st)⟩, ⟨ys, by rw [upd_ne h.n3.symm]; exact m1, m2.stays st⟩, h.mC, h.mL, h.mE, h.n1, h.n2, h.n3, h.fe, h.wd, h.gk, fun p hp => ?_, h.ge, by have := h.ci; omega, by rw [List.length_append, List.length_singleton]; have := h.li; omega, by have := h.ei; omega, h.n0, h.n9, by omega, h.sn⟩
  rcases List.mem_append.mp hp with hp | hp
  · exact h.gl p hp
  · rw [List.mem_singleton.mp hp]; exact g
/-- a letter is written -/
theorem W8.letter (h : W8 C M H v ds n Cl Kd Lk Le i f chs kn ls es) {t e : Addr} {mv : V} {xs : List V} (hx : H Le = some (.lst xs)) (ht : H t = some (.tup [.str s, mv, .ref e])) (hm : ∀ M, Rp M H mv (letterD s (dueS n chs L))) (he : SetAt ds H e L) (g : Gd chs s L) (hs : s ∈ AB) (hi : i < 100) :
    W8 C M (upd H Le (.lst (xs ++ [.ref t]))) v ds n Cl Kd Lk Le (i + 1) f chs kn ls (es ++ [(s, L)]) := by
  obtain ⟨cs, c1, c2⟩ := h.cl
  obtain ⟨kvs, k1, k2⟩ := h.kd
  obtain ⟨ys, m1, m2⟩ := h.lk
  obtain ⟨xs', l1, l2⟩ := h.le
  rw [hx] at l1
  cases l1
  have st : Stays M ds H (upd H Le (.lst (xs ++ [.ref t]))) := .list h.mE hx
  refine ⟨h.S.write h.mE hx, st.fr h.fr, ⟨cs, by rw [upd_ne h.n2]; exact c1, c2.stays st⟩, ⟨kvs, by rw [upd_ne (fun z => by rw [z, hx] at k1; cases k1)]; exact k1, k2.stays st⟩, ⟨ys, by rw [upd_ne h.n3]; exact m1, m2.stays st⟩, ⟨_, upd_same, (l2.stays st).more (p := (s, L)) (st.tup _ _ ht) (fun _ => st.pu hm) (he.stays st)⟩, h.mC, h.mL, h.mE, h.n1, h.n2, h.n3, h.fe, h.wd, h.gk, h.gl, fun p hp => ?_, by have := h.ci; omega, by have := h.li; omega, by rw [List.length_append, List.length_singleton]; have := h.ei; omega, h.n0, h.n9, by omega, h.sn⟩
  rcases List.mem_append.mp hp with hp | hp
  · exact h.ge p hp
  · rw [List.mem_singleton.mp hp]; exact ⟨g, hs⟩
/-- other lists are written -/
theorem W8.write (h : W8 C M H v ds n Cl Kd Lk Le i f chs kn ls es) {q : Addr} {xs ys : List V} (m : M q) (hq : H q = some (.lst xs)) (q1 : q ≠ Cl) (q2 : q ≠ Lk) (q3 : q ≠ Le) : W8 C M (upd H q (.lst ys)) v ds n Cl Kd Lk Le i f chs kn ls es := by
  obtain ⟨kvs, k1, k2⟩ := h.kd
  exact h.to (.list m hq : Stays M ds H _) (h.S.write m hq) (upd_ne q1.symm) (upd_ne (fun z => by rw [z, hq] at k1; cases k1)) (upd_ne q2.symm) (upd_ne q3.symm)
theorem mark_nil : (dueS n chs []).1 = List.replicate n 0 := by
  refine ext_getD (by rw [mark_len, List.length_replicate]) fun i hi => ?_
  rw [mark_len] at hi
  rw [mark_getD hi, getD_rep]; rfl
theorem due_nil : dueS n chs [] = (List.replicate n 0, []) := Prod.ext mark_nil (by
  unfold dueS
  show sortR [] = []
  exact List.eq_nil_of_length_eq_zero (by rw [sortR_len]; rfl))
end
end Sb

set_option Elab.async false
set_option maxRecDepth 100000
set_option maxHeartbeats 4000000
set_option linter.all false
/-! For the whole law: the table's start, lists of texts. -/
namespace Sb
open PySem L2 PyProof.Rows
theorem StoreAt.news {M M' : Addr → Prop} {H H' : Hp} {C : Addr} {v : V} {ds : List Addr} {n : Nat} {st : Kept} (S : StoreAt M H C v ds n st) (s : Same H H') (hm : ∀ a, M' a → H a = none) : StoreAt M' H' C v ds n st := by
  obtain ⟨p, dx, l, vf, e, h1, h2, h3, h4⟩ := S.obj
  have ex : Ext M M' H H' := ⟨fun a xs e => s a _ e, fun a xs _ e => ⟨fun z => (by rw [hm a z] at e; cases e), s a _ e⟩⟩
  refine ⟨⟨p, dx, l, vf, e, s _ _ h1, h2.ext ex, (ex.lst _ _ h3 h4).1, s _ _ h4⟩, S.dl, S.sl, S.nd, fun k d kv hd hk => ?_⟩
  obtain ⟨kvs, a, r⟩ := S.dic k d kv hd hk
  exact ⟨kvs, s _ _ a, r.ext ex⟩
theorem KeyAt.news {M M' : Addr → Prop} {H H' : Hp} {C : Addr} {v : V} {ds : List Addr} {n : Nat} {Ks : List Str} {f : Nat → Str → Shelf} (S : KeyAt M H C v ds n Ks f) (s : Same H H') (hm : ∀ a, M' a → H a = none) : KeyAt M' H' C v ds n Ks f := let ⟨st, a, b⟩ := S; ⟨st, a.news s hm, b⟩
/-- the table while it is laid -/
structure KnI (ds : List Addr) (H : Hp) (i : Nat) (kvs : List (List Key × V)) : Prop where
  len : kvs.length = 2 * i
  new : ∀ (k : Nat) (s : Str), i ≤ k → valV kvs [Sum.inl (k : Int), Sum.inr s] = none
  old : ∀ k, k < i → ∀ s ∈ AB, ∃ e, valV kvs [Sum.inl (k : Int), Sum.inr s] = some (.ref e) ∧ SetAt ds H e []
theorem key_inj {k k' : Nat} {s s' : Str} (h : ([Sum.inl (k : Int), Sum.inr s] : List Key) = [Sum.inl (k' : Int), Sum.inr s']) : k = k' ∧ s = s' := by
  have y1 := List.cons.inj h
  have y2 := List.cons.inj y1.2
  have := Sum.inl.inj y1.1
  exact ⟨by omega, Sum.inr.inj y2.1⟩
section
variable {M : Addr → Prop} {ds : List Addr} {H H' : Hp} {i n : Nat} {kvs : List (List Key × V)} {e1 e2 : Addr}
theorem KnI.stays (h : KnI ds H i kvs) (s : Stays M ds H H') : KnI ds H' i kvs := ⟨h.len, h.new, fun k hk s' hs => let ⟨e, a, b⟩ := h.old k hk s' hs; ⟨e, a, b.stays s⟩⟩
theorem KnI.nil : KnI ds H 0 [] := ⟨rfl, fun _ _ _ => rfl, fun _ z => absurd z (Nat.not_lt_zero _)⟩
theorem KnI.mid (h : KnI ds H i kvs) (v : V) : valV (putK kvs [Sum.inl (i : Int), Sum.inr "a"] v) [Sum.inl (i : Int), Sum.inr "b"] = none := by
  rw [valV_put, if_neg fun z => absurd (key_inj z).2 (by decide +kernel)]
  exact h.new i _ (Nat.le_refl _)
theorem KnI.step (h : KnI ds H i kvs) (h1 : SetAt ds H e1 []) (h2 : SetAt ds H e2 []) : KnI ds H (i + 1) (putK (putK kvs [Sum.inl (i : Int), Sum.inr "a"] (.ref e1)) [Sum.inl (i : Int), Sum.inr "b"] (.ref e2)) := by
  refine ⟨?_, fun k s hk => ?_, fun k hk s hs => ?_⟩
  · rw [putK_new _ (h.mid _), putK_new _ (h.new i _ (Nat.le_refl _)), List.length_append, List.length_append, h.len]
    show 2 * i + 1 + 1 = _
    omega
  · rw [valV_put, valV_put, if_neg fun z => by have := (key_inj z).1; omega, if_neg fun z => by have := (key_inj z).1; omega]
    exact h.new k s (by omega)
  · by_cases z : k = i
    · subst z
      have hs : s = "a" ∨ s = "b" := by simpa using hs
      rcases hs with rfl | rfl
      · rw [valV_put, valV_put, if_neg fun z => absurd (key_inj z).2 (by decide +kernel), if_pos rfl]
        exact ⟨e1, rfl, h1⟩
      · rw [valV_put, if_pos rfl]
        exact ⟨e2, rfl, h2⟩
    · rw [valV_put, valV_put, if_neg fun y => z (key_inj y).1, if_neg fun y => z (key_inj y).1]
      exact h.old k (by omega) s hs
theorem KnI.kna (h : KnI ds H n kvs) : KnA ds H n kvs fun _ _ => [] := ⟨h.len, h.old⟩
end
theorem inV_strs (i : Str) : ∀ ns : List Str, inV (.str i) (ns.map V.str) = decide (i ∈ ns)
  | [] => rfl
  | n :: ns => by
    unfold inV
    rw [List.map_cons, List.any_cons]
    have := inV_strs i ns
    unfold inV at this
    rw [this]
    show (eqV (.str n) (.str i) || _) = _
    unfold eqV
    by_cases h : n = i
    · subst h; simp
    · have h2 : ¬ i = n := fun z => h z.symm
      simp [h, h2]
theorem flat_strs (ns : List Str) : (ns.map V.str).all flatV = true := List.all_eq_true.mpr fun v hv => by
  obtain ⟨i, _, rfl⟩ := List.mem_map.mp hv
  rfl
theorem w_inS {K : Frag} {M : Addr → Prop} {H : Hp} {y : V} {Q : VK} {m : List Str} {i : Str} (h : Rp M H y (.list (m.map PyData.str))) (q : Q (.bl (decide (i ∈ m))) H) : rIn K false (.str i) y H Q := by
  obtain ⟨a, xs, rfl, _, ha, r⟩ := h.lst_inv
  rw [r.strs_inv] at ha
  exact ⟨a, _, rfl, .inl (SqL.of ha), rfl, flat_strs m, by rw [inV_strs]; exact q⟩
theorem at_lastX {α : Type} {xs : List α} {x : α} : atI (xs ++ [x]) (-1) = some x := by
  unfold atI ixN
  rw [if_neg (by decide), if_pos (by rw [List.length_append, List.length_singleton]; omega)]
  have e : (((xs ++ [x]).length : Int) + -1).toNat = xs.length := by rw [List.length_append, List.length_singleton]; omega
  show (xs ++ [x])[(((xs ++ [x]).length : Int) + -1).toNat]? = some x
  rw [e, List.getElem?_append_right (Nat.le_refl _), Nat.sub_self]; rfl
def ilD (m : List Int) : PyData := .list (m.map PyData.int)
theorem sh_ils (vss : List (List Int)) : Sh 2 (.list (vss.map ilD)) := .list fun d h => by
  obtain ⟨m, _, rfl⟩ := List.mem_map.mp h
  exact sh_intl m
/-- the keys due, in order as they are -/
theorem sortX_ab (p : Str → Bool) : sortX (AB.filter p) = AB.filter p := by
  refine (sortX_uniq (List.Perm.refl _) ?_).symm
  refine List.Pairwise.filter p ?_
  refine List.pairwise_cons.mpr ⟨fun s hs => ?_, List.pairwise_singleton _ _⟩
  rw [List.mem_singleton.mp hs]
  decide +kernel
theorem ok_ab (p : Str → Bool) : ∀ x ∈ AB.filter p, PyData.strOk x = true := fun x hx => by
  have h := (List.mem_filter.mp hx).1
  have hs : x = "a" ∨ x = "b" := by simpa using h
  rcases hs with rfl | rfl <;> decide +kernel
theorem wd_nil {n : Nat} {kn : Nat → Str → List Nat} : Wd n [] kn := ⟨fun _ z => absurd z (Nat.not_lt_zero _), fun _ z => absurd z (Nat.not_lt_zero _), fun _ z => absurd z (Nat.not_lt_zero _), fun _ z => absurd z (Nat.not_lt_zero _)⟩
theorem take_ab (p : Str → Bool) {j : Nat} {s : Str} (h : AB[j]? = some s) : (AB.take (j + 1)).filter p = (AB.take j).filter p ++ if p s = true then [s] else [] := by
  rw [List.take_succ, h, List.filter_append]
  congr 1
  show List.filter p [s] = _
  rw [List.filter_cons, List.filter_nil]
end Sb
namespace Sb
open PySem L2 PyProof.Rows
theorem sq_table {K : Frag} {H : Hp} {b L : Addr} {xs : List V} {kvs : List (List Key × V)} {o : HO} (h : SqL K H b xs) (hL : H L = some (.dT kvs)) : SqL K (upd H L o) b xs := by
  rcases h with (h | ⟨od, h⟩) | h
  · exact .inl (.inl (by rw [upd_ne (fun z => by rw [z, hL] at h; cases h)]; exact h))
  · exact .inl (.inr ⟨od, by rw [upd_ne (fun z => by rw [z, hL] at h; cases h)]; exact h⟩)
  · exact .inr h
end Sb
namespace Sb
open PySem L2 PyProof.Rows
theorem told_key (rs : Str → List Row) {s : Str} (hs : s ∈ AB) : decide (s ∈ sortX (AB.filter fun s => decide (0 < (rs s).length))) = !decide ((rs s).map (fun r => r.2.2) = []) := by
  rw [sortX_ab]
  by_cases z : rs s = []
  · have h1 : ¬ s ∈ AB.filter fun s => decide (0 < (rs s).length) := fun y => by
      have := of_decide_eq_true (List.mem_filter.mp y).2
      rw [z] at this
      exact Nat.lt_irrefl 0 this
    rw [decide_eq_false h1, z]; rfl
  · have h1 : s ∈ AB.filter fun s => decide (0 < (rs s).length) := List.mem_filter.mpr ⟨hs, decide_eq_true (List.length_pos_iff.mpr z)⟩
    rw [decide_eq_true h1, decide_eq_false fun y => z (List.map_eq_nil_iff.mp y)]; rfl
end Sb

namespace Sb
open PySem L2
def top (i : Nat) : Stmt := PySem.Challenge.pw_siblingshelf_k08_whole_just_the_unseen.main.body.getD i (.Pass ⟨0, 0, 0, 0⟩)
abbrev s_blank : Stmt := top 7
abbrev N_blank : List Str := ["many", "keeper"]
theorem sc_blank : FnScope N_blank ["many"] (defScope s_blank) := ⟨rfl, rfl, rfl, by decide +kernel, rfl, by decide +kernel, by decide +kernel⟩
abbrev s_need_alike : Stmt := top 8
abbrev N_need_alike : List Str := ["one", "other"]
theorem sc_need_alike : FnScope N_need_alike ["one", "other"] (defScope s_need_alike) := ⟨rfl, rfl, rfl, by decide +kernel, rfl, by decide +kernel, by decide +kernel⟩
abbrev s_joined : Stmt := top 9
abbrev N_joined : List Str := ["one", "other", "keeper"]
theorem sc_joined : FnScope N_joined ["one", "other"] (defScope s_joined) := ⟨rfl, rfl, rfl, by decide +kernel, rfl, by decide +kernel, by decide +kernel⟩
abbrev s_has_seen : Stmt := top 10
abbrev N_has_seen : List Str := ["mark", "keeper", "number"]
theorem sc_has_seen : FnScope N_has_seen ["mark", "keeper", "number"] (defScope s_has_seen) := ⟨rfl, rfl, rfl, by decide +kernel, rfl, by decide +kernel, by decide +kernel⟩
abbrev s_unseen : Stmt := top 12
abbrev N_unseen : List Str := ["rows", "mark", "row"]
theorem sc_unseen : FnScope N_unseen ["rows", "mark"] (defScope s_unseen) := ⟨rfl, rfl, rfl, by decide +kernel, rfl, by decide +kernel, by decide +kernel⟩
abbrev s_put_on : Stmt := top 13
abbrev N_put_on : List Str := ["shelf", "keeper", "value", "mark", "number", "rows", "found"]
theorem sc_put_on : FnScope N_put_on ["shelf", "keeper", "value", "mark"] (defScope s_put_on) := ⟨rfl, rfl, rfl, by decide +kernel, rfl, by decide +kernel, by decide +kernel⟩
abbrev s_dropped : Stmt := top 14
abbrev N_dropped : List Str := ["shelf", "mark"]
theorem sc_dropped : FnScope N_dropped ["shelf", "mark"] (defScope s_dropped) := ⟨rfl, rfl, rfl, by decide +kernel, rfl, by decide +kernel, by decide +kernel⟩
abbrev s_met : Stmt := top 15
abbrev N_met : List Str := ["one", "other", "rows", "row"]
theorem sc_met : FnScope N_met ["one", "other"] (defScope s_met) := ⟨rfl, rfl, rfl, by decide +kernel, rfl, by decide +kernel, by decide +kernel⟩
abbrev s_S_init : Stmt := inClass (top 17) 0
abbrev N_S_init : List Str := ["self", "many", "keeper"]
theorem sc_S_init : FnScope N_S_init ["self", "many"] (defScope s_S_init) := ⟨rfl, rfl, rfl, by decide +kernel, rfl, by decide +kernel, by decide +kernel⟩
abbrev s_S_need_keeper : Stmt := inClass (top 17) 1
abbrev N_S_need_keeper : List Str := ["self", "keeper"]
theorem sc_S_need_keeper : FnScope N_S_need_keeper ["self", "keeper"] (defScope s_S_need_keeper) := ⟨rfl, rfl, rfl, by decide +kernel, rfl, by decide +kernel, by decide +kernel⟩
abbrev s_S_need_mark : Stmt := inClass (top 17) 2
abbrev N_S_need_mark : List Str := ["self", "mark", "number"]
theorem sc_S_need_mark : FnScope N_S_need_mark ["self", "mark"] (defScope s_S_need_mark) := ⟨rfl, rfl, rfl, by decide +kernel, rfl, by decide +kernel, by decide +kernel⟩
abbrev s_S_shelf : Stmt := inClass (top 17) 3
abbrev N_S_shelf : List Str := ["self", "keeper", "key"]
theorem sc_S_shelf : FnScope N_S_shelf ["self", "keeper", "key"] (defScope s_S_shelf) := ⟨rfl, rfl, rfl, by decide +kernel, rfl, by decide +kernel, by decide +kernel⟩
abbrev s_S_look : Stmt := inClass (top 17) 4
abbrev N_S_look : List Str := ["self", "keeper", "key", "shelf", "row"]
theorem sc_S_look : FnScope N_S_look ["self", "keeper", "key"] (defScope s_S_look) := ⟨rfl, rfl, rfl, by decide +kernel, rfl, by decide +kernel, by decide +kernel⟩
abbrev s_S_put : Stmt := inClass (top 17) 5
abbrev N_S_put : List Str := ["self", "keeper", "key", "value", "mark", "shelf"]
theorem sc_S_put : FnScope N_S_put ["self", "keeper", "key", "value", "mark"] (defScope s_S_put) := ⟨rfl, rfl, rfl, by decide +kernel, rfl, by decide +kernel, by decide +kernel⟩
abbrev s_S_drop : Stmt := inClass (top 17) 6
abbrev N_S_drop : List Str := ["self", "keeper", "key", "mark", "shelf"]
theorem sc_S_drop : FnScope N_S_drop ["self", "keeper", "key", "mark"] (defScope s_S_drop) := ⟨rfl, rfl, rfl, by decide +kernel, rfl, by decide +kernel, by decide +kernel⟩
abbrev s_S_letter : Stmt := inClass (top 17) 7
abbrev N_S_letter : List Str := ["self", "keeper", "key", "shelf"]
theorem sc_S_letter : FnScope N_S_letter ["self", "keeper", "key"] (defScope s_S_letter) := ⟨rfl, rfl, rfl, by decide +kernel, rfl, by decide +kernel, by decide +kernel⟩
abbrev s_S_take : Stmt := inClass (top 17) 8
abbrev N_S_take : List Str := ["self", "keeper", "letter", "shelf"]
theorem sc_S_take : FnScope N_S_take ["self", "keeper", "letter"] (defScope s_S_take) := ⟨rfl, rfl, rfl, by decide +kernel, rfl, by decide +kernel, by decide +kernel⟩
abbrev s_S_keys : Stmt := inClass (top 17) 9
abbrev N_S_keys : List Str := ["self", "keeper", "key"]
theorem sc_S_keys : FnScope N_S_keys ["self", "keeper"] (defScope s_S_keys) := ⟨rfl, rfl, rfl, by decide +kernel, rfl, by decide +kernel, by decide +kernel⟩
abbrev s_l_cell_at : Stmt := top 19
abbrev N_l_cell_at : List Str := ["_law_script", "_law_k"]
theorem sc_l_cell_at : FnScope N_l_cell_at ["_law_script", "_law_k"] (defScope s_l_cell_at) := ⟨rfl, rfl, rfl, by decide +kernel, rfl, by decide +kernel, by decide +kernel⟩
abbrev s_l_value : Stmt := top 20
abbrev N_l_value : List Str := ["_law_cell", "_law_few"]
theorem sc_l_value : FnScope N_l_value ["_law_cell", "_law_few"] (defScope s_l_value) := ⟨rfl, rfl, rfl, by decide +kernel, rfl, by decide +kernel, by decide +kernel⟩
abbrev s_l_both : Stmt := top 21
abbrev N_l_both : List Str := ["_law_one", "_law_other", "_law_found"]
theorem sc_l_both : FnScope N_l_both ["_law_one", "_law_other"] (defScope s_l_both) := ⟨rfl, rfl, rfl, by decide +kernel, rfl, by decide +kernel, by decide +kernel⟩
abbrev s_l_looked : Stmt := top 22
abbrev N_l_looked : List Str := ["_law_looks", "_law_key", "_law_pick", "_law_many", "_law_own", "_law_first", "_law_other", "_law_mark", "_law_look", "_law_k"]
theorem sc_l_looked : FnScope N_l_looked ["_law_looks", "_law_key", "_law_pick", "_law_many"] (defScope s_l_looked) := ⟨rfl, rfl, rfl, by decide +kernel, rfl, by decide +kernel, by decide +kernel⟩
abbrev s_l_due : Stmt := top 23
abbrev N_l_due : List Str := ["_law_changes", "_law_known", "_law_many", "_law_gone", "_law_one", "_law_rows", "_law_mark", "_law_keeper", "_law_row"]
theorem sc_l_due : FnScope N_l_due ["_law_changes", "_law_known", "_law_many"] (defScope s_l_due) := ⟨rfl, rfl, rfl, by decide +kernel, rfl, by decide +kernel, by decide +kernel⟩
abbrev s_l_told : Stmt := top 24
abbrev N_l_told : List Str := ["_law_store", "_law_keeper", "_law_key", "_law_due_here", "_law_found", "_law_one"]
theorem sc_l_told : FnScope N_l_told ["_law_store", "_law_keeper", "_law_key", "_law_due_here"] (defScope s_l_told) := ⟨rfl, rfl, rfl, by decide +kernel, rfl, by decide +kernel, by decide +kernel⟩
abbrev s_l_changed : Stmt := top 25
abbrev N_l_changed : List Str := ["_law_store", "_law_world", "_law_spot", "_law_look", "_law_value_here", "_law_grown", "_law_changes", "_law_known", "_law_number", "_law_one"]
theorem sc_l_changed : FnScope N_l_changed ["_law_store", "_law_world", "_law_spot", "_law_look", "_law_value_here"] (defScope s_l_changed) := ⟨rfl, rfl, rfl, by decide +kernel, rfl, by decide +kernel, by decide +kernel⟩
abbrev s_l_asked : Stmt := top 26
abbrev N_l_asked : List Str := ["_law_store", "_law_keeper", "_law_key"]
theorem sc_l_asked : FnScope N_l_asked ["_law_store", "_law_keeper", "_law_key"] (defScope s_l_asked) := ⟨rfl, rfl, rfl, by decide +kernel, rfl, by decide +kernel, by decide +kernel⟩
abbrev s_l_deed : Stmt := top 27
abbrev N_l_deed : List Str := ["_law_store", "_law_world", "_law_heard", "_law_cell", "_law_turn", "_law_few", "_law_known", "_law_many", "_law_keeper", "_law_key", "_law_pick", "_law_sort", "_law_looks", "_law_letters", "_law_value_here", "_law_letter", "_law_some"]
theorem sc_l_deed : FnScope N_l_deed ["_law_store", "_law_world", "_law_heard", "_law_cell", "_law_turn", "_law_few"] (defScope s_l_deed) := ⟨rfl, rfl, rfl, by decide +kernel, rfl, by decide +kernel, by decide +kernel⟩
abbrev s_l_cells : Stmt := top 28
abbrev N_l_cells : List Str := ["_law_script", "_law_many"]
theorem sc_l_cells : FnScope N_l_cells ["_law_script", "_law_many"] (defScope s_l_cells) := ⟨rfl, rfl, rfl, by decide +kernel, rfl, by decide +kernel, by decide +kernel⟩
abbrev s_law : Stmt := top 29
abbrev N_law : List Str := ["_law_script", "_law_many", "_law_few", "_law_store", "_law_known", "_law_keeper", "_law_world", "_law_heard", "_law_told_here", "_law_kept", "_law_turn", "_law_cell", "_law_spot", "_law_due_here", "_law_key", "_law_rows"]
theorem sc_law : FnScope N_law ["_law_script"] (defScope s_law) := ⟨rfl, rfl, rfl, by decide +kernel, rfl, by decide +kernel, by decide +kernel⟩
structure Ad where
  C_ShelfError : Addr
  C_BadCount : Addr
  C_NoKeeper : Addr
  C_BadMark : Addr
  C : Addr
  f_blank : Addr
  d_blank : FuncData
  f_need_alike : Addr
  d_need_alike : FuncData
  f_joined : Addr
  d_joined : FuncData
  f_has_seen : Addr
  d_has_seen : FuncData
  f_unseen : Addr
  d_unseen : FuncData
  f_put_on : Addr
  d_put_on : FuncData
  f_dropped : Addr
  d_dropped : FuncData
  f_met : Addr
  d_met : FuncData
  f_S_init : Addr
  d_S_init : FuncData
  f_S_need_keeper : Addr
  d_S_need_keeper : FuncData
  f_S_need_mark : Addr
  d_S_need_mark : FuncData
  f_S_shelf : Addr
  d_S_shelf : FuncData
  f_S_look : Addr
  d_S_look : FuncData
  f_S_put : Addr
  d_S_put : FuncData
  f_S_drop : Addr
  d_S_drop : FuncData
  f_S_letter : Addr
  d_S_letter : FuncData
  f_S_take : Addr
  d_S_take : FuncData
  f_S_keys : Addr
  d_S_keys : FuncData
  f_l_cell_at : Addr
  d_l_cell_at : FuncData
  f_l_value : Addr
  d_l_value : FuncData
  f_l_both : Addr
  d_l_both : FuncData
  f_l_looked : Addr
  d_l_looked : FuncData
  f_l_due : Addr
  d_l_due : FuncData
  f_l_told : Addr
  d_l_told : FuncData
  f_l_changed : Addr
  d_l_changed : FuncData
  f_l_asked : Addr
  d_l_asked : FuncData
  f_l_deed : Addr
  d_l_deed : FuncData
  f_l_cells : Addr
  d_l_cells : FuncData
  f_law : Addr
  d_law : FuncData
structure Txt (K : Frag) (mg : Str → Option Value) (a : Ad) : Prop where
  n_ValueError : mg "ValueError" = none
  n_bool : mg "bool" = none
  n_dict : mg "dict" = none
  n_enumerate : mg "enumerate" = none
  n_int : mg "int" = none
  n_isinstance : mg "isinstance" = none
  n_len : mg "len" = none
  n_list : mg "list" = none
  n_max : mg "max" = none
  n_range : mg "range" = none
  n_sorted : mg "sorted" = none
  n_tuple : mg "tuple" = none
  g_MOST_KEEPERS : ∃ t, mg "MOST_KEEPERS" = some (.int 9 t)
  g_ShelfError : mg "ShelfError" = some (.ref a.C_ShelfError)
  x_ShelfError : PySem.W.excIn K a.C_ShelfError [.type "ValueError", .type "Exception", .type "BaseException", .type "object"] "ValueError.__new__" = true
  k_ShelfError : PySem.W.keepIn K (.ref a.C_ShelfError) = true
  b_ShelfError : PySem.W.subIn K (.ref a.C_ShelfError) (.type "BaseException") = some true
  t_ShelfError : PySem.W.typeIn K (.ref a.C_ShelfError) = some (.type "type")
  g_BadCount : mg "BadCount" = some (.ref a.C_BadCount)
  x_BadCount : PySem.W.excIn K a.C_BadCount [.type "ValueError", .type "Exception", .type "BaseException", .type "object"] "ValueError.__new__" = true
  k_BadCount : PySem.W.keepIn K (.ref a.C_BadCount) = true
  b_BadCount : PySem.W.subIn K (.ref a.C_BadCount) (.type "BaseException") = some true
  t_BadCount : PySem.W.typeIn K (.ref a.C_BadCount) = some (.type "type")
  g_NoKeeper : mg "NoKeeper" = some (.ref a.C_NoKeeper)
  x_NoKeeper : PySem.W.excIn K a.C_NoKeeper [.type "ValueError", .type "Exception", .type "BaseException", .type "object"] "ValueError.__new__" = true
  k_NoKeeper : PySem.W.keepIn K (.ref a.C_NoKeeper) = true
  b_NoKeeper : PySem.W.subIn K (.ref a.C_NoKeeper) (.type "BaseException") = some true
  t_NoKeeper : PySem.W.typeIn K (.ref a.C_NoKeeper) = some (.type "type")
  g_BadMark : mg "BadMark" = some (.ref a.C_BadMark)
  x_BadMark : PySem.W.excIn K a.C_BadMark [.type "ValueError", .type "Exception", .type "BaseException", .type "object"] "ValueError.__new__" = true
  k_BadMark : PySem.W.keepIn K (.ref a.C_BadMark) = true
  b_BadMark : PySem.W.subIn K (.ref a.C_BadMark) (.type "BaseException") = some true
  t_BadMark : PySem.W.typeIn K (.ref a.C_BadMark) = some (.type "type")
  cl : Cls K a.C
  mks : Mk K a.C a.f_S_init
  g_Store : mg "Store" = some (.ref a.C)
  nA_first : NoAttr K a.C "first"
  nA_kept : NoAttr K a.C "kept"
  F_blank : Fun K "blank" "blank" s_blank a.f_blank a.d_blank
  b_blank : Binds K a.d_blank ["many"] []
  k_blank : PySem.W.keepIn K (.ref a.f_blank) = true
  g_blank : mg "blank" = some (.ref a.f_blank)
  F_need_alike : Fun K "need_alike" "need_alike" s_need_alike a.f_need_alike a.d_need_alike
  b_need_alike : Binds K a.d_need_alike ["one", "other"] []
  k_need_alike : PySem.W.keepIn K (.ref a.f_need_alike) = true
  g_need_alike : mg "need_alike" = some (.ref a.f_need_alike)
  F_joined : Fun K "joined" "joined" s_joined a.f_joined a.d_joined
  b_joined : Binds K a.d_joined ["one", "other"] []
  k_joined : PySem.W.keepIn K (.ref a.f_joined) = true
  g_joined : mg "joined" = some (.ref a.f_joined)
  F_has_seen : Fun K "has_seen" "has_seen" s_has_seen a.f_has_seen a.d_has_seen
  b_has_seen : Binds K a.d_has_seen ["mark", "keeper", "number"] []
  k_has_seen : PySem.W.keepIn K (.ref a.f_has_seen) = true
  g_has_seen : mg "has_seen" = some (.ref a.f_has_seen)
  F_unseen : Fun K "unseen" "unseen" s_unseen a.f_unseen a.d_unseen
  b_unseen : Binds K a.d_unseen ["rows", "mark"] []
  k_unseen : PySem.W.keepIn K (.ref a.f_unseen) = true
  g_unseen : mg "unseen" = some (.ref a.f_unseen)
  F_put_on : Fun K "put_on" "put_on" s_put_on a.f_put_on a.d_put_on
  b_put_on : Binds K a.d_put_on ["shelf", "keeper", "value", "mark"] []
  k_put_on : PySem.W.keepIn K (.ref a.f_put_on) = true
  g_put_on : mg "put_on" = some (.ref a.f_put_on)
  F_dropped : Fun K "dropped" "dropped" s_dropped a.f_dropped a.d_dropped
  b_dropped : Binds K a.d_dropped ["shelf", "mark"] []
  k_dropped : PySem.W.keepIn K (.ref a.f_dropped) = true
  g_dropped : mg "dropped" = some (.ref a.f_dropped)
  F_met : Fun K "met" "met" s_met a.f_met a.d_met
  b_met : Binds K a.d_met ["one", "other"] []
  k_met : PySem.W.keepIn K (.ref a.f_met) = true
  g_met : mg "met" = some (.ref a.f_met)
  F_S_init : Fun K "__init__" "Store.__init__" s_S_init a.f_S_init a.d_S_init
  b_S_init : Binds K a.d_S_init ["self", "many"] []
  k_S_init : PySem.W.keepIn K (.ref a.f_S_init) = true
  m_S_init : Meth K a.C "__init__" a.f_S_init
  F_S_need_keeper : Fun K "need_keeper" "Store.need_keeper" s_S_need_keeper a.f_S_need_keeper a.d_S_need_keeper
  b_S_need_keeper : Binds K a.d_S_need_keeper ["self", "keeper"] []
  k_S_need_keeper : PySem.W.keepIn K (.ref a.f_S_need_keeper) = true
  m_S_need_keeper : Meth K a.C "need_keeper" a.f_S_need_keeper
  F_S_need_mark : Fun K "need_mark" "Store.need_mark" s_S_need_mark a.f_S_need_mark a.d_S_need_mark
  b_S_need_mark : Binds K a.d_S_need_mark ["self", "mark"] []
  k_S_need_mark : PySem.W.keepIn K (.ref a.f_S_need_mark) = true
  m_S_need_mark : Meth K a.C "need_mark" a.f_S_need_mark
  F_S_shelf : Fun K "shelf" "Store.shelf" s_S_shelf a.f_S_shelf a.d_S_shelf
  b_S_shelf : Binds K a.d_S_shelf ["self", "keeper", "key"] []
  k_S_shelf : PySem.W.keepIn K (.ref a.f_S_shelf) = true
  m_S_shelf : Meth K a.C "shelf" a.f_S_shelf
  F_S_look : Fun K "look" "Store.look" s_S_look a.f_S_look a.d_S_look
  b_S_look : Binds K a.d_S_look ["self", "keeper", "key"] []
  k_S_look : PySem.W.keepIn K (.ref a.f_S_look) = true
  m_S_look : Meth K a.C "look" a.f_S_look
  F_S_put : Fun K "put" "Store.put" s_S_put a.f_S_put a.d_S_put
  b_S_put : Binds K a.d_S_put ["self", "keeper", "key", "value", "mark"] []
  k_S_put : PySem.W.keepIn K (.ref a.f_S_put) = true
  m_S_put : Meth K a.C "put" a.f_S_put
  F_S_drop : Fun K "drop" "Store.drop" s_S_drop a.f_S_drop a.d_S_drop
  b_S_drop : Binds K a.d_S_drop ["self", "keeper", "key", "mark"] []
  k_S_drop : PySem.W.keepIn K (.ref a.f_S_drop) = true
  m_S_drop : Meth K a.C "drop" a.f_S_drop
  F_S_letter : Fun K "letter" "Store.letter" s_S_letter a.f_S_letter a.d_S_letter
  b_S_letter : Binds K a.d_S_letter ["self", "keeper", "key"] []
  k_S_letter : PySem.W.keepIn K (.ref a.f_S_letter) = true
  m_S_letter : Meth K a.C "letter" a.f_S_letter
  F_S_take : Fun K "take" "Store.take" s_S_take a.f_S_take a.d_S_take
  b_S_take : Binds K a.d_S_take ["self", "keeper", "letter"] []
  k_S_take : PySem.W.keepIn K (.ref a.f_S_take) = true
  m_S_take : Meth K a.C "take" a.f_S_take
  F_S_keys : Fun K "keys" "Store.keys" s_S_keys a.f_S_keys a.d_S_keys
  b_S_keys : Binds K a.d_S_keys ["self", "keeper"] []
  k_S_keys : PySem.W.keepIn K (.ref a.f_S_keys) = true
  m_S_keys : Meth K a.C "keys" a.f_S_keys
  F_l_cell_at : Fun K "_law_cell_at" "_law_cell_at" s_l_cell_at a.f_l_cell_at a.d_l_cell_at
  b_l_cell_at : Binds K a.d_l_cell_at ["_law_script", "_law_k"] []
  k_l_cell_at : PySem.W.keepIn K (.ref a.f_l_cell_at) = true
  g_l_cell_at : mg "_law_cell_at" = some (.ref a.f_l_cell_at)
  F_l_value : Fun K "_law_value" "_law_value" s_l_value a.f_l_value a.d_l_value
  b_l_value : Binds K a.d_l_value ["_law_cell", "_law_few"] []
  k_l_value : PySem.W.keepIn K (.ref a.f_l_value) = true
  g_l_value : mg "_law_value" = some (.ref a.f_l_value)
  F_l_both : Fun K "_law_both" "_law_both" s_l_both a.f_l_both a.d_l_both
  b_l_both : Binds K a.d_l_both ["_law_one", "_law_other"] []
  k_l_both : PySem.W.keepIn K (.ref a.f_l_both) = true
  g_l_both : mg "_law_both" = some (.ref a.f_l_both)
  F_l_looked : Fun K "_law_looked" "_law_looked" s_l_looked a.f_l_looked a.d_l_looked
  b_l_looked : Binds K a.d_l_looked ["_law_looks", "_law_key", "_law_pick", "_law_many"] []
  k_l_looked : PySem.W.keepIn K (.ref a.f_l_looked) = true
  g_l_looked : mg "_law_looked" = some (.ref a.f_l_looked)
  F_l_due : Fun K "_law_due" "_law_due" s_l_due a.f_l_due a.d_l_due
  b_l_due : Binds K a.d_l_due ["_law_changes", "_law_known", "_law_many"] []
  k_l_due : PySem.W.keepIn K (.ref a.f_l_due) = true
  g_l_due : mg "_law_due" = some (.ref a.f_l_due)
  F_l_told : Fun K "_law_told" "_law_told" s_l_told a.f_l_told a.d_l_told
  b_l_told : Binds K a.d_l_told ["_law_store", "_law_keeper", "_law_key", "_law_due_here"] []
  k_l_told : PySem.W.keepIn K (.ref a.f_l_told) = true
  g_l_told : mg "_law_told" = some (.ref a.f_l_told)
  F_l_changed : Fun K "_law_changed" "_law_changed" s_l_changed a.f_l_changed a.d_l_changed
  b_l_changed : Binds K a.d_l_changed ["_law_store", "_law_world", "_law_spot", "_law_look", "_law_value_here"] []
  k_l_changed : PySem.W.keepIn K (.ref a.f_l_changed) = true
  g_l_changed : mg "_law_changed" = some (.ref a.f_l_changed)
  F_l_asked : Fun K "_law_asked" "_law_asked" s_l_asked a.f_l_asked a.d_l_asked
  b_l_asked : Binds K a.d_l_asked ["_law_store", "_law_keeper", "_law_key"] []
  k_l_asked : PySem.W.keepIn K (.ref a.f_l_asked) = true
  g_l_asked : mg "_law_asked" = some (.ref a.f_l_asked)
  F_l_deed : Fun K "_law_deed" "_law_deed" s_l_deed a.f_l_deed a.d_l_deed
  b_l_deed : Binds K a.d_l_deed ["_law_store", "_law_world", "_law_heard", "_law_cell", "_law_turn", "_law_few"] []
  k_l_deed : PySem.W.keepIn K (.ref a.f_l_deed) = true
  g_l_deed : mg "_law_deed" = some (.ref a.f_l_deed)
  F_l_cells : Fun K "_law_cells" "_law_cells" s_l_cells a.f_l_cells a.d_l_cells
  b_l_cells : Binds K a.d_l_cells ["_law_script", "_law_many"] []
  k_l_cells : PySem.W.keepIn K (.ref a.f_l_cells) = true
  g_l_cells : mg "_law_cells" = some (.ref a.f_l_cells)
  F_law : Fun K "law" "law" s_law a.f_law a.d_law
  b_law : Binds K a.d_law ["_law_script"] []
  k_law : PySem.W.keepIn K (.ref a.f_law) = true
  g_law : mg "law" = some (.ref a.f_law)
end Sb

namespace Sb
open PySem L2
def sp_blank (a : Ad) : Sp := fun vs H Q E => ∃ (n : Int), vs = [.int n] ∧ (1 ≤ n ∧ n ≤ 9 → ∀ v H', Same H H' → (∀ M, Rp M H' v (markD (List.replicate n.toNat 0))) → Q v H') ∧ (¬ (1 ≤ n ∧ n ≤ 9) → E (.ref a.C_BadCount) none H)
section
variable {P : Program} {w : World} {K : Frag} {mg : Str → Option Value} {base : Heap} {a : Ad}
local macro_rules | `(tactic| walk_at "e1") => `(tactic| first
  | ((with_reducible refine' w_var ?wh ?_); (case wh => rfl))
  | with_reducible refine w_c ?_
  | with_reducible refine w_projn ?_
  | with_reducible refine w_projr ?_
  | with_reducible refine w_op ?_
  | with_reducible refine w_cons ?_
  | with_reducible refine w_nil ?_
  | with_reducible refine w_I0 ?_
  | ((with_reducible refine w_I ?wc ?_); (case wc => first | (show (0 : Int) < _; decide) | exact ⟨by decide, by decide⟩ | exact ⟨by decide, by decide, by decide⟩ | exact Or.inr ⟨by decide, by decide⟩ | exact Or.inl ⟨by decide, by decide⟩ | (show (0 : Int) < _; omega) | exact ⟨by omega, by omega⟩))
  | with_reducible refine w_bl ?_
  | with_reducible refine w_test ?_
  | with_reducible refine w_tB ?_
  | with_reducible refine w_set ?_
  | with_reducible refine w_ifS ?_
  | with_reducible refine w_if ?_
  | with_reducible refine w_or ?_
  | with_reducible refine w_and ?_
  | with_reducible refine w_not ?_
  | with_reducible refine w_orV ?_
  | with_reducible refine w_andV ?_
  | with_reducible refine w_notV ?_
  | with_reducible refine w_ret ?_
  | with_reducible refine w_retN ?_
  | with_reducible refine w_drop ?_
  | with_reducible refine w_next ?_
  | with_reducible refine w_un ?_
  | with_reducible refine w_CB ?_
  | with_reducible refine w_call ?_
  | with_reducible refine w_callS ?_
  | with_reducible refine w_gName ?_
  | with_reducible refine w_asg ?_
  | with_reducible refine w_tTup ?_
  | with_reducible refine w_tLst ?_
  | with_reducible refine w_lc ?_
  | with_reducible refine w_iRng1 ?_
  | with_reducible refine w_iRng2 ?_
  | with_reducible refine w_iList ?_
  | with_reducible refine w_iTup ?_
  | with_reducible refine w_for ?_
  | with_reducible refine w_chain ?_
  | with_reducible refine w_sl ?_
  | with_reducible refine w_part ?_
  | with_reducible refine w_nopart ?_
  | with_reducible refine w_exint ?_
  | with_reducible refine w_dput ?_
  | with_reducible refine w_gSub ?_
  | with_reducible refine w_sFld ?_
  | with_reducible refine w_dget2 ?_
  | with_reducible refine w_dget ?_
  | with_reducible refine w_bm ?_
  | with_reducible refine w_isiII ?_
  | with_reducible refine w_isiIB ?_
  | with_reducible refine w_isiBB ?_
  | with_reducible refine w_max ?_
  | ((with_reducible refine w_eq ?we ?_); (case we => rfl))
  | ((with_reducible refine w_ne ?we ?_); (case we => rfl)))
local macro_rules | `(tactic| walk_at "w1") => `(tactic| first | walk_at "e1" | with_reducible refine w_seq ?_)
local macro_rules | `(tactic| walk_at "e") => `(tactic| repeat walk_at "e1")
local macro_rules | `(tactic| walk_at "w") => `(tactic| repeat walk_at "w1")

theorem ok_blank (T : Txt K mg a) : FnOk P w K mg base (L2.CX P w) 1 a.f_blank a.d_blank ["many"] (sp_blank a) := by
  refine T.F_blank.okX sc_blank (fun vs H Q E h => ?_) (fun cdv A outer s H vs Q E hr h => ?_)
  · obtain ⟨n, rfl, _⟩ := h; rfl
  · obtain ⟨n, rfl, k1, k2⟩ := h
    refine ⟨_, (pss_cons (ps_if (PW.pt (pw_or (pt_cmpR op_lt (pv 0) pe_int (nomark _)) (pw_or1 (pt_cmpR op_gt (pv 0) (pe_glob (v := .int 9) rfl T.g_MOST_KEEPERS.choose_spec ⟨_, rfl⟩) (nomark _))))) (pss_one (ps_raise rfl (takes_of rfl rfl rfl rfl) (pmk_own PySem.F.excBase_ValueError T.x_BadCount T.g_BadCount T.k_BadCount (raises_own T.b_BadCount T.t_BadCount) rfl))) pss_nil)
  (pss_one (ps_ret (pe_callTy (r := rTup K) cl_tup rfl T.n_tuple (by decide +kernel) (pa_cons (pe_lc (own := [("keeper", 1)]) rfl sc_blank.nd (pi_range1 rfl T.n_range (pa_cons (pv 0) pa_nil)) (blkOk_by (own := [("keeper", 1)]) (N := N_blank) (sc := defScope s_blank) (by decide +kernel)) (fun _ _ _ _ _ => (pg_name (i := 1) sc_blank.nd rfl (by first | exact Or.inl rfl | exact Or.inr rfl))) (fun _ _ _ _ _ => pts_nil) (fun _ _ _ _ _ => pe_int)) pa_nil))))), ?_⟩
    have no : n < 1 ∨ 9 < n → ¬ (1 ≤ n ∧ n ≤ 9) := by omega
    walk_at "w"
    refine ite2 (fun h1 => ?_) (fun h1 => ?_)
    · refine iteT ?_
      exact k2 (no (.inl (of_decide_eq_true h1)))
    · walk_at "w"
      refine ite2 (fun h2 => ?_) (fun h2 => ?_)
      · exact k2 (no (.inr (of_decide_eq_true h2)))
      · have h3 : 1 ≤ n ∧ n ≤ 9 := by
          have a1 : ¬ n < 1 := fun z => h1 (decide_eq_true z)
          have a2 : ¬ 9 < n := fun z => h2 (decide_eq_true z)
          omega
        walk_at "w"
        refine ⟨n, rfl, by omega, by omega, ?_⟩
        refine lcR n.toNat (fun _ => some (.int 0)) (fun _ => False) (fun _ _ z => z) (sz_small (by omega)) (fun i H2 M' Yes No hi s ex fr yes no => ?_) (fun D H' hD s r => ?_)
        · refine w_it0 rfl ?_
          exact yes _ H2 _ rfl (Same.refl _) (.int 0)
        · refine w_tupleL r fun v H2 s2 r2 => ?_
          refine k1 h3 v H2 (Same.trans s s2) fun M => ?_
          have e : (List.range n.toNat).filterMap (fun _ => some (PyData.int 0)) = (List.replicate n.toNat (0 : Int)).map PyData.int := by
            rw [List.map_replicate, List.filterMap_eq_map', List.map_const', List.length_range]
          rw [e] at r2
          exact Rp.mark r2
end
end Sb

namespace Sb
open PySem L2
/-! ### marks -/
def sp_need_alike (a : Ad) : Sp := fun vs H Q E => ∃ (M : Addr → Prop) (x y : V) (m n : List Int), vs = [x, y] ∧ Rp M H x (markD m) ∧ Rp M H y (markD n) ∧ (m.length = n.length → Q .non H) ∧ (m.length ≠ n.length → E (.ref a.C_BadMark) none H)
def sp_joined (a : Ad) : Sp := fun vs H Q E => ∃ (M : Addr → Prop) (x y : V) (m n : List Int), vs = [x, y] ∧ Rp M H x (markD m) ∧ Rp M H y (markD n) ∧ m.length ≤ 1000 ∧
  (m.length = n.length → ∀ v H', Same H H' → (∀ M, Rp M H' v (markD (joinM m n))) → Q v H') ∧ (m.length ≠ n.length → E (.ref a.C_BadMark) none H)
def sp_has_seen : Sp := fun vs H Q _ => ∃ (M : Addr → Prop) (x : V) (m : List Int) (k : Nat) (n : Int), vs = [x, .int k, .int n] ∧ Rp M H x (markD m) ∧ k < m.length ∧ Q (.bl (decide (n ≤ m.getD k 0))) H
section
variable {P : Program} {w : World} {K : Frag} {mg : Str → Option Value} {base : Heap} {a : Ad}
local macro_rules | `(tactic| walk_at "e1") => `(tactic| first
  | ((with_reducible refine' w_var ?wh ?_); (case wh => rfl))
  | with_reducible refine w_c ?_
  | with_reducible refine w_projn ?_
  | with_reducible refine w_projr ?_
  | with_reducible refine w_op ?_
  | with_reducible refine w_cons ?_
  | with_reducible refine w_nil ?_
  | with_reducible refine w_I0 ?_
  | ((with_reducible refine w_I ?wc ?_); (case wc => first | (show (0 : Int) < _; decide) | exact ⟨by decide, by decide⟩ | exact ⟨by decide, by decide, by decide⟩ | exact Or.inr ⟨by decide, by decide⟩ | exact Or.inl ⟨by decide, by decide⟩ | (show (0 : Int) < _; omega) | exact ⟨by omega, by omega⟩))
  | with_reducible refine w_bl ?_
  | with_reducible refine w_test ?_
  | with_reducible refine w_tB ?_
  | with_reducible refine w_set ?_
  | with_reducible refine w_ifS ?_
  | with_reducible refine w_if ?_
  | with_reducible refine w_or ?_
  | with_reducible refine w_and ?_
  | with_reducible refine w_not ?_
  | with_reducible refine w_orV ?_
  | with_reducible refine w_andV ?_
  | with_reducible refine w_notV ?_
  | with_reducible refine w_ret ?_
  | with_reducible refine w_retN ?_
  | with_reducible refine w_drop ?_
  | with_reducible refine w_next ?_
  | with_reducible refine w_un ?_
  | with_reducible refine w_CB ?_
  | with_reducible refine w_call ?_
  | with_reducible refine w_callS ?_
  | with_reducible refine w_gName ?_
  | with_reducible refine w_asg ?_
  | with_reducible refine w_tTup ?_
  | with_reducible refine w_tLst ?_
  | with_reducible refine w_lc ?_
  | with_reducible refine w_iRng1 ?_
  | with_reducible refine w_iRng2 ?_
  | with_reducible refine w_iList ?_
  | with_reducible refine w_iTup ?_
  | with_reducible refine w_for ?_
  | with_reducible refine w_chain ?_
  | with_reducible refine w_sl ?_
  | with_reducible refine w_part ?_
  | with_reducible refine w_nopart ?_
  | with_reducible refine w_exint ?_
  | with_reducible refine w_dput ?_
  | with_reducible refine w_gSub ?_
  | with_reducible refine w_sFld ?_
  | with_reducible refine w_dget2 ?_
  | with_reducible refine w_dget ?_
  | with_reducible refine w_bm ?_
  | with_reducible refine w_isiII ?_
  | with_reducible refine w_isiIB ?_
  | with_reducible refine w_isiBB ?_
  | with_reducible refine w_max ?_
  | ((with_reducible refine w_eq ?we ?_); (case we => rfl))
  | ((with_reducible refine w_ne ?we ?_); (case we => rfl)))
local macro_rules | `(tactic| walk_at "w1") => `(tactic| first | walk_at "e1" | with_reducible refine w_seq ?_)
local macro_rules | `(tactic| walk_at "e") => `(tactic| repeat walk_at "e1")
local macro_rules | `(tactic| walk_at "w") => `(tactic| repeat walk_at "w1")

theorem ok_need_alike (T : Txt K mg a) : FnOk P w K mg base (L2.CX P w) 1 a.f_need_alike a.d_need_alike ["one", "other"] (sp_need_alike a) := by
  refine T.F_need_alike.okX sc_need_alike (fun vs H Q E h => ?_) (fun cdv A outer s H vs Q E hr h => ?_)
  · obtain ⟨M, x, y, m, n, rfl, _⟩ := h; rfl
  · obtain ⟨M, x, y, m, n, rfl, hx, hy, k1, k2⟩ := h
    refine ⟨_, (pss_one (ps_if (pt_cmpR op_ne (pe_callB (r := rLen K) cl_len rfl T.n_len (by decide +kernel) (pa_cons (pv 0) pa_nil)) (pe_callB (r := rLen K) cl_len rfl T.n_len (by decide +kernel) (pa_cons (pv 1) pa_nil)) (nomark _)) (pss_one (ps_raise rfl (takes_of rfl rfl rfl rfl) (pmk_own PySem.F.excBase_ValueError T.x_BadMark T.g_BadMark T.k_BadMark (raises_own T.b_BadMark T.t_BadMark) rfl))) pss_nil)), ?_⟩
    walk_at "w"
    refine w_lenM hx ?_
    walk_at "w"
    refine w_lenM hy ?_
    walk_at "w"
    refine ite2 (fun h1 => ?_) (fun h1 => ?_)
    · exact k2 fun z => by simp [z] at h1
    · exact k1 (by simp at h1; omega)
theorem ok_joined (T : Txt K mg a) : FnOk P w K mg base (L2.CX P w) 2 a.f_joined a.d_joined ["one", "other"] (sp_joined a) := by
  refine T.F_joined.okX sc_joined (fun vs H Q E h => ?_) (fun cdv A outer s H vs Q E hr h => ?_)
  · obtain ⟨M, x, y, m, n, rfl, _⟩ := h; rfl
  · obtain ⟨M, x, y, m, n, rfl, hx, hy, hl, k1, k2⟩ := h
    refine ⟨_, (pss_cons (ps_expr (pe_call (ok_need_alike T) (hr.mono (by decide)) rfl T.g_need_alike T.k_need_alike T.b_need_alike .nil (passes_call (takes_of rfl rfl rfl rfl) (fun _ _ _ _ h => h)) (pa_cons (pv 0) (pa_cons (pv 1) pa_nil))))
  (pss_one (ps_ret (pe_callTy (r := rTup K) cl_tup rfl T.n_tuple (by decide +kernel) (pa_cons (pe_lc (own := [("keeper", 2)]) rfl sc_joined.nd (pi_range1 rfl T.n_range (pa_cons (pe_callB (r := rLen K) cl_len rfl T.n_len (by decide +kernel) (pa_cons (pv 0) pa_nil)) pa_nil)) (blkOk_by (own := [("keeper", 2)]) (N := N_joined) (sc := defScope s_joined) (by decide +kernel)) (fun _ _ _ _ _ => (pg_name (i := 2) sc_joined.nd rfl (by first | exact Or.inl rfl | exact Or.inr rfl))) (fun _ _ _ _ _ => pts_nil) (fun _ _ _ _ _ => (pe_callB (cl_max rfl) rfl T.n_max (by decide +kernel) (pa_cons (pe_ix (r := rIxT K) ix_tup (pv 0) (pv 2) (fun _ _ => rfl)) (pa_cons (pe_ix (r := rIxT K) ix_tup (pv 1) (pv 2) (fun _ _ => rfl)) pa_nil))))) pa_nil))))), ?_⟩
    walk_at "w"
    refine ⟨M, x, y, m, n, rfl, hx, hy, fun e => ?_, fun e => k2 e⟩
    walk_at "w"
    refine w_lenM hx ?_
    refine ⟨_, rfl, by omega, by omega, ?_⟩
    refine lcR _ (fun i => some (.int (max (m.getD i 0) (n.getD i 0)))) (fun _ => False) (fun _ _ z => z) (sz_small (by omega)) (fun i H2 M' Yes No hi s ex fr yes no => ?_) (fun D H' hD s r => ?_)
    · have hi : i < m.length := hi
      refine w_it0 rfl ?_
      walk_at "w"
      refine w_ixM i (hx.same s) (by omega) hi ?_
      walk_at "w"
      refine w_ixM i (hy.same s) (by omega) (by omega) ?_
      walk_at "w"
      exact yes _ H2 _ rfl (Same.refl _) (.int _)
    · refine w_tupleL r fun v H2 s2 r2 => ?_
      refine k1 e v H2 (Same.trans s s2) fun M => ?_
      rw [fm_join e] at r2
      exact Rp.mark r2
theorem ok_has_seen (T : Txt K mg a) : FnOk P w K mg base (L2.CX P w) 1 a.f_has_seen a.d_has_seen ["mark", "keeper", "number"] sp_has_seen := by
  refine T.F_has_seen.okX sc_has_seen (fun vs H Q E h => ?_) (fun cdv A outer s H vs Q E hr h => ?_)
  · obtain ⟨M, x, m, k, n, rfl, _⟩ := h; rfl
  · obtain ⟨M, x, m, k, n, rfl, hx, hk, q⟩ := h
    refine ⟨_, (pss_one (ps_ret (pe_cmpR op_le (pv 2) (pe_ix (r := rIxT K) ix_tup (pv 0) (pv 1) (fun _ _ => rfl)) (nomark _)))), ?_⟩
    walk_at "w"
    refine w_ixM k hx rfl hk ?_
    walk_at "w"
    exact q
end
end Sb

namespace Sb
open PySem L2 PyProof.Rows
def sp_unseen : Sp := fun vs H Q _ => ∃ (M : Addr → Prop) (x y : V) (rs : List Row) (m : List Int), vs = [x, y] ∧ Fr M H ∧ Rp M H x (rowsD rs) ∧ Rp M H y (markD m) ∧ Rin m.length rs ∧ rs.length ≤ 10000 ∧
  ∀ p H', H p = none → Same H H' → Rp M H' (.ref p) (rowsD (unseen rs m)) → Q (.ref p) H'
section
variable {P : Program} {w : World} {K : Frag} {mg : Str → Option Value} {base : Heap} {a : Ad}
local macro_rules | `(tactic| walk_at "e1") => `(tactic| first
  | ((with_reducible refine' w_var ?wh ?_); (case wh => rfl))
  | with_reducible refine w_c ?_
  | with_reducible refine w_projn ?_
  | with_reducible refine w_projr ?_
  | with_reducible refine w_op ?_
  | with_reducible refine w_cons ?_
  | with_reducible refine w_nil ?_
  | with_reducible refine w_I0 ?_
  | ((with_reducible refine w_I ?wc ?_); (case wc => first | (show (0 : Int) < _; decide) | exact ⟨by decide, by decide⟩ | exact ⟨by decide, by decide, by decide⟩ | exact Or.inr ⟨by decide, by decide⟩ | exact Or.inl ⟨by decide, by decide⟩ | (show (0 : Int) < _; omega) | exact ⟨by omega, by omega⟩))
  | with_reducible refine w_bl ?_
  | with_reducible refine w_test ?_
  | with_reducible refine w_tB ?_
  | with_reducible refine w_set ?_
  | with_reducible refine w_ifS ?_
  | with_reducible refine w_if ?_
  | with_reducible refine w_or ?_
  | with_reducible refine w_and ?_
  | with_reducible refine w_not ?_
  | with_reducible refine w_orV ?_
  | with_reducible refine w_andV ?_
  | with_reducible refine w_notV ?_
  | with_reducible refine w_ret ?_
  | with_reducible refine w_retN ?_
  | with_reducible refine w_drop ?_
  | with_reducible refine w_next ?_
  | with_reducible refine w_un ?_
  | with_reducible refine w_CB ?_
  | with_reducible refine w_call ?_
  | with_reducible refine w_callS ?_
  | with_reducible refine w_gName ?_
  | with_reducible refine w_asg ?_
  | with_reducible refine w_tTup ?_
  | with_reducible refine w_tLst ?_
  | with_reducible refine w_lc ?_
  | with_reducible refine w_iRng1 ?_
  | with_reducible refine w_iRng2 ?_
  | with_reducible refine w_iList ?_
  | with_reducible refine w_iTup ?_
  | with_reducible refine w_for ?_
  | with_reducible refine w_chain ?_
  | with_reducible refine w_sl ?_
  | with_reducible refine w_part ?_
  | with_reducible refine w_nopart ?_
  | with_reducible refine w_exint ?_
  | with_reducible refine w_dput ?_
  | with_reducible refine w_gSub ?_
  | with_reducible refine w_sFld ?_
  | with_reducible refine w_dget2 ?_
  | with_reducible refine w_dget ?_
  | with_reducible refine w_bm ?_
  | with_reducible refine w_isiII ?_
  | with_reducible refine w_isiIB ?_
  | with_reducible refine w_isiBB ?_
  | with_reducible refine w_max ?_
  | ((with_reducible refine w_eq ?we ?_); (case we => rfl))
  | ((with_reducible refine w_ne ?we ?_); (case we => rfl)))
local macro_rules | `(tactic| walk_at "w1") => `(tactic| first | walk_at "e1" | with_reducible refine w_seq ?_)
local macro_rules | `(tactic| walk_at "e") => `(tactic| repeat walk_at "e1")
local macro_rules | `(tactic| walk_at "w") => `(tactic| repeat walk_at "w1")

theorem ok_unseen (T : Txt K mg a) : FnOk P w K mg base (L2.CX P w) 2 a.f_unseen a.d_unseen ["rows", "mark"] sp_unseen := by
  refine T.F_unseen.okX sc_unseen (fun vs H Q E h => ?_) (fun cdv A outer s H vs Q E hr h => ?_)
  · obtain ⟨M, x, y, rs, m, rfl, _⟩ := h; rfl
  · obtain ⟨M, x, y, rs, m, rfl, fr, hx, hy, hin, hl, q⟩ := h
    refine ⟨_, (pss_one (ps_ret (pe_lc (own := [("row", 2)]) rfl sc_unseen.nd (pi_list (pv 0)) (blkOk_by (own := [("row", 2)]) (N := N_unseen) (sc := defScope s_unseen) (by decide +kernel)) (fun _ _ _ _ _ => (pg_name (i := 2) sc_unseen.nd rfl (by first | exact Or.inl rfl | exact Or.inr rfl))) (fun _ _ _ _ _ => (pts_one (pt_not (pt_val (pe_call (ok_has_seen T) (hr.mono (by decide)) rfl T.g_has_seen T.k_has_seen T.b_has_seen .nil passL (pa_cons (pv 1) (pa_cons (pe_ix (r := rIxT K) ix_tup (pv 2) pe_int (fun _ _ => rfl)) (pa_cons (pe_ix (r := rIxT K) ix_tup (pv 2) pe_int (fun _ _ => rfl)) pa_nil)))))))) (fun _ _ _ _ _ => (pv 2))))), ?_⟩
    walk_at "w"
    obtain ⟨b, xs, rfl, hb, hxs, ra⟩ := Rp.lst_inv (ds := rs.map rowD) hx
    have hlen : xs.length = rs.length := by rw [ra.1, List.length_map]
    refine ⟨b, rfl, ⟨xs, SqL.of hxs⟩, ?_⟩
    refine lcL rs (fun r => if (!seen m r) = true then some (rowD r) else none) M fr (SqL.of hxs) hlen (sz_small (by omega)) (fun i x r H2 M' Yes No hx hr s ex fr yes no => ?_) (fun D H' hD s r => ?_)
    · have rx : Rp M' H2 x (rowD r) := (ra.2 i x (rowD r) hx (by rw [List.getElem?_map, hr]; rfl)).ext ex
      obtain ⟨k0, k1⟩ := hin r (List.mem_of_getElem? hr)
      refine w_it1 rfl ?_
      walk_at "w"
      refine w_row0 rx ?_
      walk_at "w"
      refine w_row1 rx ?_
      walk_at "w"
      refine ⟨M', _, m, r.1.toNat, r.2.1, by rw [Int.toNat_of_nonneg k0]; rfl, hy.ext ex, by omega, ?_⟩
      walk_at "w"
      by_cases hs : seen m r = true
      · rw [show decide (r.2.1 ≤ m.getD r.1.toNat 0) = true from hs]
        refine iteF ?_
        exact no H2 (by rw [hs]; rfl) (Same.refl _)
      · have hs : seen m r = false := by simpa using hs
        rw [show decide (r.2.1 ≤ m.getD r.1.toNat 0) = false from hs]
        refine iteT ?_
        walk_at "w"
        exact yes _ H2 _ (by rw [hs]; rfl) (Same.refl _) rx
    · rw [fm_filter] at r
      exact q D _ hD s r
end
end Sb

namespace Sb
open PySem L2 PyProof.Rows
def sp_put_on : Sp := fun vs H Q _ => ∃ (M : Addr → Prop) (x y : V) (s : Shelf) (k : Nat) (v : Int) (m : List Int), vs = [x, .int k, .int v, y] ∧ Fr M H ∧ Rp M H x (shelfD s) ∧ Rp M H y (markD m) ∧ s.1.length = m.length ∧ k < m.length ∧ m.length ≤ 9 ∧
  Rin m.length s.2 ∧ s.2.length ≤ 10000 ∧ ∀ v' H', Same H H' → Rp (Old H) H' v' (shelfD (putOn s k v m)) → Q v' H'
section
variable {P : Program} {w : World} {K : Frag} {mg : Str → Option Value} {base : Heap} {a : Ad}
local macro_rules | `(tactic| walk_at "e1") => `(tactic| first
  | ((with_reducible refine' w_var ?wh ?_); (case wh => rfl))
  | with_reducible refine w_c ?_
  | with_reducible refine w_projn ?_
  | with_reducible refine w_projr ?_
  | with_reducible refine w_op ?_
  | with_reducible refine w_cons ?_
  | with_reducible refine w_nil ?_
  | with_reducible refine w_I0 ?_
  | ((with_reducible refine w_I ?wc ?_); (case wc => first | (show (0 : Int) < _; decide) | exact ⟨by decide, by decide⟩ | exact ⟨by decide, by decide, by decide⟩ | exact Or.inr ⟨by decide, by decide⟩ | exact Or.inl ⟨by decide, by decide⟩ | (show (0 : Int) < _; omega) | exact ⟨by omega, by omega⟩))
  | with_reducible refine w_bl ?_
  | with_reducible refine w_test ?_
  | with_reducible refine w_tB ?_
  | with_reducible refine w_set ?_
  | with_reducible refine w_ifS ?_
  | with_reducible refine w_if ?_
  | with_reducible refine w_or ?_
  | with_reducible refine w_and ?_
  | with_reducible refine w_not ?_
  | with_reducible refine w_orV ?_
  | with_reducible refine w_andV ?_
  | with_reducible refine w_notV ?_
  | with_reducible refine w_ret ?_
  | with_reducible refine w_retN ?_
  | with_reducible refine w_drop ?_
  | with_reducible refine w_next ?_
  | with_reducible refine w_un ?_
  | with_reducible refine w_CB ?_
  | with_reducible refine w_call ?_
  | with_reducible refine w_callS ?_
  | with_reducible refine w_gName ?_
  | with_reducible refine w_asg ?_
  | with_reducible refine w_tTup ?_
  | with_reducible refine w_tLst ?_
  | with_reducible refine w_lc ?_
  | with_reducible refine w_iRng1 ?_
  | with_reducible refine w_iRng2 ?_
  | with_reducible refine w_iList ?_
  | with_reducible refine w_iTup ?_
  | with_reducible refine w_for ?_
  | with_reducible refine w_chain ?_
  | with_reducible refine w_sl ?_
  | with_reducible refine w_part ?_
  | with_reducible refine w_nopart ?_
  | with_reducible refine w_exint ?_
  | with_reducible refine w_dput ?_
  | with_reducible refine w_gSub ?_
  | with_reducible refine w_sFld ?_
  | with_reducible refine w_dget2 ?_
  | with_reducible refine w_dget ?_
  | with_reducible refine w_bm ?_
  | with_reducible refine w_isiII ?_
  | with_reducible refine w_isiIB ?_
  | with_reducible refine w_isiBB ?_
  | with_reducible refine w_max ?_
  | ((with_reducible refine w_eq ?we ?_); (case we => rfl))
  | ((with_reducible refine w_ne ?we ?_); (case we => rfl)))
local macro_rules | `(tactic| walk_at "w1") => `(tactic| first | walk_at "e1" | with_reducible refine w_seq ?_)
local macro_rules | `(tactic| walk_at "e") => `(tactic| repeat walk_at "e1")
local macro_rules | `(tactic| walk_at "w") => `(tactic| repeat walk_at "w1")

theorem ok_put_on (T : Txt K mg a) : FnOk P w K mg base (L2.CX P w) 3 a.f_put_on a.d_put_on ["shelf", "keeper", "value", "mark"] sp_put_on := by
  refine T.F_put_on.okX sc_put_on (fun vs H Q E h => ?_) (fun cdv A outer s H vs Q E hr h => ?_)
  · obtain ⟨M, x, y, s, k, v, m, rfl, _⟩ := h; rfl
  · obtain ⟨M, x, y, s, k, v, m, rfl, fr, hx, hy, hlm, hk, hl9, hin, hl, q⟩ := h
    refine ⟨_, (pss_cons (ps_set (i := 4) sc_put_on.nd rfl (Or.inl rfl) (pe_op op_add (pe_ix (r := rIxT K) ix_tup (pe_ix (r := rIxT K) ix_tup (pv 0) pe_int (fun _ _ => rfl)) (pv 1) (fun _ _ => rfl)) pe_int))
  (pss_cons (ps_set (i := 5) sc_put_on.nd rfl (Or.inl rfl) (pe_op op_cat (pe_call (ok_unseen T) (hr.mono (by decide)) rfl T.g_unseen T.k_unseen T.b_unseen .nil passL (pa_cons (pe_ix (r := rIxT K) ix_tup (pv 0) pe_int (fun _ _ => rfl)) (pa_cons (pv 3) pa_nil))) (pe_lst (pa_cons (pe_tup (pa_cons (pv 1) (pa_cons (pv 4) (pa_cons (pv 2) pa_nil)))) pa_nil))))
  (pss_cons (ps_set (i := 6) sc_put_on.nd rfl (Or.inl rfl) (pe_callTy (r := rLst K) cl_lst rfl T.n_list (by decide +kernel) (pa_cons (pe_call (ok_joined T) (hr.mono (by decide)) rfl T.g_joined T.k_joined T.b_joined .nil passL (pa_cons (pe_ix (r := rIxT K) ix_tup (pv 0) pe_int (fun _ _ => rfl)) (pa_cons (pv 3) pa_nil))) pa_nil)))
  (pss_cons (ps_asg (pv 4) (pg_sub (pv 6) (pv 1) set_list))
  (pss_one (ps_ret (pe_tup (pa_cons (pe_callTy (r := rTup K) cl_tup rfl T.n_tuple (by decide +kernel) (pa_cons (pv 6) pa_nil)) (pa_cons (pe_callB (r := rSortedT K) cr_sortedT rfl T.n_sorted (by decide +kernel) (pa_cons (pv 5) pa_nil)) pa_nil))))))))), ?_⟩
    walk_at "w"
    refine w_shelf0 hx fun v0 r0 => ?_
    walk_at "w"
    refine w_ixM k r0 rfl (by omega) ?_
    walk_at "w"
    refine w_shelf1 hx fun v1 r1 => ?_
    walk_at "w"
    refine ⟨M, _, _, _, _, rfl, fr, r1, hy, hin, hl, fun p2 H2 n2 s2 r2 => ?_⟩
    have fr2 := fr.same s2
    walk_at "w"
    -- [(keeper, number, value)]
    refine w_newT (M := M) (ds := (rowL ((k : Int), s.1.getD k 0 + 1, v)).map PyData.int) (RpA.ints (ns := rowL ((k : Int), s.1.getD k 0 + 1, v))) (by show 3 ≤ sizeLine; decide) fun v3 H3 s3 r3 => ?_
    have r3 : Rp M H3 v3 (rowD ((k : Int), s.1.getD k 0 + 1, v)) := r3
    walk_at "w"
    refine ⟨by show 1 ≤ sizeLine; decide, fun p4 n4 => ?_⟩
    obtain ⟨_, xs, e, m2, hxs, ra⟩ := Rp.lst_inv (ds := (unseen s.2 m).map rowD) (r2.same s3)
    cases e
    have h24 : p2 ≠ p4 := ne_of_none hxs n4
    have hfew : xs.length ≤ 10000 := by
      have := List.length_filter_le (fun r => !seen m r) s.2
      rw [ra.1, List.length_map]
      unfold unseen
      omega
    refine ⟨p2, p4, xs, [v3], rfl, rfl, by rw [upd_ne h24]; exact hxs, upd_same, sz_small (by show xs.length + 1 ≤ 100000; omega), fun p5 n5 => ?_⟩
    have s5 : Same H3 (upd (upd H3 p4 (.lst [v3])) p5 (.lst (xs ++ [v3]))) := Same.trans (Same.new n4) (Same.new n5)
    have fr5 : Fr M (upd H3 p4 (.lst [v3])) := (fr2.same s3).same (Same.new n4)
    have r5 : Rp M (upd (upd H3 p4 (.lst [v3])) p5 (.lst (xs ++ [v3]))) (.ref p5) (rowsD (unseen s.2 m ++ [((k : Int), s.1.getD k 0 + 1, v)])) := by
      refine .lstA (fr5 p5 n5) upd_same ?_
      rw [List.map_append]
      exact (ra.same s5).snoc (r3.same s5)
    generalize upd (upd H3 p4 (.lst [v3])) p5 (.lst (xs ++ [v3])) = H5 at s5 r5
    have s35 := Same.trans s2 (Same.trans s3 s5)
    walk_at "w"
    -- list(joined(..))
    refine w_shelf0 (hx.same s35) fun v6 r6 => ?_
    walk_at "w"
    refine ⟨M, _, _, _, _, rfl, r6, hy.same s35, by omega, fun _ v7 H7 s7 r7 => ?_, fun z => absurd hlm z⟩
    walk_at "w"
    obtain ⟨p7, ys, rfl, h7, ry⟩ := Rp.tup_inv (ds := (joinM s.1 m).map PyData.int) (r7 M)
    have ey := ry.ints_inv
    refine ⟨p7, ys, rfl, .inr (SqT.of h7), fun p8 n8 => ?_⟩
    walk_at "w"
    have hjl : (joinM s.1 m).length = s.1.length := joinM_len hlm
    refine ⟨p8, ys, k, k, rfl, rfl, upd_same, ixN_nat rfl (by rw [ey, List.length_map]; omega), ?_⟩
    have s8 : Same H7 (upd (upd H7 p8 (.lst ys)) p8 (.lst (ys.set k (.int (s.1.getD k 0 + 1))))) := Same.mut (Same.new n8) n8
    have h8 : upd (upd H7 p8 (.lst ys)) p8 (.lst (ys.set k (.int (s.1.getD k 0 + 1)))) p8 = some (.lst (((joinM s.1 m).set k (s.1.getD k 0 + 1)).map V.int)) := by
      rw [upd_same, ey, List.map_set]
    generalize upd (upd H7 p8 (.lst ys)) p8 (.lst (ys.set k (.int (s.1.getD k 0 + 1)))) = H8 at s8 h8
    have s78 := Same.trans s7 s8
    walk_at "w"
    refine w_tupleL (M := fun _ => False) (ds := ((joinM s.1 m).set k (s.1.getD k 0 + 1)).map PyData.int) (.lstA (fun z => z) h8 RpA.ints) fun v9 H9 s9 r9 => ?_
    walk_at "w"
    have r5 := (r5.same s78).same s9
    have s59 := Same.trans s35 (Same.trans s78 s9)
    refine w_sortR (fr.same s59) r5 fun p10 H10 n10 s10 r10 => ?_
    walk_at "w"
    have hpair : RpA (Old H) H10 [v9, .ref p10] [markD (putOn s k v m).1, rowsD (putOn s k v m).2] :=
      Rp.shelf (s := putOn s k v m) (Rp.mark (r9.same s10)) (r10.rows_at fun z => z (s59.free n10))
    refine w_newT hpair (by show 2 ≤ sizeLine; decide) fun v11 H11 s11 r11 => ?_
    exact q v11 H11 (Same.trans s59 (Same.trans s10 s11)) r11
end
end Sb

namespace Sb
open PySem L2 PyProof.Rows
def sp_dropped : Sp := fun vs H Q _ => ∃ (M : Addr → Prop) (x y : V) (s : Shelf) (m : List Int), vs = [x, y] ∧ Fr M H ∧ Rp M H x (shelfD s) ∧ Rp M H y (markD m) ∧ s.1.length = m.length ∧ m.length ≤ 9 ∧ Rin m.length s.2 ∧ s.2.length ≤ 10000 ∧
  ∀ v H', Same H H' → Rp (Old H) H' v (shelfD (droppedS s m)) → Q v H'
section
variable {P : Program} {w : World} {K : Frag} {mg : Str → Option Value} {base : Heap} {a : Ad}
local macro_rules | `(tactic| walk_at "e1") => `(tactic| first
  | ((with_reducible refine' w_var ?wh ?_); (case wh => rfl))
  | with_reducible refine w_c ?_
  | with_reducible refine w_projn ?_
  | with_reducible refine w_projr ?_
  | with_reducible refine w_op ?_
  | with_reducible refine w_cons ?_
  | with_reducible refine w_nil ?_
  | with_reducible refine w_I0 ?_
  | ((with_reducible refine w_I ?wc ?_); (case wc => first | (show (0 : Int) < _; decide) | exact ⟨by decide, by decide⟩ | exact ⟨by decide, by decide, by decide⟩ | exact Or.inr ⟨by decide, by decide⟩ | exact Or.inl ⟨by decide, by decide⟩ | (show (0 : Int) < _; omega) | exact ⟨by omega, by omega⟩))
  | with_reducible refine w_bl ?_
  | with_reducible refine w_test ?_
  | with_reducible refine w_tB ?_
  | with_reducible refine w_set ?_
  | with_reducible refine w_ifS ?_
  | with_reducible refine w_if ?_
  | with_reducible refine w_or ?_
  | with_reducible refine w_and ?_
  | with_reducible refine w_not ?_
  | with_reducible refine w_orV ?_
  | with_reducible refine w_andV ?_
  | with_reducible refine w_notV ?_
  | with_reducible refine w_ret ?_
  | with_reducible refine w_retN ?_
  | with_reducible refine w_drop ?_
  | with_reducible refine w_next ?_
  | with_reducible refine w_un ?_
  | with_reducible refine w_CB ?_
  | with_reducible refine w_call ?_
  | with_reducible refine w_callS ?_
  | with_reducible refine w_gName ?_
  | with_reducible refine w_asg ?_
  | with_reducible refine w_tTup ?_
  | with_reducible refine w_tLst ?_
  | with_reducible refine w_lc ?_
  | with_reducible refine w_iRng1 ?_
  | with_reducible refine w_iRng2 ?_
  | with_reducible refine w_iList ?_
  | with_reducible refine w_iTup ?_
  | with_reducible refine w_for ?_
  | with_reducible refine w_chain ?_
  | with_reducible refine w_sl ?_
  | with_reducible refine w_part ?_
  | with_reducible refine w_nopart ?_
  | with_reducible refine w_exint ?_
  | with_reducible refine w_dput ?_
  | with_reducible refine w_gSub ?_
  | with_reducible refine w_sFld ?_
  | with_reducible refine w_dget2 ?_
  | with_reducible refine w_dget ?_
  | with_reducible refine w_bm ?_
  | with_reducible refine w_isiII ?_
  | with_reducible refine w_isiIB ?_
  | with_reducible refine w_isiBB ?_
  | with_reducible refine w_max ?_
  | ((with_reducible refine w_eq ?we ?_); (case we => rfl))
  | ((with_reducible refine w_ne ?we ?_); (case we => rfl)))
local macro_rules | `(tactic| walk_at "w1") => `(tactic| first | walk_at "e1" | with_reducible refine w_seq ?_)
local macro_rules | `(tactic| walk_at "e") => `(tactic| repeat walk_at "e1")
local macro_rules | `(tactic| walk_at "w") => `(tactic| repeat walk_at "w1")

theorem ok_dropped (T : Txt K mg a) : FnOk P w K mg base (L2.CX P w) 3 a.f_dropped a.d_dropped ["shelf", "mark"] sp_dropped := by
  refine T.F_dropped.okX sc_dropped (fun vs H Q E h => ?_) (fun cdv A outer s H vs Q E hr h => ?_)
  · obtain ⟨M, x, y, s, m, rfl, _⟩ := h; rfl
  · obtain ⟨M, x, y, s, m, rfl, fr, hx, hy, hlm, hl9, hin, hl, q⟩ := h
    refine ⟨_, (pss_one (ps_ret (pe_tup (pa_cons (pe_call (ok_joined T) (hr.mono (by decide)) rfl T.g_joined T.k_joined T.b_joined .nil passL (pa_cons (pe_ix (r := rIxT K) ix_tup (pv 0) pe_int (fun _ _ => rfl)) (pa_cons (pv 1) pa_nil))) (pa_cons (pe_call (ok_unseen T) (hr.mono (by decide)) rfl T.g_unseen T.k_unseen T.b_unseen .nil passL (pa_cons (pe_ix (r := rIxT K) ix_tup (pv 0) pe_int (fun _ _ => rfl)) (pa_cons (pv 1) pa_nil))) pa_nil))))), ?_⟩
    walk_at "w"
    refine w_shelf0 hx fun v0 r0 => ?_
    walk_at "w"
    refine ⟨M, _, _, _, _, rfl, r0, hy, by omega, fun _ v1 H1 s1 r1 => ?_, fun e => absurd hlm e⟩
    walk_at "w"
    refine w_shelf1 (hx.same s1) fun v2 r2 => ?_
    walk_at "w"
    refine ⟨M, _, _, _, _, rfl, fr.same s1, r2, hy.same s1, hin, hl, fun p3 H3 n3 s3 r3 => ?_⟩
    walk_at "w"
    refine w_newT (Rp.shelf (s := droppedS s m) ((r1 (Old H)).same s3) (r3.rows_at fun z => z (s1.free n3))) (by show 2 ≤ sizeLine; decide) fun v4 H4 s4 r4 => ?_
    exact q v4 H4 (Same.trans s1 (Same.trans s3 s4)) r4
end
end Sb

namespace Sb
open PySem L2 PyProof.Rows
def sp_met : Sp := fun vs H Q _ => ∃ (M : Addr → Prop) (n : Nat) (x y : V) (s t : Shelf), vs = [x, y] ∧ Fr M H ∧ Rp M H x (shelfD s) ∧ Rp M H y (shelfD t) ∧ s.1.length = n ∧ t.1.length = n ∧ n ≤ 9 ∧
  Rin n s.2 ∧ Rin n t.2 ∧ s.2.length ≤ 3000 ∧ t.2.length ≤ 3000 ∧ ∀ v' H', Same H H' → Rp (Old H) H' v' (shelfD (metS s t)) → Q v' H'
section
variable {P : Program} {w : World} {K : Frag} {mg : Str → Option Value} {base : Heap} {a : Ad}
local macro_rules | `(tactic| walk_at "e1") => `(tactic| first
  | ((with_reducible refine' w_var ?wh ?_); (case wh => rfl))
  | with_reducible refine w_c ?_
  | with_reducible refine w_projn ?_
  | with_reducible refine w_projr ?_
  | with_reducible refine w_op ?_
  | with_reducible refine w_cons ?_
  | with_reducible refine w_nil ?_
  | with_reducible refine w_I0 ?_
  | ((with_reducible refine w_I ?wc ?_); (case wc => first | (show (0 : Int) < _; decide) | exact ⟨by decide, by decide⟩ | exact ⟨by decide, by decide, by decide⟩ | exact Or.inr ⟨by decide, by decide⟩ | exact Or.inl ⟨by decide, by decide⟩ | (show (0 : Int) < _; omega) | exact ⟨by omega, by omega⟩))
  | with_reducible refine w_bl ?_
  | with_reducible refine w_test ?_
  | with_reducible refine w_tB ?_
  | with_reducible refine w_set ?_
  | with_reducible refine w_ifS ?_
  | with_reducible refine w_if ?_
  | with_reducible refine w_or ?_
  | with_reducible refine w_and ?_
  | with_reducible refine w_not ?_
  | with_reducible refine w_orV ?_
  | with_reducible refine w_andV ?_
  | with_reducible refine w_notV ?_
  | with_reducible refine w_ret ?_
  | with_reducible refine w_retN ?_
  | with_reducible refine w_drop ?_
  | with_reducible refine w_next ?_
  | with_reducible refine w_un ?_
  | with_reducible refine w_CB ?_
  | with_reducible refine w_call ?_
  | with_reducible refine w_callS ?_
  | with_reducible refine w_gName ?_
  | with_reducible refine w_asg ?_
  | with_reducible refine w_tTup ?_
  | with_reducible refine w_tLst ?_
  | with_reducible refine w_lc ?_
  | with_reducible refine w_iRng1 ?_
  | with_reducible refine w_iRng2 ?_
  | with_reducible refine w_iList ?_
  | with_reducible refine w_iTup ?_
  | with_reducible refine w_for ?_
  | with_reducible refine w_chain ?_
  | with_reducible refine w_sl ?_
  | with_reducible refine w_part ?_
  | with_reducible refine w_nopart ?_
  | with_reducible refine w_exint ?_
  | with_reducible refine w_dput ?_
  | with_reducible refine w_gSub ?_
  | with_reducible refine w_sFld ?_
  | with_reducible refine w_dget2 ?_
  | with_reducible refine w_dget ?_
  | with_reducible refine w_bm ?_
  | with_reducible refine w_isiII ?_
  | with_reducible refine w_isiIB ?_
  | with_reducible refine w_isiBB ?_
  | with_reducible refine w_max ?_
  | ((with_reducible refine w_eq ?we ?_); (case we => rfl))
  | ((with_reducible refine w_ne ?we ?_); (case we => rfl)))
local macro_rules | `(tactic| walk_at "w1") => `(tactic| first | walk_at "e1" | with_reducible refine w_seq ?_)
local macro_rules | `(tactic| walk_at "e") => `(tactic| repeat walk_at "e1")
local macro_rules | `(tactic| walk_at "w") => `(tactic| repeat walk_at "w1")

theorem ok_met (T : Txt K mg a) : FnOk P w K mg base (L2.CX P w) 3 a.f_met a.d_met ["one", "other"] sp_met := by
  refine T.F_met.okX sc_met (fun vs H Q E h => ?_) (fun cdv A outer s0 H vs Q E hr h => ?_)
  · obtain ⟨M, n, x, y, s, t, rfl, _⟩ := h; rfl
  · obtain ⟨M, n, x, y, s, t, rfl, fr, hx, hy, hs, ht, hn9, hsi, hti, hsl, htl, q⟩ := h
    have hu65 : (A.deeper (PyProof.Rows.envOfC "met" (defScope s_met) s0.heap.objs.size a.f_met cdv)).units + 65 < cLine := by
      have := hr.un; omega
    have fs := List.length_filter_le (fun r => decide (r ∈ t.2)) s.2
    have fu : (unseen s.2 t.1).length ≤ s.2.length := List.length_filter_le _ _
    have fv : (unseen t.2 s.1).length ≤ t.2.length := List.length_filter_le _ _
    refine ⟨_, (pss_cons (ps_setLc (i := 2) (own := [("row", 3)]) rfl sc_met.nd rfl rfl (sw_true rfl rfl rfl (by decide +kernel)) (pi_list (pe_ix (r := rIxT K) ix_tup (pv 0) pe_int (fun _ _ => rfl))) (blkOk_by (own := [("row", 3)]) (N := N_met) (sc := defScope s_met) (by decide +kernel)) (fun _ _ _ _ _ => (pg_name (i := 3) sc_met.nd rfl (by first | exact Or.inl rfl | exact Or.inr rfl))) (fun _ _ _ _ _ => (pts_one (pt_cmpR (r := rInD K) (op_inD hu65) (pv 3) (pe_ix (r := rIxT K) ix_tup (pv 1) pe_int (fun _ _ => rfl)) (by with_unfolding_all rfl)))) (fun _ _ _ _ _ => (pv 3)))
  (pss_cons (ps_set (i := 2) sc_met.nd rfl (Or.inl rfl) (pe_op op_cat (pe_op op_cat (pv 2) (pe_call (ok_unseen T) (hr.mono (by decide)) rfl T.g_unseen T.k_unseen T.b_unseen .nil passL (pa_cons (pe_ix (r := rIxT K) ix_tup (pv 0) pe_int (fun _ _ => rfl)) (pa_cons (pe_ix (r := rIxT K) ix_tup (pv 1) pe_int (fun _ _ => rfl)) pa_nil)))) (pe_call (ok_unseen T) (hr.mono (by decide)) rfl T.g_unseen T.k_unseen T.b_unseen .nil passL (pa_cons (pe_ix (r := rIxT K) ix_tup (pv 1) pe_int (fun _ _ => rfl)) (pa_cons (pe_ix (r := rIxT K) ix_tup (pv 0) pe_int (fun _ _ => rfl)) pa_nil)))))
  (pss_one (ps_ret (pe_tup (pa_cons (pe_call (ok_joined T) (hr.mono (by decide)) rfl T.g_joined T.k_joined T.b_joined .nil passL (pa_cons (pe_ix (r := rIxT K) ix_tup (pv 0) pe_int (fun _ _ => rfl)) (pa_cons (pe_ix (r := rIxT K) ix_tup (pv 1) pe_int (fun _ _ => rfl)) pa_nil))) (pa_cons (pe_callB (r := rSortedT K) cr_sortedT rfl T.n_sorted (by decide +kernel) (pa_cons (pv 2) pa_nil)) pa_nil))))))), ?_⟩
    walk_at "w"
    refine w_shelf1 hx fun v1 r1 => ?_
    obtain ⟨p1, xs, rfl, _, hxs, ra⟩ := Rp.lst_inv (ds := s.2.map rowD) r1
    have hlen : xs.length = s.2.length := by rw [ra.1, List.length_map]
    refine ⟨p1, rfl, ⟨xs, SqL.of hxs⟩, ?_⟩
    refine lcL s.2 (fun r => if decide (r ∈ t.2) = true then some (rowD r) else none) M fr (SqL.of hxs) hlen (sz_small (by omega)) (fun i x' r H2 M' Yes No hx' hr' s' ex fr' yes no => ?_) (fun D H3 hD s3 r3 => ?_)
    · have rx : Rp M' H2 x' (rowD r) := (ra.2 i x' (rowD r) hx' (by rw [List.getElem?_map, hr']; rfl)).ext ex
      refine w_it1 rfl ?_
      walk_at "w"
      refine w_shelf1 (hy.ext ex) fun v2 r2 => ?_
      refine w_inR rx r2 ?_
      walk_at "w"
      by_cases hm : r ∈ t.2
      · refine iteD hm ?_
        walk_at "w"
        exact yes _ H2 _ (by rw [decide_eq_true hm]; rfl) (Same.refl _) rx
      · refine iteDn hm ?_
        exact no H2 (by rw [decide_eq_false hm]; rfl) (Same.refl _)
    rw [fm_filter] at r3
    have fr3 := fr.same s3
    have hx3 := hx.same s3
    have hy3 := hy.same s3
    walk_at "w"
    refine w_shelf1 hx3 fun v4 r4 => ?_
    walk_at "w"
    refine w_shelf0 hy3 fun v5 r5 => ?_
    walk_at "w"
    refine ⟨M, _, _, _, _, rfl, fr3, r4, r5, by rw [ht]; exact hsi, by omega, fun p6 H6 n6 s6 r6 => ?_⟩
    -- rows + unseen(..)
    obtain ⟨_, ys, e, _, hys, ry⟩ := Rp.lst_inv (ds := (s.2.filter fun r => decide (r ∈ t.2)).map rowD) (r3.same s6)
    cases e
    obtain ⟨_, zs, e, _, hzs, rz⟩ := Rp.lst_inv (ds := (unseen s.2 t.1).map rowD) r6
    cases e
    have ly : ys.length = (s.2.filter fun r => decide (r ∈ t.2)).length := by rw [ry.1, List.length_map]
    have lz : zs.length = (unseen s.2 t.1).length := by rw [rz.1, List.length_map]
    refine ⟨_, _, ys, zs, rfl, rfl, hys, hzs, sz_small (by omega), fun p7 n7 => ?_⟩
    have s7 : Same H6 (upd H6 p7 (.lst (ys ++ zs))) := Same.new n7
    have r7 : RpA M (upd H6 p7 (.lst (ys ++ zs))) (ys ++ zs) ((s.2.filter (fun r => decide (r ∈ t.2)) ++ unseen s.2 t.1).map rowD) := by
      rw [List.map_append]
      exact (ry.same s7).append (rz.same s7)
    have h7 : upd H6 p7 (.lst (ys ++ zs)) p7 = some (.lst (ys ++ zs)) := upd_same
    generalize upd H6 p7 (.lst (ys ++ zs)) = H7 at s7 r7 h7
    have s37 := Same.trans s6 s7
    walk_at "w"
    refine w_shelf1 (hy3.same s37) fun v8 r8 => ?_
    walk_at "w"
    refine w_shelf0 (hx3.same s37) fun v9 r9 => ?_
    walk_at "w"
    refine ⟨M, _, _, _, _, rfl, fr3.same s37, r8, r9, by rw [hs]; exact hti, by omega, fun p10 H10 n10 s10 r10 => ?_⟩
    obtain ⟨_, ws, e, _, hws, rw'⟩ := Rp.lst_inv (ds := (unseen t.2 s.1).map rowD) r10
    cases e
    have lw : ws.length = (unseen t.2 s.1).length := by rw [rw'.1, List.length_map]
    refine ⟨_, _, ys ++ zs, ws, rfl, rfl, s10 _ _ h7, hws, sz_small (by rw [List.length_append]; omega), fun p11 n11 => ?_⟩
    have s11 : Same H10 (upd H10 p11 (.lst (ys ++ zs ++ ws))) := Same.new n11
    have s3t := Same.trans s37 (Same.trans s10 s11)
    have r11 : Rp M (upd H10 p11 (.lst (ys ++ zs ++ ws))) (.ref p11) (rowsD (metRows s t)) := by
      refine .lstA ((fr3.same (Same.trans s37 s10)) p11 n11) upd_same ?_
      unfold metRows
      rw [List.map_append]
      exact ((r7.same s10).same s11).append (rw'.same s11)
    generalize upd H10 p11 (.lst (ys ++ zs ++ ws)) = H11 at s3t r11
    walk_at "w"
    refine w_shelf0 (hx3.same s3t) fun v12 r12 => ?_
    walk_at "w"
    refine w_shelf0 (hy3.same s3t) fun v13 r13 => ?_
    walk_at "w"
    refine ⟨M, _, _, _, _, rfl, r12, r13, by omega, fun _ v14 H14 s14 r14 => ?_, fun z => absurd (by omega) z⟩
    walk_at "w"
    refine w_sortR ((fr3.same s3t).same s14) (r11.same s14) fun p15 H15 n15 s15 r15 => ?_
    have sall := Same.trans s3 (Same.trans s3t s14)
    walk_at "w"
    have hpair : RpA (Old H) H15 [v14, .ref p15] [markD (metS s t).1, rowsD (metS s t).2] :=
      Rp.shelf (s := metS s t) (Rp.mark ((r14 M).same s15)) (r15.rows_at fun z => z (sall.free n15))
    refine w_newT hpair (by show 2 ≤ sizeLine; decide) fun v16 H16 s16 r16 => ?_
    exact q v16 H16 (Same.trans sall (Same.trans s15 s16)) r16
end
end Sb

namespace Sb
open PySem L2 PyProof.Rows
def sp_S_init (a : Ad) : Sp := fun vs H Q E => ∃ (p dx : Addr) (n : Int), vs = [.ref p, .int n] ∧ H p = some (.ins a.C dx []) ∧
  (1 ≤ n ∧ n ≤ 9 → ∀ ds H', But p H H' → StoreAt (Old H) H' a.C (.ref p) ds n.toNat (List.replicate n.toNat []) → (∀ d ∈ ds, H d = none) → Q .non H') ∧ (¬ (1 ≤ n ∧ n ≤ 9) → E (.ref a.C_BadCount) none H)
def sp_S_need_keeper (a : Ad) : Sp := fun vs H Q E => ∃ (M : Addr → Prop) (ds : List Addr) (n : Nat) (st : Kept) (v : V) (k : Int), vs = [v, .int k] ∧ StoreAt M H a.C v ds n st ∧ n ≤ 9 ∧
  (0 ≤ k ∧ k < n → Q .non H) ∧ (¬ (0 ≤ k ∧ k < n) → E (.ref a.C_NoKeeper) none H)
def sp_S_shelf (a : Ad) : Sp := fun vs H Q E => ∃ (M : Addr → Prop) (ds : List Addr) (n : Nat) (st : Kept) (v : V) (k : Int) (key : Str), vs = [v, .int k, .str key] ∧ Fr M H ∧ StoreAt M H a.C v ds n st ∧ n ≤ 9 ∧
  (∀ (kk : Nat) (kv : KV1), k = kk → kk < n → st[kk]? = some kv → ∀ v' H', Same H H' → Rp M H' v' (shelfD (shelfOf n kv key)) → Q v' H') ∧ (¬ (0 ≤ k ∧ k < n) → E (.ref a.C_NoKeeper) none H)
def sp_S_look (a : Ad) : Sp := fun vs H Q E => ∃ (M : Addr → Prop) (ds : List Addr) (n : Nat) (st : Kept) (v : V) (k : Int) (key : Str), vs = [v, .int k, .str key] ∧ Fr M H ∧ StoreAt M H a.C v ds n st ∧ n ≤ 9 ∧
  (∀ (kk : Nat) (kv : KV1), k = kk → kk < n → st[kk]? = some kv → ShOk n (shelfOf n kv key) ∧ ∀ v' H', Same H H' → Rp (Old H) H' v' (lookD (shelfOf n kv key)) → Q v' H') ∧ (¬ (0 ≤ k ∧ k < n) → E (.ref a.C_NoKeeper) none H)
section
variable {P : Program} {w : World} {K : Frag} {mg : Str → Option Value} {base : Heap} {a : Ad}
local macro_rules | `(tactic| walk_at "e1") => `(tactic| first
  | ((with_reducible refine' w_var ?wh ?_); (case wh => rfl))
  | with_reducible refine w_c ?_
  | with_reducible refine w_projn ?_
  | with_reducible refine w_projr ?_
  | with_reducible refine w_op ?_
  | with_reducible refine w_cons ?_
  | with_reducible refine w_nil ?_
  | with_reducible refine w_I0 ?_
  | ((with_reducible refine w_I ?wc ?_); (case wc => first | (show (0 : Int) < _; decide) | exact ⟨by decide, by decide⟩ | exact ⟨by decide, by decide, by decide⟩ | exact Or.inr ⟨by decide, by decide⟩ | exact Or.inl ⟨by decide, by decide⟩ | (show (0 : Int) < _; omega) | exact ⟨by omega, by omega⟩))
  | with_reducible refine w_bl ?_
  | with_reducible refine w_test ?_
  | with_reducible refine w_tB ?_
  | with_reducible refine w_set ?_
  | with_reducible refine w_ifS ?_
  | with_reducible refine w_if ?_
  | with_reducible refine w_or ?_
  | with_reducible refine w_and ?_
  | with_reducible refine w_not ?_
  | with_reducible refine w_orV ?_
  | with_reducible refine w_andV ?_
  | with_reducible refine w_notV ?_
  | with_reducible refine w_ret ?_
  | with_reducible refine w_retN ?_
  | with_reducible refine w_drop ?_
  | with_reducible refine w_next ?_
  | with_reducible refine w_un ?_
  | with_reducible refine w_CB ?_
  | with_reducible refine w_call ?_
  | with_reducible refine w_callS ?_
  | with_reducible refine w_gName ?_
  | with_reducible refine w_asg ?_
  | with_reducible refine w_tTup ?_
  | with_reducible refine w_tLst ?_
  | with_reducible refine w_lc ?_
  | with_reducible refine w_iRng1 ?_
  | with_reducible refine w_iRng2 ?_
  | with_reducible refine w_iList ?_
  | with_reducible refine w_iTup ?_
  | with_reducible refine w_for ?_
  | with_reducible refine w_chain ?_
  | with_reducible refine w_sl ?_
  | with_reducible refine w_part ?_
  | with_reducible refine w_nopart ?_
  | with_reducible refine w_exint ?_
  | with_reducible refine w_dput ?_
  | with_reducible refine w_gSub ?_
  | with_reducible refine w_tFld ?_
  | with_reducible refine w_tMeth ?_
  | with_reducible refine w_sFld ?_
  | with_reducible refine w_dget2 ?_
  | with_reducible refine w_dget ?_
  | with_reducible refine w_bm ?_
  | with_reducible refine w_isiII ?_
  | with_reducible refine w_isiIB ?_
  | with_reducible refine w_isiBB ?_
  | with_reducible refine w_max ?_
  | ((with_reducible refine w_eq ?we ?_); (case we => rfl))
  | ((with_reducible refine w_ne ?we ?_); (case we => rfl)))
local macro_rules | `(tactic| walk_at "w1") => `(tactic| first | walk_at "e1" | with_reducible refine w_seq ?_)
local macro_rules | `(tactic| walk_at "e") => `(tactic| repeat walk_at "e1")
local macro_rules | `(tactic| walk_at "w") => `(tactic| repeat walk_at "w1")

theorem ok_S_need_keeper (T : Txt K mg a) : FnOk P w K mg base (L2.CX P w) 1 a.f_S_need_keeper a.d_S_need_keeper ["self", "keeper"] (sp_S_need_keeper a) := by
  refine T.F_S_need_keeper.okX sc_S_need_keeper (fun vs H Q E h => ?_) (fun cdv A outer s H vs Q E hr h => ?_)
  · obtain ⟨M, ds, n, st, v, k, rfl, _⟩ := h; rfl
  · obtain ⟨M, ds, n, st, v, k, rfl, S, hn, k1, k2⟩ := h
    refine ⟨_, (pss_one (ps_if (PW.pt (pw_or (pt_cmpR op_lt (pv 1) pe_int (nomark _)) (pw_or1 (pt_cmpR op_ge (pv 1) (pe_callB (r := rLen K) cl_len rfl T.n_len (by decide +kernel) (pa_cons (pe_fldK K rfl (pv 0) rfl) pa_nil)) (nomark _))))) (pss_one (ps_raise rfl (takes_of rfl rfl rfl rfl) (pmk_own PySem.F.excBase_ValueError T.x_NoKeeper T.g_NoKeeper T.k_NoKeeper (raises_own T.b_NoKeeper T.t_NoKeeper) rfl))) pss_nil)), ?_⟩
    walk_at "w"
    by_cases h0 : k < 0
    · refine iteD h0 ?_
      refine iteT ?_
      exact k2 (by omega)
    · refine iteDn h0 ?_
      walk_at "w"
      refine w_kept S T.cl T.nA_kept fun l ml hl => ?_
      walk_at "w"
      refine w_lenS (SqL.of hl) ?_
      walk_at "w"
      rw [List.length_map, S.dl]
      by_cases h1 : (n : Int) ≤ k
      · refine iteD h1 ?_
        exact k2 (by omega)
      · refine iteDn h1 ?_
        walk_at "w"
        exact k1 (by omega)
theorem ok_S_init (T : Txt K mg a) : FnOk P w K mg base (L2.CX P w) 2 a.f_S_init a.d_S_init ["self", "many"] (sp_S_init a) := by
  refine T.F_S_init.okX sc_S_init (fun vs H Q E h => ?_) (fun cdv A outer s H vs Q E hr h => ?_)
  · obtain ⟨p, dx, n, rfl, _⟩ := h; rfl
  · obtain ⟨p, dx, n, rfl, hp, k1, k2⟩ := h
    refine ⟨_, (pss_cons (ps_fld (pv 0) (pe_call (ok_blank T) (hr.mono (by decide)) rfl T.g_blank T.k_blank T.b_blank .nil (passes_call (takes_of rfl rfl rfl rfl) (fun _ _ _ _ h => h)) (pa_cons (pv 1) pa_nil)) rfl)
  (pss_one (ps_fld (pv 0) (pe_lc (own := [("keeper", 2)]) rfl sc_S_init.nd (pi_range1 rfl T.n_range (pa_cons (pv 1) pa_nil)) (blkOk_by (own := [("keeper", 2)]) (N := N_S_init) (sc := defScope s_S_init) (by decide +kernel)) (fun _ _ _ _ _ => (pg_name (i := 2) sc_S_init.nd rfl (by first | exact Or.inl rfl | exact Or.inr rfl))) (fun _ _ _ _ _ => pts_nil) (fun _ _ _ _ _ => pe_dnewK)) rfl))), ?_⟩
    walk_at "w"
    refine ⟨n, rfl, fun hn v1 H1 s1 r1 => ?_, fun hn => k2 hn⟩
    walk_at "w"
    refine ⟨p, a.C, dx, [], rfl, s1 _ _ hp, T.cl, T.nA_first, by show 0 < 1000; decide, ?_⟩
    have b1 : But p H (upd H1 p (.ins a.C dx (putF "first" v1 []))) := fun b o e h => by rw [upd_ne e]; exact s1 b o h
    have h1 : upd H1 p (.ins a.C dx (putF "first" v1 [])) p = some (.ins a.C dx (putF "first" v1 [])) := upd_same
    have bp : But p H1 (upd H1 p (.ins a.C dx (putF "first" v1 []))) := But.upd _
    have r1 := (r1 (Old H)).ext (bp.ext fun xs => ⟨fun z => (by rw [s1 _ _ hp] at z; cases z), fun _ z => (by rw [s1 _ _ hp] at z; cases z)⟩)
    generalize upd H1 p (.ins a.C dx (putF "first" v1 [])) = H2 at b1 h1 r1
    clear bp
    walk_at "w"
    refine ⟨n, rfl, by omega, by omega, fun D hD => ?_⟩
    have occ : ∀ b, H b ≠ none → H2 b ≠ none := fun b hb z => by
      by_cases e : b = p
      · rw [e, h1] at z; cases z
      · cases q : H b with
        | none => exact hb q
        | some o => rw [b1 b o e q] at z; cases z
    refine lc_range (fun i H' => But p H H' ∧ Same H2 H' ∧ ∃ dsl : List Addr, H' D = some (.lst (dsl.map V.ref)) ∧ dsl.length = i ∧ dsl.Nodup ∧ ∀ d ∈ dsl, H' d = some (.dK []) ∧ H2 d = none ∧ d ≠ D) ⟨fun b o e h => ?_, Same.new hD, [], upd_same, rfl, List.nodup_nil, fun _ z => nomatch z⟩ ?_ ?_
    · rw [upd_ne (ne_of_none (b1 b o e h) hD)]; exact b1 b o e h
    · rintro i H' hi ⟨bt, s2, dsl, hd, hl, nd, each⟩
      refine w_it0 rfl ?_
      intro d nd'
      have hne : D ≠ d := ne_of_none hd nd'
      refine ⟨dsl.map V.ref, by rw [upd_ne hne]; exact hd, by rw [List.length_map, hl]; exact sz_smallL (by omega), fun b o e h => ?_, ?_, dsl ++ [d], by rw [upd_same, List.map_append]; rfl, by rw [List.length_append, hl]; rfl, nd_snoc nd fun z => ?_, fun d' hd' => ?_⟩
      · have h' := bt b o e h
        have hb : b ≠ D := fun z => by
          rw [z] at h
          exact occ D (by rw [h]; simp) hD
        rw [upd_ne hb, upd_ne (ne_of_none h' nd')]; exact h'
      · intro b o h
        have h' := s2 b o h
        rw [upd_ne (ne_of_none h hD), upd_ne (ne_of_none h' nd')]; exact h'
      · rw [(each d z).1] at nd'; cases nd'
      · rcases List.mem_append.mp hd' with hd' | hd'
        · obtain ⟨e1, e2, e3⟩ := each d' hd'
          exact ⟨by rw [upd_ne e3, upd_ne (ne_of_none e1 nd')]; exact e1, e2, e3⟩
        · rw [List.mem_singleton] at hd'
          subst hd'
          exact ⟨by rw [upd_ne hne.symm]; exact upd_same, s2.free nd', hne.symm⟩
    · rintro H' ⟨bt, s2, dsl, hd, hl, nd, each⟩
      walk_at "w"
      have hpH := s2 _ _ h1
      refine ⟨p, a.C, dx, _, rfl, hpH, T.cl, T.nA_kept, by show 1 < 1000; decide, ?_⟩
      walk_at "w"
      have hDp : D ≠ p := fun z => by rw [z, h1] at hD; cases hD
      have bq : But p H (upd H' p (.ins a.C dx (sflds v1 D))) := fun b o e h => by rw [upd_ne e]; exact bt b o e h
      have bu : But p H' (upd H' p (.ins a.C dx (sflds v1 D))) := But.upd _
      refine k1 (by
        by_cases z : 1 ≤ n ∧ n ≤ 9
        · exact z
        · exact absurd ‹1 ≤ n ∧ n ≤ 9› z) dsl _ bq ⟨⟨p, dx, D, v1, rfl, upd_same, ?_, fun z => ?_, by rw [upd_ne hDp]; exact hd⟩, hl, List.length_replicate, nd, fun k d kv hd' hk => ?_⟩ fun d hd' => ?_
      · exact ((r1.same s2).ext (bu.ext fun xs => ⟨fun z => (by rw [hpH] at z; cases z), fun _ z => (by rw [hpH] at z; cases z)⟩))
      · exact occ D z hD
      · obtain ⟨e1, e2, e3⟩ := each d (List.mem_of_getElem? hd')
        have hdp : d ≠ p := fun z => by rw [z, h1] at e2; cases e2
        have : kv = [] := by
          rw [List.getElem?_replicate] at hk
          split at hk
          · exact (Option.some.inj hk).symm
          · cases hk
        subst this
        exact ⟨[], by rw [upd_ne hdp]; exact e1, .nil⟩
      · obtain ⟨e1, e2, e3⟩ := each d hd'
        cases q : H d with
        | none => rfl
        | some o => exact absurd e2 (occ d (by rw [q]; simp))
theorem ok_S_shelf (T : Txt K mg a) : FnOk P w K mg base (L2.CX P w) 2 a.f_S_shelf a.d_S_shelf ["self", "keeper", "key"] (sp_S_shelf a) := by
  refine T.F_S_shelf.okX sc_S_shelf (fun vs H Q E h => ?_) (fun cdv A outer s H vs Q E hr h => ?_)
  · obtain ⟨M, ds, n, st, v, k, key, rfl, _⟩ := h; rfl
  · obtain ⟨M, ds, n, st, v, k, key, rfl, fr, S, hn, k1, k2⟩ := h
    have hu := hu_of hr
    refine ⟨_, (pss_cons (ps_expr (pe_meth (pv 0) T.cl T.m_S_need_keeper (ok_S_need_keeper T) (hr.mono (by decide)) T.b_S_need_keeper .nil (passes_call (takes_of rfl rfl rfl rfl) (fun _ _ _ _ h => h)) (pa_cons (pv 1) pa_nil)))
  (pss_one (ps_ret (pe_dget2 hu (pe_ix (r := rIxL K) ix_list (pe_fldK K rfl (pv 0) rfl) (pv 1) (fun _ _ => rfl)) (pv 2) (pe_tup (pa_cons (pe_fldK K rfl (pv 0) rfl) (pa_cons (pe_lst pa_nil) pa_nil))) ⟨rfl, rfl, rfl, rfl⟩)))), ?_⟩
    walk_at "w"
    refine w_mth S (by decide +kernel) (by decide +kernel) ?_
    walk_at "w"
    refine ⟨M, ds, n, st, v, k, rfl, S, hn, fun hk => ?_, fun hk => k2 hk⟩
    obtain ⟨kk, rfl⟩ : ∃ kk : Nat, k = kk := ⟨k.toNat, by omega⟩
    walk_at "w"
    refine w_kept S T.cl T.nA_kept fun l ml hl => ?_
    walk_at "w"
    refine w_dictAt S hl (by omega) fun d kv kvs hd hkv hdk rel => ?_
    refine ⟨d, rfl, .inl ⟨kvs, .inl hdk⟩, ?_⟩
    walk_at "w"
    refine w_first S T.cl T.nA_first fun vf rf => ?_
    walk_at "w"
    refine ⟨by show 0 ≤ sizeLine; decide, fun p np => ?_⟩
    have s1 : Same H (upd H p (.lst [])) := Same.new np
    have rp : Rp M (upd H p (.lst [])) (.ref p) (rowsD []) := .lstA (fr p np) upd_same RpA.nil
    have fr1 := fr.same s1
    generalize upd H p (.lst []) = H1 at s1 rp fr1
    walk_at "w"
    refine w_newT (Rp.shelf (s := (List.replicate n 0, [])) (rf.same s1) rp) (by show 2 ≤ sizeLine; decide) fun v2 H2 s2 r2 => ?_
    have s12 := Same.trans s1 s2
    refine ⟨_, DGet.k (k := Sum.inr key) (s12 _ _ hdk), ?_⟩
    refine k1 kk kv rfl (by omega) hkv _ H2 s12 ?_
    unfold shelfOf
    rcases (rel.ext (.same s12)).get (s := key) with ⟨h1, h2⟩ | ⟨x, sh, h1, h2, h3⟩
    · rw [h1, h2]; exact r2
    · rw [h1, h2]; exact h3
theorem ok_S_look (T : Txt K mg a) : FnOk P w K mg base (L2.CX P w) 3 a.f_S_look a.d_S_look ["self", "keeper", "key"] (sp_S_look a) := by
  refine T.F_S_look.okX sc_S_look (fun vs H Q E h => ?_) (fun cdv A outer s H vs Q E hr h => ?_)
  · obtain ⟨M, ds, n, st, v, k, key, rfl, _⟩ := h; rfl
  · obtain ⟨M, ds, n, st, v, k, key, rfl, fr, S, hn, k1, k2⟩ := h
    refine ⟨_, (pss_cons (ps_set (i := 3) sc_S_look.nd rfl (Or.inl rfl) (pe_meth (pv 0) T.cl T.m_S_shelf (ok_S_shelf T) (hr.mono (by decide)) T.b_S_shelf .nil (passes_call (takes_of rfl rfl rfl rfl) (fun _ _ _ _ h => h)) (pa_cons (pv 1) (pa_cons (pv 2) pa_nil))))
  (pss_one (ps_ret (pe_tup (pa_cons (pe_lc (own := [("row", 4)]) rfl sc_S_look.nd (pi_list (pe_ix (r := rIxT K) ix_tup (pv 3) pe_int (fun _ _ => rfl))) (blkOk_by (own := [("row", 4)]) (N := N_S_look) (sc := defScope s_S_look) (by decide +kernel)) (fun _ _ _ _ _ => (pg_name (i := 4) sc_S_look.nd rfl (by first | exact Or.inl rfl | exact Or.inr rfl))) (fun _ _ _ _ _ => pts_nil) (fun _ _ _ _ _ => (pe_ix (r := rIxT K) ix_tup (pv 4) pe_int (fun _ _ => rfl)))) (pa_cons (pe_ix (r := rIxT K) ix_tup (pv 3) pe_int (fun _ _ => rfl)) pa_nil)))))), ?_⟩
    walk_at "w"
    refine w_mth S (by decide +kernel) (by decide +kernel) ?_
    walk_at "w"
    refine ⟨M, ds, n, st, v, k, key, rfl, fr, S, hn, fun kk kv ek hk hkv v1 H1 s1 r1 => ?_, fun hk => k2 hk⟩
    obtain ⟨sok, k1⟩ := k1 kk kv ek hk hkv
    generalize shelfOf n kv key = sh at r1 sok k1
    have fr1 := fr.same s1
    walk_at "w"
    refine w_shelf1 r1 fun v2 r2 => ?_
    obtain ⟨p2, xs, rfl, _, hxs, ra⟩ := Rp.lst_inv (ds := sh.2.map rowD) r2
    have lx : xs.length = sh.2.length := by rw [ra.1, List.length_map]
    refine ⟨p2, rfl, ⟨xs, SqL.of hxs⟩, ?_⟩
    have few := sok.few
    refine lcL sh.2 (fun r => some (.int r.2.2)) M fr1 (SqL.of hxs) lx (sz_small (by omega)) (fun i x r H2 M' Yes No hx hr s ex fr' yes no => ?_) (fun D H3 hD s3 r3 => ?_)
    · have rx : Rp M' H2 x (rowD r) := (ra.2 i x (rowD r) hx (by rw [List.getElem?_map, hr]; rfl)).ext ex
      refine w_it0 rfl ?_
      walk_at "w"
      refine w_row2 rx ?_
      exact yes _ H2 _ rfl (Same.refl _) (.int _)
    rw [fm_vals] at r3
    walk_at "w"
    refine w_shelf0 (r1.same s3) fun v4 r4 => ?_
    walk_at "w"
    have r3 : Rp (Old H) H3 (.ref D) (valsD sh.2) := r3.ints_at fun z => z (s1.free hD)
    refine w_newT (M := Old H) (RpA.nil.cons (Rp.mark r4) |>.cons r3) (by show 2 ≤ sizeLine; decide) fun v5 H5 s5 r5 => ?_
    exact k1 v5 H5 (Same.trans s1 (Same.trans s3 s5)) r5
end
end Sb

namespace Sb
open PySem L2 PyProof.Rows
theorem isMk_bad {n : Nat} {ds : List PyData} {d : PyData} (h : d ∈ ds) (g : goodI d = false) : isMk n (.tuple ds) = false := by
  show (decide (ds.length = n) && ds.all goodI) = false
  rw [Bool.and_eq_false_iff]
  exact .inr (List.all_eq_false.mpr ⟨d, h, by rw [g]; decide⟩)
theorem isMk_good {n : Nat} {ds : List PyData} (hl : ds.length = n) (h : ∀ (i : Nat) (d : PyData), ds[i]? = some d → goodI d = true) : isMk n (.tuple ds) = true := by
  show (decide (ds.length = n) && ds.all goodI) = true
  rw [decide_eq_true hl, Bool.true_and, List.all_eq_true]
  intro d hd
  obtain ⟨i, hi⟩ := List.mem_iff_getElem?.mp hd
  exact h i d hi
def sp_S_need_mark (a : Ad) : Sp := fun vs H Q E => ∃ (M M' : Addr → Prop) (ds : List Addr) (n : Nat) (st : Kept) (v x : V) (d : PyData), vs = [v, x] ∧ StoreAt M H a.C v ds n st ∧ n ≤ 9 ∧ Rp M' H x d ∧ okMk d = true ∧
  (isMk n d = true → Q .non H) ∧ (isMk n d = false → E (.ref a.C_BadMark) none H)
def sp_S_put (a : Ad) : Sp := fun vs H Q E => ∃ (M M' : Addr → Prop) (ds : List Addr) (n : Nat) (st : Kept) (v x : V) (k : Int) (key : Str) (val : Int) (d : PyData), vs = [v, .int k, .str key, .int val, x] ∧ Fr M H ∧ StoreAt M H a.C v ds n st ∧ n ≤ 9 ∧ Rp M' H x d ∧ okMk d = true ∧
  (∀ (kk : Nat) (kv : KV1) (dk : Addr) (m : List Int), k = kk → kk < n → st[kk]? = some kv → ds[kk]? = some dk → d = markD m → isMk n d = true → ShOk n (shelfOf n kv key) ∧ kv.length ≤ 1000 ∧
    ∀ H', But dk H H' → StoreAt M H' a.C v ds n (st.set kk (aPut kv key (putOn (shelfOf n kv key) kk val m))) → Q .non H') ∧
  (¬ (0 ≤ k ∧ k < n) → E (.ref a.C_NoKeeper) none H) ∧ (0 ≤ k ∧ k < n → isMk n d = false → ∀ H', Same H H' → E (.ref a.C_BadMark) none H')
def sp_S_drop (a : Ad) : Sp := fun vs H Q E => ∃ (M M' : Addr → Prop) (ds : List Addr) (n : Nat) (st : Kept) (v x : V) (k : Int) (key : Str) (d : PyData), vs = [v, .int k, .str key, x] ∧ Fr M H ∧ StoreAt M H a.C v ds n st ∧ n ≤ 9 ∧ Rp M' H x d ∧ okMk d = true ∧
  (∀ (kk : Nat) (kv : KV1) (dk : Addr) (m : List Int), k = kk → kk < n → st[kk]? = some kv → ds[kk]? = some dk → d = markD m → isMk n d = true → ShOk n (shelfOf n kv key) ∧ kv.length ≤ 1000 ∧
    ∀ H', But dk H H' → StoreAt M H' a.C v ds n (st.set kk (aPut kv key (droppedS (shelfOf n kv key) m))) → Q .non H') ∧
  (¬ (0 ≤ k ∧ k < n) → E (.ref a.C_NoKeeper) none H) ∧ (0 ≤ k ∧ k < n → isMk n d = false → ∀ H', Same H H' → E (.ref a.C_BadMark) none H')
def sp_S_letter (a : Ad) : Sp := fun vs H Q E => ∃ (M : Addr → Prop) (ds : List Addr) (n : Nat) (st : Kept) (v : V) (k : Int) (key : Str), vs = [v, .int k, .str key] ∧ Fr M H ∧ StoreAt M H a.C v ds n st ∧ n ≤ 9 ∧
  (∀ (kk : Nat) (kv : KV1), k = kk → kk < n → st[kk]? = some kv → ∀ v' H', Same H H' → (∀ M', Rp M' H' v' (letterD key (shelfOf n kv key))) → Q v' H') ∧ (¬ (0 ≤ k ∧ k < n) → E (.ref a.C_NoKeeper) none H)
def sp_S_take (a : Ad) : Sp := fun vs H Q E => ∃ (M : Addr → Prop) (ds : List Addr) (n : Nat) (st : Kept) (v x : V) (k : Int) (key : Str) (sh : Shelf), vs = [v, .int k, x] ∧ Fr M H ∧ StoreAt M H a.C v ds n st ∧ n ≤ 9 ∧ (∀ M', Rp M' H x (letterD key sh)) ∧ ShOk n sh ∧
  (∀ (kk : Nat) (kv : KV1) (dk : Addr), k = kk → kk < n → st[kk]? = some kv → ds[kk]? = some dk → ShOk n (shelfOf n kv key) ∧ kv.length ≤ 1000 ∧
    ∀ H', But dk H H' → StoreAt M H' a.C v ds n (st.set kk (aPut kv key (metS (shelfOf n kv key) sh))) → Q .non H') ∧
  (¬ (0 ≤ k ∧ k < n) → E (.ref a.C_NoKeeper) none H)
theorem isMk_len {n : Nat} {m : List Int} (h : isMk n (markD m) = true) : m.length = n := by
  have h : (decide ((m.map PyData.int).length = n) && (m.map PyData.int).all goodI) = true := h
  rw [Bool.and_eq_true] at h
  have := of_decide_eq_true h.1
  rwa [List.length_map] at this
section
variable {P : Program} {w : World} {K : Frag} {mg : Str → Option Value} {base : Heap} {a : Ad}
local macro_rules | `(tactic| walk_at "e1") => `(tactic| first
  | ((with_reducible refine' w_var ?wh ?_); (case wh => rfl))
  | with_reducible refine w_c ?_
  | with_reducible refine w_projn ?_
  | with_reducible refine w_projr ?_
  | with_reducible refine w_op ?_
  | with_reducible refine w_cons ?_
  | with_reducible refine w_nil ?_
  | with_reducible refine w_I0 ?_
  | ((with_reducible refine w_I ?wc ?_); (case wc => first | (show (0 : Int) < _; decide) | exact ⟨by decide, by decide⟩ | exact ⟨by decide, by decide, by decide⟩ | exact Or.inr ⟨by decide, by decide⟩ | exact Or.inl ⟨by decide, by decide⟩ | (show (0 : Int) < _; omega) | exact ⟨by omega, by omega⟩))
  | with_reducible refine w_bl ?_
  | with_reducible refine w_test ?_
  | with_reducible refine w_tB ?_
  | with_reducible refine w_set ?_
  | with_reducible refine w_ifS ?_
  | with_reducible refine w_if ?_
  | with_reducible refine w_or ?_
  | with_reducible refine w_and ?_
  | with_reducible refine w_not ?_
  | with_reducible refine w_orV ?_
  | with_reducible refine w_andV ?_
  | with_reducible refine w_notV ?_
  | with_reducible refine w_ret ?_
  | with_reducible refine w_retN ?_
  | with_reducible refine w_drop ?_
  | with_reducible refine w_next ?_
  | with_reducible refine w_un ?_
  | with_reducible refine w_CB ?_
  | with_reducible refine w_call ?_
  | with_reducible refine w_callS ?_
  | with_reducible refine w_gName ?_
  | with_reducible refine w_asg ?_
  | with_reducible refine w_tTup ?_
  | with_reducible refine w_tLst ?_
  | with_reducible refine w_lc ?_
  | with_reducible refine w_iRng1 ?_
  | with_reducible refine w_iRng2 ?_
  | with_reducible refine w_iList ?_
  | with_reducible refine w_iTup ?_
  | with_reducible refine w_for ?_
  | with_reducible refine w_chain ?_
  | with_reducible refine w_sl ?_
  | with_reducible refine w_part ?_
  | with_reducible refine w_nopart ?_
  | with_reducible refine w_exint ?_
  | with_reducible refine w_dput ?_
  | with_reducible refine w_gSub ?_
  | with_reducible refine w_tFld ?_
  | with_reducible refine w_tMeth ?_
  | with_reducible refine w_sFld ?_
  | with_reducible refine w_dget2 ?_
  | with_reducible refine w_dget ?_
  | with_reducible refine w_bm ?_
  | with_reducible refine w_isiII ?_
  | with_reducible refine w_isiIB ?_
  | with_reducible refine w_isiBB ?_
  | with_reducible refine w_max ?_
  | ((with_reducible refine w_eq ?we ?_); (case we => rfl))
  | ((with_reducible refine w_ne ?we ?_); (case we => rfl)))
local macro_rules | `(tactic| walk_at "w1") => `(tactic| first | walk_at "e1" | with_reducible refine w_seq ?_)
local macro_rules | `(tactic| walk_at "e") => `(tactic| repeat walk_at "e1")
local macro_rules | `(tactic| walk_at "w") => `(tactic| repeat walk_at "w1")

theorem ok_S_need_mark (T : Txt K mg a) : FnOk P w K mg base (L2.CX P w) 1 a.f_S_need_mark a.d_S_need_mark ["self", "mark"] (sp_S_need_mark a) := by
  refine T.F_S_need_mark.okX sc_S_need_mark (fun vs H Q E h => ?_) (fun cdv A outer s H vs Q E hr h => ?_)
  · obtain ⟨M, M', ds, n, st, v, x, d, rfl, _⟩ := h; rfl
  · obtain ⟨M, M', ds, n, st, v, x, d, rfl, S, hn, hx, hok, k1, k2⟩ := h
    refine ⟨_, (pss_cons (ps_if (PW.pt (pw_or (pt_not (pt_val (pe_callB (r := rIsi K) call_isi rfl T.n_isinstance (by decide +kernel) (pa_cons (pv 1) (pa_cons (pe_bltn (v := .ty "tuple") (u := .type "tuple") rfl T.n_tuple (by decide +kernel) rfl) pa_nil))))) (pw_or1 (pt_cmpR op_ne (pe_callB (r := rLen K) cl_len rfl T.n_len (by decide +kernel) (pa_cons (pv 1) pa_nil)) (pe_callB (r := rLen K) cl_len rfl T.n_len (by decide +kernel) (pa_cons (pe_fldK K rfl (pv 0) rfl) pa_nil)) (nomark _))))) (pss_one (ps_raise rfl (takes_of rfl rfl rfl rfl) (pmk_own PySem.F.excBase_ValueError T.x_BadMark T.g_BadMark T.k_BadMark (raises_own T.b_BadMark T.t_BadMark) rfl))) pss_nil)
  (pss_one (ps_for (passes_of rfl) rfl (pi_tup (pv 1)) (pg_name (i := 2) sc_S_need_mark.nd rfl (by first | exact Or.inl rfl | exact Or.inr rfl))
  (pss_one (ps_if (PW.pt (pw_or (pt_not (pt_val (pe_callB (r := rIsi K) call_isi rfl T.n_isinstance (by decide +kernel) (pa_cons (pv 2) (pa_cons (pe_bltn (v := .ty "int") (u := .type "int") rfl T.n_int (by decide +kernel) rfl) pa_nil))))) (pw_or (pt_val (pe_callB (r := rIsi K) call_isi rfl T.n_isinstance (by decide +kernel) (pa_cons (pv 2) (pa_cons (pe_bltn (v := .ty "bool") (u := .type "bool") rfl T.n_bool (by decide +kernel) rfl) pa_nil)))) (pw_or1 (pt_cmpR op_lt (pv 2) pe_int (nomark _)))))) (pss_one (ps_raise rfl (takes_of rfl rfl rfl rfl) (pmk_own PySem.F.excBase_ValueError T.x_BadMark T.g_BadMark T.k_BadMark (raises_own T.b_BadMark T.t_BadMark) rfl))) pss_nil))))), ?_⟩
    walk_at "w"
    refine w_isiTany hx ?_
    walk_at "w"
    cases hT : isTupD d with
    | false =>
      refine iteT ?_
      refine iteT ?_
      refine k2 ?_
      cases d with
      | tuple ds => cases hT
      | _ => rfl
    | true =>
      refine iteF ?_
      obtain ⟨es, rfl⟩ : ∃ es, d = .tuple es := by
        cases d with
        | tuple es => exact ⟨es, rfl⟩
        | _ => cases hT
      walk_at "w"
      refine w_lenT hx ?_
      walk_at "w"
      refine w_kept S T.cl T.nA_kept fun l ml hl => ?_
      walk_at "w"
      refine w_lenS (SqL.of hl) ?_
      walk_at "w"
      rw [List.length_map, S.dl]
      by_cases hlen : es.length = n
      · refine iteNS (by rw [hlen]) ?_
        walk_at "w"
        obtain ⟨p, xs, rfl, hp, rx⟩ := hx.tup_inv
        refine ⟨p, rfl, ⟨xs, SqT.of hp⟩, ?_⟩
        refine for_tup (K := K) (xs := xs) (fun i σ H' => (∃ u, σ = [some v, some (.ref p), u]) ∧ H' = H ∧ ∀ j d, j < i → es[j]? = some d → goodI d = true) ⟨⟨_, rfl⟩, rfl, fun j d hj => absurd hj (Nat.not_lt_zero _)⟩
          (fun i σ H' _ ⟨_, e, _⟩ => by rw [e]; exact SqT.of hp) ?_ ?_
        · rintro i y σ H' hy ⟨⟨u, rfl⟩, rfl, good⟩
          obtain ⟨d, hd, rd⟩ := rx.atx hy
          have hf : flatD d = true := List.all_eq_true.mp hok d (List.mem_of_getElem? hd)
          walk_at "w"
          refine w_isiIany rd ?_
          walk_at "w"
          have bad : goodI d = false → E (.ref a.C_BadMark) none H' := fun g => k2 (isMk_bad (List.mem_of_getElem? hd) g)
          cases hI : isIntD d with
          | false =>
            refine iteT ?_
            refine iteT ?_
            refine bad ?_
            cases d with
            | int i => cases hI
            | _ => rfl
          | true =>
            refine iteF ?_
            walk_at "w"
            refine w_isiBany rd ?_
            walk_at "w"
            cases hB : isBoolD d with
            | true =>
              refine iteT ?_
              refine iteT ?_
              refine bad ?_
              cases d with
              | bool b => rfl
              | _ => cases hB
            | false =>
              refine iteF ?_
              obtain ⟨z, rfl⟩ : ∃ z, d = .int z := by
                cases d with
                | int z => exact ⟨z, rfl⟩
                | bool b => cases hB
                | _ => cases hI
              obtain rfl := rd.int_inv
              walk_at "w"
              by_cases hz : z < 0
              · refine iteD hz ?_
                exact bad (decide_eq_false (by omega))
              · refine iteDn hz ?_
                walk_at "w"
                refine ⟨⟨_, rfl⟩, rfl, fun j d' hj hd' => ?_⟩
                by_cases e : j = i
                · subst e
                  rw [hd] at hd'
                  cases hd'
                  exact decide_eq_true (by omega)
                · exact good j d' (by omega) hd'
        · rintro σ H' ⟨⟨u, rfl⟩, rfl, good⟩
          exact k1 (isMk_good hlen fun i d hd => good i d (by rw [rx.1]; exact (List.getElem?_eq_some_iff.mp hd).1) hd)
      · refine iteY (by simp; omega) ?_
        refine k2 ?_
        show (decide (es.length = n) && es.all goodI) = false
        rw [decide_eq_false hlen]; rfl
theorem ok_S_put (T : Txt K mg a) : FnOk P w K mg base (L2.CX P w) 4 a.f_S_put a.d_S_put ["self", "keeper", "key", "value", "mark"] (sp_S_put a) := by
  refine T.F_S_put.okX sc_S_put (fun vs H Q E h => ?_) (fun cdv A outer s H vs Q E hr h => ?_)
  · obtain ⟨M, M', ds, n, st, v, x, k, key, val, d, rfl, _⟩ := h; rfl
  · obtain ⟨M, M', ds, n, st, v, x, k, key, val, d, rfl, fr, S, hn, hx, hok, k1, k2, k3⟩ := h
    have hu := hu_of hr
    refine ⟨_, (pss_cons (ps_set (i := 5) sc_S_put.nd rfl (Or.inl rfl) (pe_meth (pv 0) T.cl T.m_S_shelf (ok_S_shelf T) (hr.mono (by decide)) T.b_S_shelf .nil (passes_call (takes_of rfl rfl rfl rfl) (fun _ _ _ _ h => h)) (pa_cons (pv 1) (pa_cons (pv 2) pa_nil))))
  (pss_cons (ps_expr (pe_meth (pv 0) T.cl T.m_S_need_mark (ok_S_need_mark T) (hr.mono (by decide)) T.b_S_need_mark .nil (passes_call (takes_of rfl rfl rfl rfl) (fun _ _ _ _ h => h)) (pa_cons (pv 4) pa_nil)))
  (pss_one (ps_dput hu (pe_ix (r := rIxL K) ix_list (pe_fldK K rfl (pv 0) rfl) (pv 1) (fun _ _ => rfl)) (pv 2) (pe_call (ok_put_on T) (hr.mono (by decide)) rfl T.g_put_on T.k_put_on T.b_put_on .nil passL (pa_cons (pv 5) (pa_cons (pv 1) (pa_cons (pv 3) (pa_cons (pv 4) pa_nil))))) rfl)))), ?_⟩
    walk_at "w"
    refine w_mth S (by decide +kernel) (by decide +kernel) ?_
    walk_at "w"
    refine ⟨M, ds, n, st, v, k, key, rfl, fr, S, hn, fun kk kv ek hk hkv v1 H1 s1 r1 => ?_, fun hk => k2 hk⟩
    subst ek
    have S1 := S.same s1
    have fr1 := fr.same s1
    walk_at "w"
    refine w_mth S1 (by decide +kernel) (by decide +kernel) ?_
    walk_at "w"
    refine ⟨M, M', ds, n, st, v, x, d, rfl, S1, hn, hx.same s1, hok, fun hm => ?_, fun hm => k3 ⟨by omega, by omega⟩ hm H1 s1⟩
    obtain ⟨m, rfl, ml, mp⟩ := mark_of_isMk hm
    obtain ⟨dk, hdk⟩ : ∃ dk, ds[kk]? = some dk := ⟨_, List.getElem?_eq_getElem (by rw [S.dl]; exact hk)⟩
    obtain ⟨sok, kvl, k1⟩ := k1 kk kv dk m rfl hk hkv hdk rfl hm
    walk_at "w"
    refine ⟨M, v1, x, shelfOf n kv key, kk, val, m, rfl, fr1, r1, Rp.mark (hx.same s1), by rw [sok.len, ml], by omega, by omega, by rw [ml]; exact sok.rin, by have := sok.few; omega, fun v2 H2 s2 r2 => ?_⟩
    have r2 := r2.old fr1
    have S2 := S1.same s2
    walk_at "w"
    refine w_kept S2 T.cl T.nA_kept fun l ml hl => ?_
    walk_at "w"
    refine w_dictAt S2 hl hk fun d2 kv2 kvs hd2 hkv2 hdk2 rel => ?_
    rw [hdk] at hd2
    cases hd2
    rw [hkv] at hkv2
    cases hkv2
    walk_at "w"
    refine ⟨dk, _, rfl, DPut.k (k := Sum.inr key) hdk2 (by rw [rel.len]; exact sz_smallL (by omega)), ?_⟩
    exact k1 _ (But.trans (But.same (Same.trans s1 s2)) (But.upd _)) (S2.put hdk hkv r2 hdk2 rel)
theorem ok_S_drop (T : Txt K mg a) : FnOk P w K mg base (L2.CX P w) 4 a.f_S_drop a.d_S_drop ["self", "keeper", "key", "mark"] (sp_S_drop a) := by
  refine T.F_S_drop.okX sc_S_drop (fun vs H Q E h => ?_) (fun cdv A outer s H vs Q E hr h => ?_)
  · obtain ⟨M, M', ds, n, st, v, x, k, key, d, rfl, _⟩ := h; rfl
  · obtain ⟨M, M', ds, n, st, v, x, k, key, d, rfl, fr, S, hn, hx, hok, k1, k2, k3⟩ := h
    have hu := hu_of hr
    refine ⟨_, (pss_cons (ps_set (i := 4) sc_S_drop.nd rfl (Or.inl rfl) (pe_meth (pv 0) T.cl T.m_S_shelf (ok_S_shelf T) (hr.mono (by decide)) T.b_S_shelf .nil (passes_call (takes_of rfl rfl rfl rfl) (fun _ _ _ _ h => h)) (pa_cons (pv 1) (pa_cons (pv 2) pa_nil))))
  (pss_cons (ps_expr (pe_meth (pv 0) T.cl T.m_S_need_mark (ok_S_need_mark T) (hr.mono (by decide)) T.b_S_need_mark .nil (passes_call (takes_of rfl rfl rfl rfl) (fun _ _ _ _ h => h)) (pa_cons (pv 3) pa_nil)))
  (pss_one (ps_dput hu (pe_ix (r := rIxL K) ix_list (pe_fldK K rfl (pv 0) rfl) (pv 1) (fun _ _ => rfl)) (pv 2) (pe_call (ok_dropped T) (hr.mono (by decide)) rfl T.g_dropped T.k_dropped T.b_dropped .nil passL (pa_cons (pv 4) (pa_cons (pv 3) pa_nil))) rfl)))), ?_⟩
    walk_at "w"
    refine w_mth S (by decide +kernel) (by decide +kernel) ?_
    walk_at "w"
    refine ⟨M, ds, n, st, v, k, key, rfl, fr, S, hn, fun kk kv ek hk hkv v1 H1 s1 r1 => ?_, fun hk => k2 hk⟩
    subst ek
    have S1 := S.same s1
    have fr1 := fr.same s1
    walk_at "w"
    refine w_mth S1 (by decide +kernel) (by decide +kernel) ?_
    walk_at "w"
    refine ⟨M, M', ds, n, st, v, x, d, rfl, S1, hn, hx.same s1, hok, fun hm => ?_, fun hm => k3 ⟨by omega, by omega⟩ hm H1 s1⟩
    obtain ⟨m, rfl, ml, mp⟩ := mark_of_isMk hm
    obtain ⟨dk, hdk⟩ : ∃ dk, ds[kk]? = some dk := ⟨_, List.getElem?_eq_getElem (by rw [S.dl]; exact hk)⟩
    obtain ⟨sok, kvl, k1⟩ := k1 kk kv dk m rfl hk hkv hdk rfl hm
    walk_at "w"
    refine ⟨M, v1, x, shelfOf n kv key, m, rfl, fr1, r1, Rp.mark (hx.same s1), by rw [sok.len, ml], by omega, by rw [ml]; exact sok.rin, by have := sok.few; omega, fun v2 H2 s2 r2 => ?_⟩
    have r2 := r2.old fr1
    have S2 := S1.same s2
    walk_at "w"
    refine w_kept S2 T.cl T.nA_kept fun l ml hl => ?_
    walk_at "w"
    refine w_dictAt S2 hl hk fun d2 kv2 kvs hd2 hkv2 hdk2 rel => ?_
    rw [hdk] at hd2
    cases hd2
    rw [hkv] at hkv2
    cases hkv2
    walk_at "w"
    refine ⟨dk, _, rfl, DPut.k (k := Sum.inr key) hdk2 (by rw [rel.len]; exact sz_smallL (by omega)), ?_⟩
    exact k1 _ (But.trans (But.same (Same.trans s1 s2)) (But.upd _)) (S2.put hdk hkv r2 hdk2 rel)
theorem Rp.rowsT {M M' : Addr → Prop} {H : Hp} {x : V} {rs : List Row} (h : Rp M H x (.tuple (rs.map rowD))) : Rp M' H x (.tuple (rs.map rowD)) := by
  obtain ⟨p, xs, rfl, hp, r⟩ := h.tup_inv
  rw [rows_map] at r ⊢
  exact .tupA hp r.tups
theorem ok_S_letter (T : Txt K mg a) : FnOk P w K mg base (L2.CX P w) 3 a.f_S_letter a.d_S_letter ["self", "keeper", "key"] (sp_S_letter a) := by
  refine T.F_S_letter.okX sc_S_letter (fun vs H Q E h => ?_) (fun cdv A outer s H vs Q E hr h => ?_)
  · obtain ⟨M, ds, n, st, v, k, key, rfl, _⟩ := h; rfl
  · obtain ⟨M, ds, n, st, v, k, key, rfl, fr, S, hn, k1, k2⟩ := h
    refine ⟨_, (pss_cons (ps_set (i := 3) sc_S_letter.nd rfl (Or.inl rfl) (pe_meth (pv 0) T.cl T.m_S_shelf (ok_S_shelf T) (hr.mono (by decide)) T.b_S_shelf .nil (passes_call (takes_of rfl rfl rfl rfl) (fun _ _ _ _ h => h)) (pa_cons (pv 1) (pa_cons (pv 2) pa_nil))))
  (pss_one (ps_ret (pe_tup (pa_cons (pv 2) (pa_cons (pe_ix (r := rIxT K) ix_tup (pv 3) pe_int (fun _ _ => rfl)) (pa_cons (pe_callTy (r := rTup K) cl_tup rfl T.n_tuple (by decide +kernel) (pa_cons (pe_ix (r := rIxT K) ix_tup (pv 3) pe_int (fun _ _ => rfl)) pa_nil)) pa_nil))))))), ?_⟩
    walk_at "w"
    refine w_mth S (by decide +kernel) (by decide +kernel) ?_
    walk_at "w"
    refine ⟨M, ds, n, st, v, k, key, rfl, fr, S, hn, fun kk kv ek hk hkv v1 H1 s1 r1 => ?_, fun hk => k2 hk⟩
    have k1 := k1 kk kv ek hk hkv
    walk_at "w"
    refine w_shelf0 r1 fun v2 r2 => ?_
    walk_at "w"
    refine w_shelf1 r1 fun v3 r3 => ?_
    walk_at "w"
    refine w_tupleL r3 fun v4 H4 s4 r4 => ?_
    walk_at "w"
    refine w_newT (M := fun _ => False) (ds := [.str key, markD (shelfOf n kv key).1, .tuple ((shelfOf n kv key).2.map rowD)]) (RpA.nil.cons (Rp.rowsT r4) |>.cons (Rp.mark (r2.same s4)) |>.cons (.str key)) (by show 3 ≤ sizeLine; decide) fun v5 H5 s5 r5 => ?_
    refine k1 v5 H5 (Same.trans s1 (Same.trans s4 s5)) fun M' => ?_
    obtain ⟨p, xs, rfl, hp, r⟩ := r5.tup_inv
    refine .tupA hp ?_
    match xs, r with
    | [x1, x2, x3], r => exact RpA.nil.cons (Rp.rowsT r.tail.tail.head) |>.cons (Rp.mark r.tail.head) |>.cons (by have := r.head.str_inv; rw [this]; exact .str key)
    | [], r => exact absurd r.1 (by simp)
    | [_], r => exact absurd r.1 (by simp)
    | [_, _], r => exact absurd r.1 (by simp)
    | _ :: _ :: _ :: _ :: _, r => exact absurd r.1 (by simp)
theorem ok_S_take (T : Txt K mg a) : FnOk P w K mg base (L2.CX P w) 4 a.f_S_take a.d_S_take ["self", "keeper", "letter"] (sp_S_take a) := by
  refine T.F_S_take.okX sc_S_take (fun vs H Q E h => ?_) (fun cdv A outer s H vs Q E hr h => ?_)
  · obtain ⟨M, ds, n, st, v, x, k, key, sh, rfl, _⟩ := h; rfl
  · obtain ⟨M, ds, n, st, v, x, k, key, sh, rfl, fr, S, hn, hx, hsh, k1, k2⟩ := h
    have hu := hu_of hr
    refine ⟨_, (pss_cons (ps_set (i := 3) sc_S_take.nd rfl (Or.inl rfl) (pe_meth (pv 0) T.cl T.m_S_shelf (ok_S_shelf T) (hr.mono (by decide)) T.b_S_shelf .nil (passes_call (takes_of rfl rfl rfl rfl) (fun _ _ _ _ h => h)) (pa_cons (pv 1) (pa_cons (pe_ix (r := rIxT K) ix_tup (pv 2) pe_int (fun _ _ => rfl)) pa_nil))))
  (pss_one (ps_dput hu (pe_ix (r := rIxL K) ix_list (pe_fldK K rfl (pv 0) rfl) (pv 1) (fun _ _ => rfl)) (pe_ix (r := rIxT K) ix_tup (pv 2) pe_int (fun _ _ => rfl)) (pe_call (ok_met T) (hr.mono (by decide)) rfl T.g_met T.k_met T.b_met .nil passL (pa_cons (pv 3) (pa_cons (pe_tup (pa_cons (pe_ix (r := rIxT K) ix_tup (pv 2) pe_int (fun _ _ => rfl)) (pa_cons (pe_callTy (r := rLst K) cl_lst rfl T.n_list (by decide +kernel) (pa_cons (pe_ix (r := rIxT K) ix_tup (pv 2) pe_int (fun _ _ => rfl)) pa_nil)) pa_nil))) pa_nil))) rfl))), ?_⟩
    walk_at "w"
    refine w_mth S (by decide +kernel) (by decide +kernel) ?_
    walk_at "w"
    refine w_ixT 0 (hx M) rfl (d := .str key) rfl fun vk rk => ?_
    obtain rfl := rk.str_inv
    walk_at "w"
    refine ⟨M, ds, n, st, v, k, key, rfl, fr, S, hn, fun kk kv ek hk hkv v1 H1 s1 r1 => ?_, fun hk => k2 hk⟩
    subst ek
    have S1 := S.same s1
    have fr1 := fr.same s1
    have hx1 := (hx M).same s1
    obtain ⟨dk, hdk⟩ : ∃ dk, ds[kk]? = some dk := ⟨_, List.getElem?_eq_getElem (by rw [S.dl]; exact hk)⟩
    obtain ⟨sok, kvl, k1⟩ := k1 kk kv dk rfl hk hkv hdk
    walk_at "w"
    refine w_ixT 1 hx1 rfl (d := markD sh.1) rfl fun v2 r2 => ?_
    walk_at "w"
    refine w_ixT 2 hx1 rfl (d := .tuple (sh.2.map rowD)) rfl fun v3 r3 => ?_
    walk_at "w"
    refine w_listT fr1 r3 fun v4 H4 s4 r4 => ?_
    walk_at "w"
    refine w_newT (Rp.shelf (s := sh) (r2.same s4) r4) (by show 2 ≤ sizeLine; decide) fun v5 H5 s5 r5 => ?_
    have r5 : Rp M H5 v5 (shelfD sh) := r5
    have s15 := Same.trans s4 s5
    have fr5 := fr1.same s15
    walk_at "w"
    refine ⟨M, n, v1, v5, shelfOf n kv key, sh, rfl, fr5, r1.same s15, r5, sok.len, hsh.len, hn, sok.rin, hsh.rin, sok.few, hsh.few, fun v6 H6 s6 r6 => ?_⟩
    have r6 := r6.old fr5
    have S6 := (S1.same s15).same s6
    walk_at "w"
    refine w_kept S6 T.cl T.nA_kept fun l ml hl => ?_
    walk_at "w"
    refine w_dictAt S6 hl hk fun d2 kv2 kvs hd2 hkv2 hdk2 rel => ?_
    rw [hdk] at hd2
    cases hd2
    rw [hkv] at hkv2
    cases hkv2
    walk_at "w"
    refine w_ixT 0 ((hx1.same s15).same s6) rfl (d := .str key) rfl fun vk rk => ?_
    obtain rfl := rk.str_inv
    refine ⟨dk, _, rfl, DPut.k (k := Sum.inr key) hdk2 (by rw [rel.len]; exact sz_smallL (by omega)), ?_⟩
    exact k1 _ (But.trans (But.same (Same.trans s1 (Same.trans s15 s6))) (But.upd _)) (S6.put hdk hkv r6 hdk2 rel)
end
end Sb

namespace Sb
open PySem L2 PyProof.Rows
/-- the keys told -/
def keysOf (n : Nat) (kv : KV1) : List Str := sortX ((kv.map (·.1)).filter fun s => decide (0 < (shelfOf n kv s).2.length))
def keysD (ks : List Str) : PyData := .list (ks.map PyData.str)
theorem w_iKeys {te : TE} {σ : L2.St} {H : Hp} {R : It → Hp → Prop} (q : te σ H fun x H1 => ∃ d o, x = .ref d ∧ ((∃ kvs, H1 d = some (.frz o (.dK kvs)) ∧ R (Itk d o kvs) H1) ∨ ∃ kvs, H1 d = some (.frz o (.dT kvs)) ∧ R (Itkt d o kvs) H1)) : iKeys te σ H R := q
def sp_S_keys (a : Ad) : Sp := fun vs H Q E => ∃ (M : Addr → Prop) (ds : List Addr) (n : Nat) (st : Kept) (v : V) (k : Int), vs = [v, .int k] ∧ StoreAt M H a.C v ds n st ∧ n ≤ 9 ∧
  (∀ (kk : Nat) (kv : KV1), k = kk → kk < n → st[kk]? = some kv → kv.length ≤ 1000 ∧ (∀ s ∈ kv.map (·.1), ShOk n (shelfOf n kv s)) ∧ ∀ v' H', Same H H' → Rp (Old H) H' v' (keysD (keysOf n kv)) → Q v' H') ∧ (¬ (0 ≤ k ∧ k < n) → E (.ref a.C_NoKeeper) none H)
section
variable {P : Program} {w : World} {K : Frag} {mg : Str → Option Value} {base : Heap} {a : Ad}
local macro_rules | `(tactic| walk_at "e1") => `(tactic| first
  | ((with_reducible refine' w_var ?wh ?_); (case wh => rfl))
  | with_reducible refine w_c ?_
  | with_reducible refine w_projn ?_
  | with_reducible refine w_projr ?_
  | with_reducible refine w_op ?_
  | with_reducible refine w_cons ?_
  | with_reducible refine w_nil ?_
  | with_reducible refine w_I0 ?_
  | ((with_reducible refine w_I ?wc ?_); (case wc => first | (show (0 : Int) < _; decide) | exact ⟨by decide, by decide⟩ | exact ⟨by decide, by decide, by decide⟩ | exact Or.inr ⟨by decide, by decide⟩ | exact Or.inl ⟨by decide, by decide⟩ | (show (0 : Int) < _; omega) | exact ⟨by omega, by omega⟩))
  | with_reducible refine w_bl ?_
  | with_reducible refine w_test ?_
  | with_reducible refine w_tB ?_
  | with_reducible refine w_set ?_
  | with_reducible refine w_ifS ?_
  | with_reducible refine w_if ?_
  | with_reducible refine w_or ?_
  | with_reducible refine w_and ?_
  | with_reducible refine w_not ?_
  | with_reducible refine w_orV ?_
  | with_reducible refine w_andV ?_
  | with_reducible refine w_notV ?_
  | with_reducible refine w_ret ?_
  | with_reducible refine w_retN ?_
  | with_reducible refine w_drop ?_
  | with_reducible refine w_next ?_
  | with_reducible refine w_un ?_
  | with_reducible refine w_CB ?_
  | with_reducible refine w_call ?_
  | with_reducible refine w_callS ?_
  | with_reducible refine w_gName ?_
  | with_reducible refine w_asg ?_
  | with_reducible refine w_tTup ?_
  | with_reducible refine w_tLst ?_
  | with_reducible refine w_lc ?_
  | with_reducible refine w_iRng1 ?_
  | with_reducible refine w_iRng2 ?_
  | with_reducible refine w_iList ?_
  | with_reducible refine w_iTup ?_
  | with_reducible refine w_for ?_
  | with_reducible refine w_chain ?_
  | with_reducible refine w_sl ?_
  | with_reducible refine w_part ?_
  | with_reducible refine w_nopart ?_
  | with_reducible refine w_exint ?_
  | with_reducible refine w_dput ?_
  | with_reducible refine w_gSub ?_
  | with_reducible refine w_tFld ?_
  | with_reducible refine w_tMeth ?_
  | with_reducible refine w_sFld ?_
  | with_reducible refine w_dget2 ?_
  | with_reducible refine w_dget ?_
  | with_reducible refine w_bm ?_
  | with_reducible refine w_isiII ?_
  | with_reducible refine w_isiIB ?_
  | with_reducible refine w_isiBB ?_
  | with_reducible refine w_max ?_
  | ((with_reducible refine w_eq ?we ?_); (case we => rfl))
  | ((with_reducible refine w_ne ?we ?_); (case we => rfl)))
local macro_rules | `(tactic| walk_at "w1") => `(tactic| first | walk_at "e1" | with_reducible refine w_seq ?_)
local macro_rules | `(tactic| walk_at "e") => `(tactic| repeat walk_at "e1")
local macro_rules | `(tactic| walk_at "w") => `(tactic| repeat walk_at "w1")

theorem ok_S_keys (T : Txt K mg a) : FnOk P w K mg base (L2.CX P w) 2 a.f_S_keys a.d_S_keys ["self", "keeper"] (sp_S_keys a) := by
  refine T.F_S_keys.okX sc_S_keys (fun vs H Q E h => ?_) (fun cdv A outer s H vs Q E hr h => ?_)
  · obtain ⟨M, ds, n, st, v, k, rfl, _⟩ := h; rfl
  · obtain ⟨M, ds, n, st, v, k, rfl, S, hn, k1, k2⟩ := h
    have hu := hu_of hr
    refine ⟨_, (pss_cons (ps_expr (pe_meth (pv 0) T.cl T.m_S_need_keeper (ok_S_need_keeper T) (hr.mono (by decide)) T.b_S_need_keeper .nil (passes_call (takes_of rfl rfl rfl rfl) (fun _ _ _ _ h => h)) (pa_cons (pv 1) pa_nil)))
  (pss_one (ps_ret (pe_callB (r := rSortedX K) cr_sortedX rfl T.n_sorted (by decide +kernel) (pa_cons (pe_lock (pe_lc (own := [("key", 2)]) rfl sc_S_keys.nd (pi_keys (pe_ix (r := rIxL K) ix_list (pe_fldK K rfl (pv 0) rfl) (pv 1) (fun _ _ => rfl))) (blkOk_by (own := [("key", 2)]) (N := N_S_keys) (sc := defScope s_S_keys) (by decide +kernel)) (fun _ _ _ _ _ => (pg_name (i := 2) sc_S_keys.nd rfl (by first | exact Or.inl rfl | exact Or.inr rfl))) (fun _ _ _ _ _ => (pts_one (pt_cmpR op_gt (pe_callB (r := rLen K) cl_len rfl T.n_len (by decide +kernel) (pa_cons (pe_ix (r := rIxT K) ix_tup (pe_dget hu (pe_ix (r := rIxL K) ix_list (pe_fldK K rfl (pv 0) rfl) (pv 1) (fun _ _ => rfl)) (pv 2) (fun _ _ => rfl)) pe_int (fun _ _ => rfl)) pa_nil)) pe_int (nomark _)))) (fun _ _ _ _ _ => (pv 2)))) pa_nil))))), ?_⟩
    walk_at "w"
    refine w_mth S (by decide +kernel) (by decide +kernel) ?_
    walk_at "w"
    refine ⟨M, ds, n, st, v, k, rfl, S, hn, fun hk => ?_, fun hk => k2 hk⟩
    obtain ⟨kk, rfl⟩ : ∃ kk : Nat, k = kk := ⟨k.toNat, by omega⟩
    have hkn : kk < n := by omega
    obtain ⟨d, hd⟩ : ∃ d, ds[kk]? = some d := ⟨_, List.getElem?_eq_getElem (by rw [S.dl]; exact hkn)⟩
    obtain ⟨kv, hkv⟩ : ∃ kv, st[kk]? = some kv := ⟨_, List.getElem?_eq_getElem (by rw [S.sl]; exact hkn)⟩
    obtain ⟨kvl, oks, k1⟩ := k1 kk kv rfl hkn hkv
    obtain ⟨kvs, hdk, rel⟩ := S.dic kk d kv hd hkv
    obtain ⟨p, dx, l, vf, rfl, h1, h2, h3, h4⟩ := S.obj
    walk_at "w"
    refine ⟨d, .dK kvs, hdk, trivial, fun od => ?_⟩
    have bf : But d H (upd H d (.frz od (.dK kvs))) := But.upd _
    have ef : Ext M M H (upd H d (.frz od (.dK kvs))) := bf.ext fun xs => ⟨fun z => (by rw [hdk] at z; cases z), fun _ z => (by rw [hdk] at z; cases z)⟩
    have hp : ∀ H', Same (upd H d (.frz od (.dK kvs))) H' → H' p = some (.ins a.C dx (sflds vf l)) ∧ H' l = some (.lst (ds.map V.ref)) ∧ H' d = some (.frz od (.dK kvs)) := fun H' s =>
      ⟨s _ _ (bf _ _ (fun z => by subst z; rw [hdk] at h1; cases h1) h1), s _ _ (bf _ _ (fun z => by subst z; rw [hdk] at h4; cases h4) h4), s _ _ upd_same⟩
    have hat : (ds.map V.ref)[kk]? = some (.ref d) := by rw [List.getElem?_map, hd]; rfl
    generalize hHf : upd H d (.frz od (.dK kvs)) = Hf at bf ef hp
    obtain ⟨p1, p2, p3⟩ := hp Hf (Same.refl _)
    walk_at "w"
    refine w_iKeys ?_
    walk_at "w"
    refine ⟨p, a.C, dx, _, _, rfl, p1, T.cl, T.nA_kept, sflds_kept _ _, ?_⟩
    walk_at "w"
    refine w_ixS kk (SqL.of p2) rfl hat ?_
    refine ⟨d, od, rfl, .inl ⟨kvs, p3, fun D hD => ?_⟩⟩
    have hDd : D ≠ d := fun z => by rw [z, p3] at hD; cases hD
    refine lc_it walk_keys (fun i H' => Same Hf H' ∧ H' D = some (.lst ((((kv.map (·.1)).take i).filter fun s => decide (0 < (shelfOf n kv s).2.length)).map V.str))) ⟨Same.new hD, by simpa using upd_same⟩ (fun i H' _ q => (hp H' q.1).2.2) ?_ ?_
    · rintro i x H1 H' hi ⟨s1, hDl⟩ ⟨rfl, ky, vv, hki, rfl⟩
      rw [rel.len] at hi
      obtain ⟨xs, hx, rx⟩ := rel.at (List.getElem?_eq_getElem hi)
      rw [hx] at hki
      have hki := Option.some.inj hki
      obtain rfl : Sum.inr kv[i].1 = ky := (Prod.mk.inj hki).1
      have hkm : (kv.map (·.1))[i]? = some kv[i].1 := by rw [List.getElem?_map, List.getElem?_eq_getElem hi]; rfl
      have et : (kv.map (·.1)).take (i + 1) = (kv.map (·.1)).take i ++ [kv[i].1] := by
        rw [List.take_succ, hkm]; rfl
      generalize kv[i].1 = s at hkm et hx
      have sok := oks s (List.mem_of_getElem? hkm)
      obtain ⟨q1, q2, q3⟩ := hp H' s1
      refine w_it1 rfl ?_
      walk_at "w"
      refine ⟨p, a.C, dx, _, _, rfl, q1, T.cl, T.nA_kept, sflds_kept _ _, ?_⟩
      walk_at "w"
      refine w_ixS kk (SqL.of q2) rfl hat ?_
      walk_at "w"
      have hget : ∃ x sh, valV kvs (Sum.inr s : Key) = some x ∧ aGet kv s = some sh ∧ Rp M H' x (shelfD sh) := by
        rcases ((rel.ext ef).ext (.same s1)).get (s := s) with ⟨g1, g2⟩ | g
        · exfalso
          have : s ∈ kv.map (·.1) := List.mem_of_getElem? hkm
          obtain ⟨q, hq, e⟩ := List.mem_map.mp this
          have := aGet_any s kv
          rw [g2] at this
          have h0 : (kv.any fun p => decide (p.1 = s)) = true := List.any_eq_true.mpr ⟨q, hq, decide_eq_true e⟩
          rw [h0] at this; cases this
        · exact g
      obtain ⟨x, sh, g1, g2, g3⟩ := hget
      have esh : shelfOf n kv s = sh := by unfold shelfOf; rw [g2]; rfl
      refine ⟨d, x, rfl, .inl ⟨kvs, .inr s, .inr ⟨od, q3⟩, rfl, g1.symm⟩, ?_⟩
      walk_at "w"
      refine w_shelf1 g3 fun v2 r2 => ?_
      walk_at "w"
      refine w_lenL r2 ?_
      walk_at "w"
      rw [List.length_map]
      have hlt : ((((kv.map (·.1)).take i).filter fun s => decide (0 < (shelfOf n kv s).2.length)).map V.str).length < sizeLine := by
        refine sz_smallL ?_
        rw [List.length_map]
        have := List.length_filter_le (fun s => decide (0 < (shelfOf n kv s).2.length)) ((kv.map (·.1)).take i)
        rw [List.length_take, List.length_map] at this
        omega
      by_cases h0 : 0 < sh.2.length
      · refine iteD (by omega) ?_
        walk_at "w"
        refine ⟨_, hDl, hlt, fun b o e => ?_, ?_⟩
        · rw [upd_ne (ne_of_none e hD)]; exact s1 b o e
        · rw [upd_same, et, List.filter_append, List.map_append, List.filter_cons_of_pos (by rw [esh]; exact decide_eq_true h0)]; rfl
      · refine iteDn (by omega) ?_
        refine ⟨s1, ?_⟩
        rw [hDl, et, List.filter_append, List.filter_cons_of_neg (by rw [esh]; simpa using h0)]
        simp
    · rintro H' ⟨s1, hDl⟩
      obtain ⟨q1, q2, q3⟩ := hp H' s1
      refine ⟨q3, ?_⟩
      have sH : Same H (upd H' d (.dK kvs)) := fun b o e => by
        by_cases z : b = d
        · subst z; rw [upd_same, ← hdk]; exact e
        · rw [upd_ne z]; exact s1 _ _ (bf _ _ z e)
      have hDl : upd H' d (.dK kvs) D = some (.lst ((((kv.map (·.1)).take kvs.length).filter fun s => decide (0 < (shelfOf n kv s).2.length)).map V.str)) := by rw [upd_ne hDd]; exact hDl
      rw [rel.len, ← List.length_map (as := kv) (f := (·.1)), List.take_length] at hDl
      walk_at "w"
      refine ⟨D, _, rfl, SqL.of hDl, fun q hq => ?_⟩
      refine k1 _ _ (Same.trans sH (Same.new hq)) (.lstA (fun z => z (sH.free hq)) upd_same RpA.strs)
end
end Sb

namespace Sb
open PySem L2 PyProof.Rows
/-- the one key, told where something stands -/
def oneKeys (key : Str) (s : Shelf) : List Str := if s.2 = [] then [] else [key]
theorem sortX_one (x : Str) : sortX [x] = [x] := (sortX_uniq (List.Perm.refl _) (List.pairwise_singleton _ _)).symm
theorem sortX_nil : sortX [] = [] := (sortX_uniq (List.Perm.refl _) List.Pairwise.nil).symm
theorem keysOf_one {n : Nat} {key : Str} {kv : KV1} (h : One key kv) : keysOf n kv = oneKeys key (shelfOf n kv key) := by
  unfold keysOf oneKeys
  rcases h with rfl | ⟨sh, rfl⟩
  · show sortX [] = if ([] : List Row) = [] then [] else [key]
    rw [if_pos rfl, sortX_nil]
  · have e : shelfOf n [(key, sh)] key = sh := by
      unfold shelfOf
      rw [aGet_cons, if_pos rfl]; rfl
    rw [e]
    show sortX ([key].filter _) = _
    rw [List.filter_cons, e]
    by_cases h : sh.2 = []
    · rw [if_pos h, if_neg (by rw [h]; simp)]
      exact sortX_nil
    · rw [if_neg h, if_pos (decide_eq_true (List.length_pos_iff.mpr h))]
      exact sortX_one key
section
variable {a : Ad} {M M' : Addr → Prop} {H : Hp} {v x : V} {ds : List Addr} {n : Nat} {key : Str} {f : Nat → Shelf} {Q : VK} {E : XK} {k : Nat} {i : Int} {m : List Int} {val : Int} {sh : Shelf}
theorem look_one (S : OneAt M H a.C v ds n key f) (fr : Fr M H) (hn : n ≤ 9) (ei : i = k) (hk : k < n) (ok : ShOk n (f k)) (q : ∀ v' H', Same H H' → Rp (Old H) H' v' (lookD (f k)) → Q v' H') : sp_S_look a [v, .int i, .str key] H Q E := by
  obtain ⟨st, kv, dk, S, h1, h2, h3, h4, b⟩ := S.at hk
  refine ⟨M, ds, n, st, v, i, key, rfl, fr, S, hn, fun kk kv' e hkk hkv => ?_, fun z => absurd ⟨by omega, by omega⟩ z⟩
  obtain rfl : kk = k := by omega
  rw [h1] at hkv
  cases hkv
  rw [h4]
  exact ⟨ok, q⟩
/-- a look at another key -/
theorem look_other {key' : Str} (S : OneAt M H a.C v ds n key f) (fr : Fr M H) (hn : n ≤ 9) (ei : i = k) (hk : k < n) (ne : ¬ key' = key) (q : ∀ v' H', Same H H' → Rp (Old H) H' v' (lookD (List.replicate n 0, [])) → Q v' H') : sp_S_look a [v, .int i, .str key'] H Q E := by
  obtain ⟨st, kv, dk, S, h1, h2, h3, h4, b⟩ := S.at hk
  refine ⟨M, ds, n, st, v, i, key', rfl, fr, S, hn, fun kk kv' e hkk hkv => ?_, fun z => absurd ⟨by omega, by omega⟩ z⟩
  obtain rfl : kk = k := by omega
  rw [h1] at hkv
  cases hkv
  rw [h3.other ne]
  exact ⟨.start n, q⟩
theorem letter_one (S : OneAt M H a.C v ds n key f) (fr : Fr M H) (hn : n ≤ 9) (ei : i = k) (hk : k < n) (q : ∀ v' H', Same H H' → (∀ M', Rp M' H' v' (letterD key (f k))) → Q v' H') : sp_S_letter a [v, .int i, .str key] H Q E := by
  obtain ⟨st, kv, dk, S, h1, h2, h3, h4, b⟩ := S.at hk
  refine ⟨M, ds, n, st, v, i, key, rfl, fr, S, hn, fun kk kv' e hkk hkv => ?_, fun z => absurd ⟨by omega, by omega⟩ z⟩
  obtain rfl : kk = k := by omega
  rw [h1] at hkv
  cases hkv
  rw [h4]
  exact q
theorem keys_one (S : OneAt M H a.C v ds n key f) (hn : n ≤ 9) (ei : i = k) (hk : k < n) (ok : ShOk n (f k)) (q : ∀ v' H', Same H H' → Rp (Old H) H' v' (keysD (oneKeys key (f k))) → Q v' H') : sp_S_keys a [v, .int i] H Q E := by
  obtain ⟨st, kv, dk, S, h1, h2, h3, h4, b⟩ := S.at hk
  refine ⟨M, ds, n, st, v, i, rfl, S, hn, fun kk kv' e hkk hkv => ?_, fun z => absurd ⟨by omega, by omega⟩ z⟩
  obtain rfl : kk = k := by omega
  rw [h1] at hkv
  cases hkv
  have := h3.len
  refine ⟨by omega, fun s hs => ?_, ?_⟩
  · by_cases e : s = key
    · rw [e, h4]; exact ok
    · rw [h3.other e]; exact .start n
  · rw [keysOf_one h3, h4]
    exact q
theorem put_one (S : OneAt M H a.C v ds n key f) (fr : Fr M H) (hn : n ≤ 9) (ei : i = k) (hk : k < n) (hx : Rp M' H x (markD m)) (hm : isMk n (markD m) = true) (ok : ShOk n (f k)) (q : ∀ H', Keep H H' → OneAt M H' a.C v ds n key (setF f k (putOn (f k) k val m)) → Q .non H') :
    sp_S_put a [v, .int i, .str key, .int val, x] H Q E := by
  obtain ⟨st, kv, dk, S, h1, h2, h3, h4, b⟩ := S.at hk
  refine ⟨M, M', ds, n, st, v, x, i, key, val, markD m, rfl, fr, S, hn, hx, okMk_mark m, fun kk kv' dk' m' e hkk hkv hdk em hm' => ?_, fun z => absurd ⟨by omega, by omega⟩ z, fun _ z => by rw [hm] at z; cases z⟩
  obtain rfl : kk = k := by omega
  rw [h1] at hkv
  cases hkv
  rw [h2] at hdk
  cases hdk
  obtain rfl : m = m' := by
    have : m.map PyData.int = m'.map PyData.int := by injection em
    exact (List.map_inj_right fun x y h => by injection h).mp this
  have := h3.len
  rw [h4]
  exact ⟨ok, by omega, fun H' bt S' => q H' (S.keep S' (List.mem_of_getElem? h2) bt) (OneAt.put b h1 S')⟩
theorem drop_one (S : OneAt M H a.C v ds n key f) (fr : Fr M H) (hn : n ≤ 9) (ei : i = k) (hk : k < n) (hx : Rp M' H x (markD m)) (hm : isMk n (markD m) = true) (ok : ShOk n (f k)) (q : ∀ H', Keep H H' → OneAt M H' a.C v ds n key (setF f k (droppedS (f k) m)) → Q .non H') :
    sp_S_drop a [v, .int i, .str key, x] H Q E := by
  obtain ⟨st, kv, dk, S, h1, h2, h3, h4, b⟩ := S.at hk
  refine ⟨M, M', ds, n, st, v, x, i, key, markD m, rfl, fr, S, hn, hx, okMk_mark m, fun kk kv' dk' m' e hkk hkv hdk em hm' => ?_, fun z => absurd ⟨by omega, by omega⟩ z, fun _ z => by rw [hm] at z; cases z⟩
  obtain rfl : kk = k := by omega
  rw [h1] at hkv
  cases hkv
  rw [h2] at hdk
  cases hdk
  obtain rfl : m = m' := by
    have : m.map PyData.int = m'.map PyData.int := by injection em
    exact (List.map_inj_right fun x y h => by injection h).mp this
  have := h3.len
  rw [h4]
  exact ⟨ok, by omega, fun H' bt S' => q H' (S.keep S' (List.mem_of_getElem? h2) bt) (OneAt.put b h1 S')⟩
theorem take_one (S : OneAt M H a.C v ds n key f) (fr : Fr M H) (hn : n ≤ 9) (ei : i = k) (hk : k < n) (hx : ∀ M', Rp M' H x (letterD key sh)) (ok : ShOk n (f k)) (oks : ShOk n sh) (q : ∀ H', Keep H H' → OneAt M H' a.C v ds n key (setF f k (metS (f k) sh)) → Q .non H') :
    sp_S_take a [v, .int i, x] H Q E := by
  obtain ⟨st, kv, dk, S, h1, h2, h3, h4, b⟩ := S.at hk
  refine ⟨M, ds, n, st, v, x, i, key, sh, rfl, fr, S, hn, hx, oks, fun kk kv' dk' e hkk hkv hdk => ?_, fun z => absurd ⟨by omega, by omega⟩ z⟩
  obtain rfl : kk = k := by omega
  rw [h1] at hkv
  cases hkv
  rw [h2] at hdk
  cases hdk
  have := h3.len
  rw [h4]
  exact ⟨ok, by omega, fun H' bt S' => q H' (S.keep S' (List.mem_of_getElem? h2) bt) (OneAt.put b h1 S')⟩
end
end Sb
namespace Sb
open PySem L2 PyProof.Rows
def rMake (C : Addr) (sp : Sp) (dvs : List V) (E : XK) (vs : List V) (H1 : Hp) (Q : VK) : Prop := ∀ x dx, H1 x = none → H1 dx = none → dx ≠ x →
  sp (.ref x :: (vs ++ dvs)) (upd (upd H1 dx (.own x)) x (.ins C dx [])) (fun v H2 => v = .non ∧ Q (.ref x) H2) E
theorem w_tMake {C : Addr} {sp : Sp} {dvs : List V} {E : XK} {t : TA} {σ : L2.St} {H : Hp} {Q : VK} (q : t σ H fun vs H1 => rMake C sp dvs E vs H1 Q) : tMake C sp dvs E t σ H Q := q
/-- a store is made -/
theorem make_one {a : Ad} {H : Hp} {E : XK} {Q : VK} {i : Int} {n : Nat} (key : Str) (ei : i = n) (h1 : 1 ≤ n) (h9 : n ≤ 9) (q : ∀ v H' ds, Same H H' → OneAt (Old H) H' a.C v ds n key (fun _ => (List.replicate n 0, [])) → (∀ d ∈ ds, H d = none) → Q v H') : rMake a.C (sp_S_init a) [] E [.int i] H Q := by
  intro x dx hx hdx ne
  subst ei
  refine ⟨x, dx, _, rfl, upd_same, fun _ ds H' bt S hd => ⟨rfl, ?_⟩, fun z => absurd ⟨by omega, by omega⟩ z⟩
  have s0 : Same H (upd (upd H dx (.own x)) x (.ins a.C dx [])) := fun b o e => by
    rw [upd_ne (ne_of_none e hx), upd_ne (ne_of_none e hdx)]; exact e
  refine q _ H' ds (fun b o e => bt b o (ne_of_none e hx) (s0 b o e)) ?_ fun d hd' => s0.free (hd d hd')
  rw [Int.toNat_natCast] at S
  exact (OneAt.start S).less fun b hb z => hb (s0.free z)
end Sb
namespace Sb
open PySem L2 PyProof.Rows
theorem cut_int {ns : List Int} {ys : List V} {lo hi : Option Int} (h : cutV (ns.map V.int) lo hi = ys) {i : Nat} {y : V} (e : ys[i]? = some y) : ∃ c, y = .int c := by
  have h1 : y ∈ ns.map V.int := by
    have h2 := List.mem_of_getElem? e
    rw [← h] at h2
    exact List.mem_of_mem_drop (List.mem_of_mem_take h2)
  obtain ⟨c, _, rfl⟩ := List.mem_map.mp h1
  exact ⟨c, rfl⟩
theorem mod_nat (c : Int) {n : Nat} (h : 1 ≤ n) : ∃ k : Nat, c % (n : Int) = k ∧ k < n := ⟨(c % (n : Int)).toNat, by have := Int.emod_nonneg c (show (n : Int) ≠ 0 by omega); omega, by
  have := Int.emod_nonneg c (show (n : Int) ≠ 0 by omega)
  have := Int.emod_lt_of_pos c (show (0 : Int) < n by omega)
  omega⟩
theorem w_gTup {K : Frag} {n : Nat} {t : TGs} {p : Addr} {xs : List V} {σ : L2.St} {H : Hp} {Q : L2.St → Hp → Prop} (h : H p = some (.tup xs)) (hl : xs.length = n) (q : t xs σ H Q) : gTup K n t (.ref p) σ H Q := ⟨p, xs, rfl, SqT.of h, hl, q⟩
theorem w_gCons {t : TG} {u : TGs} {v : V} {r : List V} {σ : L2.St} {H : Hp} {Q : L2.St → Hp → Prop} (q : t v σ H fun σ' H' => u r σ' H' Q) : gCons t u (v :: r) σ H Q := ⟨v, r, rfl, q⟩
theorem w_gNil {σ : L2.St} {H : Hp} {Q : L2.St → Hp → Prop} (q : Q σ H) : gNil [] σ H Q := ⟨rfl, q⟩
end Sb

namespace Sb
open PySem L2 PyProof.Rows
theorem keysOf_key {n : Nat} {kv : KV1} {Ks : List Str} {f : Str → Shelf} (nd : (kv.map (·.1)).Nodup) (sub : ∀ s ∈ kv.map (·.1), s ∈ Ks) (e : ∀ s, shelfOf n kv s = f s) (ndK : Ks.Nodup) : keysOf n kv = sortX (Ks.filter fun s => decide (0 < (f s).2.length)) := by
  unfold keysOf
  refine sortX_ext (nd.filter _) (ndK.filter _) fun s => ?_
  rw [List.mem_filter, List.mem_filter, e s]
  constructor
  · rintro ⟨h1, h2⟩
    exact ⟨sub s h1, h2⟩
  · rintro ⟨_, h2⟩
    refine ⟨?_, h2⟩
    by_cases z : s ∈ kv.map (·.1)
    · exact z
    · rw [← e s, shelf_no z] at h2
      exact absurd (of_decide_eq_true h2) (Nat.lt_irrefl 0)
section
variable {a : Ad} {M M' : Addr → Prop} {H : Hp} {v x : V} {ds : List Addr} {n : Nat} {key : Str} {Ks : List Str} {f : Nat → Str → Shelf} {Q : VK} {E : XK} {k : Nat} {i : Int} {m : List Int} {val : Int} {sh : Shelf}
theorem w_mthK {m : Str} {R : Prop} (S : KeyAt M H a.C v ds n Ks f) (h1 : ¬ m = "first") (h2 : ¬ m = "kept") (q : R) : rMth a.C m v H R := let ⟨_, S, _⟩ := S; w_mth S h1 h2 q
theorem look_key (S : KeyAt M H a.C v ds n Ks f) (fr : Fr M H) (hn : n ≤ 9) (ei : i = k) (hk : k < n) (ok : ShOk n (f k key)) (q : ∀ v' H', Same H H' → Rp (Old H) H' v' (lookD (f k key)) → Q v' H') : sp_S_look a [v, .int i, .str key] H Q E := by
  obtain ⟨st, kv, dk, S, h1, h2, h3, h4, h5, b⟩ := S.at hk
  refine ⟨M, ds, n, st, v, i, key, rfl, fr, S, hn, fun kk kv' e hkk hkv => ?_, fun z => absurd ⟨by omega, by omega⟩ z⟩
  obtain rfl : kk = k := by omega
  rw [h1] at hkv
  cases hkv
  rw [h5]
  exact ⟨ok, q⟩
theorem letter_key (S : KeyAt M H a.C v ds n Ks f) (fr : Fr M H) (hn : n ≤ 9) (ei : i = k) (hk : k < n) (q : ∀ v' H', Same H H' → (∀ M', Rp M' H' v' (letterD key (f k key))) → Q v' H') : sp_S_letter a [v, .int i, .str key] H Q E := by
  obtain ⟨st, kv, dk, S, h1, h2, h3, h4, h5, b⟩ := S.at hk
  refine ⟨M, ds, n, st, v, i, key, rfl, fr, S, hn, fun kk kv' e hkk hkv => ?_, fun z => absurd ⟨by omega, by omega⟩ z⟩
  obtain rfl : kk = k := by omega
  rw [h1] at hkv
  cases hkv
  rw [h5]
  exact q
theorem keys_key (S : KeyAt M H a.C v ds n Ks f) (hn : n ≤ 9) (ei : i = k) (hk : k < n) (ndK : Ks.Nodup) (hK : Ks.length ≤ 1000) (ok : ∀ s, ShOk n (f k s)) (q : ∀ v' H', Same H H' → Rp (Old H) H' v' (keysD (sortX (Ks.filter fun s => decide (0 < (f k s).2.length)))) → Q v' H') : sp_S_keys a [v, .int i] H Q E := by
  obtain ⟨st, kv, dk, S, h1, h2, h3, h4, h5, b⟩ := S.at hk
  refine ⟨M, ds, n, st, v, i, rfl, S, hn, fun kk kv' e hkk hkv => ?_, fun z => absurd ⟨by omega, by omega⟩ z⟩
  obtain rfl : kk = k := by omega
  rw [h1] at hkv
  cases hkv
  have := keys_few h3 h4
  refine ⟨by omega, fun s _ => by rw [h5]; exact ok s, ?_⟩
  rw [keysOf_key h3 h4 h5 ndK]
  exact q
theorem put_key (S : KeyAt M H a.C v ds n Ks f) (fr : Fr M H) (hn : n ≤ 9) (ei : i = k) (hk : k < n) (hs : key ∈ Ks) (hK : Ks.length ≤ 1000) (hx : Rp M' H x (markD m)) (hm : isMk n (markD m) = true) (ok : ShOk n (f k key))
    (q : ∀ H' dk, dk ∈ ds → But dk H H' → Keep H H' → KeyAt M H' a.C v ds n Ks (setK f k key (putOn (f k key) k val m)) → Q .non H') : sp_S_put a [v, .int i, .str key, .int val, x] H Q E := by
  obtain ⟨st, kv, dk, S, h1, h2, h3, h4, h5, b⟩ := S.at hk
  refine ⟨M, M', ds, n, st, v, x, i, key, val, markD m, rfl, fr, S, hn, hx, okMk_mark m, fun kk kv' dk' m' e hkk hkv hdk em hm' => ?_, fun z => absurd ⟨by omega, by omega⟩ z, fun _ z => by rw [hm] at z; cases z⟩
  obtain rfl : kk = k := by omega
  rw [h1] at hkv
  cases hkv
  rw [h2] at hdk
  cases hdk
  obtain rfl : m = m' := by
    have : m.map PyData.int = m'.map PyData.int := by injection em
    exact (List.map_inj_right fun x y h => by injection h).mp this
  have := keys_few h3 h4
  rw [h5]
  exact ⟨ok, by omega, fun H' bt S' => q H' dk (List.mem_of_getElem? h2) bt (S.keep S' (List.mem_of_getElem? h2) bt) (KeyAt.put b h1 hs S')⟩
theorem drop_key (S : KeyAt M H a.C v ds n Ks f) (fr : Fr M H) (hn : n ≤ 9) (ei : i = k) (hk : k < n) (hs : key ∈ Ks) (hK : Ks.length ≤ 1000) (hx : Rp M' H x (markD m)) (hm : isMk n (markD m) = true) (ok : ShOk n (f k key))
    (q : ∀ H' dk, dk ∈ ds → But dk H H' → Keep H H' → KeyAt M H' a.C v ds n Ks (setK f k key (droppedS (f k key) m)) → Q .non H') : sp_S_drop a [v, .int i, .str key, x] H Q E := by
  obtain ⟨st, kv, dk, S, h1, h2, h3, h4, h5, b⟩ := S.at hk
  refine ⟨M, M', ds, n, st, v, x, i, key, markD m, rfl, fr, S, hn, hx, okMk_mark m, fun kk kv' dk' m' e hkk hkv hdk em hm' => ?_, fun z => absurd ⟨by omega, by omega⟩ z, fun _ z => by rw [hm] at z; cases z⟩
  obtain rfl : kk = k := by omega
  rw [h1] at hkv
  cases hkv
  rw [h2] at hdk
  cases hdk
  obtain rfl : m = m' := by
    have : m.map PyData.int = m'.map PyData.int := by injection em
    exact (List.map_inj_right fun x y h => by injection h).mp this
  have := keys_few h3 h4
  rw [h5]
  exact ⟨ok, by omega, fun H' bt S' => q H' dk (List.mem_of_getElem? h2) bt (S.keep S' (List.mem_of_getElem? h2) bt) (KeyAt.put b h1 hs S')⟩
theorem take_key (S : KeyAt M H a.C v ds n Ks f) (fr : Fr M H) (hn : n ≤ 9) (ei : i = k) (hk : k < n) (hs : key ∈ Ks) (hK : Ks.length ≤ 1000) (hx : ∀ M', Rp M' H x (letterD key sh)) (ok : ShOk n (f k key)) (oks : ShOk n sh)
    (q : ∀ H' dk, dk ∈ ds → But dk H H' → Keep H H' → KeyAt M H' a.C v ds n Ks (setK f k key (metS (f k key) sh)) → Q .non H') : sp_S_take a [v, .int i, x] H Q E := by
  obtain ⟨st, kv, dk, S, h1, h2, h3, h4, h5, b⟩ := S.at hk
  refine ⟨M, ds, n, st, v, x, i, key, sh, rfl, fr, S, hn, hx, oks, fun kk kv' dk' e hkk hkv hdk => ?_, fun z => absurd ⟨by omega, by omega⟩ z⟩
  obtain rfl : kk = k := by omega
  rw [h1] at hkv
  cases hkv
  rw [h2] at hdk
  cases hdk
  have := keys_few h3 h4
  rw [h5]
  exact ⟨ok, by omega, fun H' bt S' => q H' dk (List.mem_of_getElem? h2) bt (S.keep S' (List.mem_of_getElem? h2) bt) (KeyAt.put b h1 hs S')⟩
end
/-- a store is made -/
theorem make_key {a : Ad} {H : Hp} {E : XK} {Q : VK} {i : Int} {n : Nat} (ei : i = n) (h1 : 1 ≤ n) (h9 : n ≤ 9) (q : ∀ v H' ds, Same H H' → KeyAt (Old H) H' a.C v ds n [] (fun _ _ => (List.replicate n 0, [])) → (∀ d ∈ ds, H d = none) → Q v H') : rMake a.C (sp_S_init a) [] E [.int i] H Q := by
  intro x dx hx hdx ne
  subst ei
  refine ⟨x, dx, _, rfl, upd_same, fun _ ds H' bt S hd => ⟨rfl, ?_⟩, fun z => absurd ⟨by omega, by omega⟩ z⟩
  have s0 : Same H (upd (upd H dx (.own x)) x (.ins a.C dx [])) := fun b o e => by
    rw [upd_ne (ne_of_none e hx), upd_ne (ne_of_none e hdx)]; exact e
  refine q _ H' ds (fun b o e => bt b o (ne_of_none e hx) (s0 b o e)) ?_ fun d hd' => s0.free (hd d hd')
  rw [Int.toNat_natCast] at S
  exact (KeyAt.start S).less fun b hb z => hb (s0.free z)
end Sb

namespace Sb
open PySem L2
def cell (ns : List Int) (k : Nat) : Int := ns.getD k 0
def sp_cell (K : Frag) : Sp := fun vs H Q _ => ∃ (b : Addr) (ns : List Int) (k : Nat), vs = [.ref b, .int k] ∧ SqL K H b (ns.map V.int) ∧ Q (.int (cell ns k)) H
section
variable {P : Program} {w : World} {K : Frag} {mg : Str → Option Value} {base : Heap} {a : Ad}
local macro_rules | `(tactic| walk_at "e1") => `(tactic| first
  | ((with_reducible refine' w_var ?wh ?_); (case wh => rfl))
  | with_reducible refine w_c ?_
  | with_reducible refine w_projn ?_
  | with_reducible refine w_projr ?_
  | with_reducible refine w_op ?_
  | with_reducible refine w_cons ?_
  | with_reducible refine w_nil ?_
  | with_reducible refine w_I0 ?_
  | ((with_reducible refine w_I ?wc ?_); (case wc => first | (show (0 : Int) < _; decide) | exact ⟨by decide, by decide⟩ | exact ⟨by decide, by decide, by decide⟩ | exact Or.inr ⟨by decide, by decide⟩ | exact Or.inl ⟨by decide, by decide⟩ | (show (0 : Int) < _; omega) | exact ⟨by omega, by omega⟩))
  | with_reducible refine w_bl ?_
  | with_reducible refine w_test ?_
  | with_reducible refine w_tB ?_
  | with_reducible refine w_set ?_
  | with_reducible refine w_ifS ?_
  | with_reducible refine w_if ?_
  | with_reducible refine w_or ?_
  | with_reducible refine w_and ?_
  | with_reducible refine w_not ?_
  | with_reducible refine w_orV ?_
  | with_reducible refine w_andV ?_
  | with_reducible refine w_notV ?_
  | with_reducible refine w_ret ?_
  | with_reducible refine w_retN ?_
  | with_reducible refine w_drop ?_
  | with_reducible refine w_next ?_
  | with_reducible refine w_un ?_
  | with_reducible refine w_CB ?_
  | with_reducible refine w_call ?_
  | with_reducible refine w_callS ?_
  | with_reducible refine w_gName ?_
  | with_reducible refine w_asg ?_
  | with_reducible refine w_tTup ?_
  | with_reducible refine w_tLst ?_
  | with_reducible refine w_lc ?_
  | with_reducible refine w_iRng1 ?_
  | with_reducible refine w_iRng2 ?_
  | with_reducible refine w_iList ?_
  | with_reducible refine w_iTup ?_
  | with_reducible refine w_for ?_
  | with_reducible refine w_chain ?_
  | with_reducible refine w_sl ?_
  | with_reducible refine w_part ?_
  | with_reducible refine w_nopart ?_
  | with_reducible refine w_exint ?_
  | with_reducible refine w_dput ?_
  | with_reducible refine w_gSub ?_
  | with_reducible refine w_sFld ?_
  | with_reducible refine w_dget2 ?_
  | with_reducible refine w_dget ?_
  | with_reducible refine w_bm ?_
  | with_reducible refine w_isiII ?_
  | with_reducible refine w_isiIB ?_
  | with_reducible refine w_isiBB ?_
  | with_reducible refine w_max ?_
  | ((with_reducible refine w_eq ?we ?_); (case we => rfl))
  | ((with_reducible refine w_ne ?we ?_); (case we => rfl)))
local macro_rules | `(tactic| walk_at "w1") => `(tactic| first | walk_at "e1" | with_reducible refine w_seq ?_)
local macro_rules | `(tactic| walk_at "e") => `(tactic| repeat walk_at "e1")
local macro_rules | `(tactic| walk_at "w") => `(tactic| repeat walk_at "w1")

theorem ok_l_cell_at (T : Txt K mg a) : FnOk P w K mg base (L2.CX P w) 1 a.f_l_cell_at a.d_l_cell_at ["_law_script", "_law_k"] (sp_cell K) := by
  refine T.F_l_cell_at.okX sc_l_cell_at (fun vs H Q E h => ?_) (fun cdv A outer s H vs Q E hr h => ?_)
  · obtain ⟨b, ns, k, rfl, _⟩ := h; rfl
  · obtain ⟨b, ns, k, rfl, hs, q⟩ := h
    refine ⟨_, (pss_cons (ps_if (pt_cmpR op_lt (pv 1) (pe_callB (r := rLen K) cl_len rfl T.n_len (by decide +kernel) (pa_cons (pv 0) pa_nil)) (nomark _)) (pss_one (ps_ret (pe_ix (r := rIxL K) ix_list (pv 0) (pv 1) (fun _ _ => rfl)))) pss_nil)
  (pss_one (ps_ret pe_int))), ?_⟩
    walk_at "w"
    refine w_lenS hs ?_
    walk_at "w"
    rw [List.length_map]
    refine ite2 (fun h1 => ?_) (fun h1 => ?_)
    · have hk : k < ns.length := by have := of_decide_eq_true h1; omega
      walk_at "w"
      refine w_ixS k hs rfl (v := .int (cell ns k)) ?_ ?_
      · unfold cell
        rw [List.getElem?_map, List.getD_eq_getElem?_getD, List.getElem?_eq_getElem hk]; rfl
      · exact q
    · have hk : ¬ k < ns.length := fun z => h1 (decide_eq_true (by omega))
      walk_at "w"
      have e : cell ns k = 0 := by
        unfold cell
        rw [List.getD_eq_getElem?_getD, List.getElem?_eq_none (by omega)]; rfl
      rw [e] at q
      exact q
end
end Sb

namespace Sb
open PySem PySem.Spec PyProof.Rows PySem.SeqAt L2
/-! d.update(e), len of a dict of tuples, dict(d), list == [] -/
section
variable {X : Cx}
def rUpdate : V → List V → Hp → VK → Prop := fun x xs H Q => ∃ (a b : Addr) (kvs more : List (Key × V)), x = .ref a ∧ xs = [.ref b] ∧ a ≠ b ∧ H a = some (.dK kvs) ∧ Rd H b (.dK more) ∧ kvs.length + more.length ≤ sizeLine ∧ Q .non (upd H a (.dK (mergeK kvs more)))
theorem mt_update : MtR X "dict.update" rUpdate := by
  intro pins s σ H x xs v us Q I rx rxs h
  obtain ⟨a, b, kvs, more, rfl, rfl, hab, ha, hb, hz, q⟩ := h
  cases rx
  obtain ⟨u, rfl, ru⟩ := rxs.one
  cases ru
  obtain ⟨z, lo, vs, rel, dd⟩ := dk_of I.hok ha
  obtain ⟨z2, lo2, vs2, rel2, dd2⟩ := dk_rd I.hok hb
  have hz' : vs.length + vs2.length ≤ sizeLine := by rw [← rel.length, ← rel2.length]; exact hz
  refine call_meetsIn PySem.F.slot_dict_update dd.typeIs PySem.F.entry_dict_update (PySem.F.args_dict_update_2 _ _) (meets_dict_update (mixKind X.prog X.w) a b hab lo2) ⟨vs, vs2, dd, dd2, hz', fun h' d1 d2 sb => ⟨.non, _, ?_, rfl, q⟩⟩
  have there : ∃ o, h'.get? a = some o := let ⟨o, _, _, ho, _⟩ := d1; ⟨o, ho⟩
  have len : (mergeK kvs more).length ≤ sizeLine := by
    have := length_mergeK more kvs
    omega
  exact d_write (t' := s.toks) I (by rw [ha]; exact True.intro) sb there (dk_new len lo (rel2.merge rel) d1)
def rLenT : List V → Hp → VK → Prop := fun xs H Q => ∃ (a : Addr) (kvs : List (List Key × V)), xs = [.ref a] ∧ H a = some (.dT kvs) ∧ Q (.int kvs.length) H
theorem cl_lenT : CallR X (.builtin "len") rLenT := by
  intro pins s σ H xs us Q I r h
  obtain ⟨a, kvs, rfl, ha, q⟩ := h
  obtain ⟨u, rfl, ru⟩ := vals1 r
  cases ru
  obtain ⟨z, lo, xs', rel, dd⟩ := dt_of I.hok ha
  obtain ⟨o, es, ep, ho, hc, hd, he, _, _⟩ := id dd
  have hl : es.size = kvs.length := by
    have h1 := congrArg List.length he
    rw [Array.length_toList, List.length_map, ← Paired.length rel] at h1
    exact h1
  refine PyProof.Rows.call_len_slot (n := kvs.length) dd.typeIs PySem.F.slot_dict_len (fun Q' hq => ?_) (by omega) (by rw [sizeLine_eq] at z; omega) ?_
  · refine call_len_raw lo ⟨o, ho, hc, hd⟩ ?_
    rw [hl]
    exact hq
  · exact ⟨.int kvs.length, H, I.tok _, ⟨_, rfl⟩, q⟩
def rDictD : List V → Hp → VK → Prop := fun xs H Q => ∃ (a : Addr) (kvs : List (Key × V)), xs = [.ref a] ∧ Rd H a (.dK kvs) ∧ ∀ p, H p = none → Q (.ref p) (upd H p (.dK kvs))
theorem cl_dictD : CallR X (.type "dict") rDictD := call_dictD
/-- x == [], x any list -/
def rEqNil (K : Frag) : R2 := fun x y H Q => ∃ (a b : Addr) (xs : List V), x = .ref a ∧ y = .ref b ∧ SqL K H a xs ∧ H b = some (.lst []) ∧ Q (.bl (decide (xs = []))) H
theorem op_eqNil (hu : X.A.units + 64 < cLine) : OpR X (compareOp .Eq) (rEqNil X.K) := by
  intro pins s σ H x y v u Q I rx ry h
  obtain ⟨a, b, xs, rfl, rfl, ha, hb, q⟩ := h
  by_cases e : xs = []
  · subst e
    have hn : SeqAt.shaped (.list []) = true := by decide +kernel
    refine op_eqD hu pins s σ H (.ref a) (.ref b) v u Q I rx ry ⟨.list [], .list [], .lst ha .nil, .lst (SqL.of hb) .nil, hn, hn, ?_⟩
    have : PyData.eqv (.list []) (.list []) = true := by decide +kernel
    rw [this]
    exact q
  · cases rx
    cases ry
    obtain ⟨i1, r1, l1, _⟩ := I.list ha
    obtain ⟨i2, r2, l2, _⟩ := I.list (SqL.of hb : SqL X.K H b [])
    cases r2
    have hs : (i1.toArray.size != ([] : List Value).toArray.size) = true := by
      have h1 := r1.length
      cases i1 with
      | nil => exact absurd (List.eq_nil_of_length_eq_zero (by rw [h1]; rfl)) e
      | cons z zs => simp
    rw [decide_eq_false e] at q
    exact SeqAt.RcAt.lists_lengths l1.isList l2.isList hs (by omega) X.prog X.w _ _ ⟨.bl false, H, I, rfl, q⟩
end
end Sb

namespace Sb
open PySem L2 PyProof.Rows
def sp_l_value : Sp := fun vs H Q _ => ∃ (c : Int) (b : Bool), vs = [.int c, .bl b] ∧ ∀ i : Int, Q (.int i) H
def sp_l_both : Sp := fun vs H Q _ => ∃ (p q : Addr) (S T : List Nat), vs = [.ref p, .ref q] ∧ Rd H p (.dK (dkv S)) ∧ Rd H q (.dK (dkv T)) ∧ S.length + T.length ≤ 1000 ∧ ∀ r H', H r = none → Same H H' → H' r = some (.dK (dkv (unionL S T))) → Q (.ref r) H'
def sp_l_asked (a : Ad) : Sp := fun vs H Q _ => ∃ (M : Addr → Prop) (v : V) (ds : List Addr) (n k : Nat) (s : Str) (f : Nat → Str → Shelf), vs = [v, .int k, .str s] ∧ Fr M H ∧ KeyAt M H a.C v ds n AB f ∧ n ≤ 9 ∧ k < n ∧ (∀ s, ShOk n (f k s)) ∧ ∀ H', Same H H' → Q .non H'
def sp_l_cells (K : Frag) : Sp := fun vs H Q _ => ∃ (b : Addr) (ns : List Int) (n : Nat), vs = [.ref b, .int n] ∧ n ≤ 9 ∧ SqL K H b (ns.map V.int) ∧ ∀ p ys H', H p = none → Same H H' → H' p = some (.lst ys) → ys.length ≤ 31 → (∀ (i : Nat) (y : V), ys[i]? = some y → ∃ c, y = .int c) → Q (.ref p) H'
theorem ty_dic {K : Frag} {H : Hp} {a : Addr} {kvs : List (Key × V)} (h : H a = some (.dK kvs)) : tyV K "dict" (.ref a) H := .inr (.inr (.inl ⟨rfl, .inl ⟨kvs, h⟩⟩))
theorem w_newLs {xs : List V} {H : Hp} {Q : VK} (hl : xs.length ≤ sizeLine) (q : ∀ p H', H p = none → Same H H' → H' p = some (.lst xs) → Q (.ref p) H') : rNewL xs H Q := ⟨hl, fun p hp => q p _ hp (Same.new hp) upd_same⟩
theorem w_newTs {xs : List V} {H : Hp} {Q : VK} (hl : xs.length ≤ sizeLine) (q : ∀ p H', H p = none → Same H H' → H' p = some (.tup xs) → Q (.ref p) H') : rNewT xs H Q := ⟨hl, fun p hp => q p _ hp (Same.new hp) upd_same⟩
theorem nd_ab : AB.Nodup := by decide +kernel
section
variable {P : Program} {w : World} {K : Frag} {mg : Str → Option Value} {base : Heap} {a : Ad}
local macro_rules | `(tactic| walk_at "e1") => `(tactic| first
  | ((with_reducible refine' w_var ?wh ?_); (case wh => rfl))
  | with_reducible refine w_c ?_
  | with_reducible refine w_projn ?_
  | with_reducible refine w_projr ?_
  | with_reducible refine w_op ?_
  | with_reducible refine w_cons ?_
  | with_reducible refine w_nil ?_
  | with_reducible refine w_I0 ?_
  | ((with_reducible refine w_I ?wc ?_); (case wc => first | (show (0 : Int) < _; decide) | exact ⟨by decide, by decide⟩ | exact ⟨by decide, by decide, by decide⟩ | exact Or.inr ⟨by decide, by decide⟩ | exact Or.inl ⟨by decide, by decide⟩ | (show (0 : Int) < _; omega) | exact ⟨by omega, by omega⟩))
  | with_reducible refine w_bl ?_
  | with_reducible refine w_test ?_
  | with_reducible refine w_tB ?_
  | with_reducible refine w_set ?_
  | with_reducible refine w_ifS ?_
  | with_reducible refine w_if ?_
  | with_reducible refine w_or ?_
  | with_reducible refine w_and ?_
  | with_reducible refine w_not ?_
  | with_reducible refine w_orV ?_
  | with_reducible refine w_andV ?_
  | with_reducible refine w_notV ?_
  | with_reducible refine w_ret ?_
  | with_reducible refine w_retN ?_
  | with_reducible refine w_drop ?_
  | with_reducible refine w_next ?_
  | with_reducible refine w_un ?_
  | with_reducible refine w_CB ?_
  | with_reducible refine w_call ?_
  | with_reducible refine w_callS ?_
  | with_reducible refine w_gName ?_
  | with_reducible refine w_gCons ?_
  | with_reducible refine w_gNil ?_
  | with_reducible refine w_iEnum ?_
  | with_reducible refine w_tMake ?_
  | with_reducible refine w_asg ?_
  | with_reducible refine w_tTup ?_
  | with_reducible refine w_tLst ?_
  | with_reducible refine w_lc ?_
  | with_reducible refine w_iRng1 ?_
  | with_reducible refine w_iRng2 ?_
  | with_reducible refine w_iList ?_
  | with_reducible refine w_iTup ?_
  | with_reducible refine w_for ?_
  | with_reducible refine w_chain ?_
  | with_reducible refine w_sl ?_
  | with_reducible refine w_part ?_
  | with_reducible refine w_nopart ?_
  | with_reducible refine w_exint ?_
  | with_reducible refine w_dput ?_
  | with_reducible refine w_gSub ?_
  | with_reducible refine w_tFld ?_
  | with_reducible refine w_tMeth ?_
  | with_reducible refine w_sFld ?_
  | with_reducible refine w_dget2 ?_
  | with_reducible refine w_dget ?_
  | with_reducible refine w_bm ?_
  | with_reducible refine w_isiII ?_
  | with_reducible refine w_isiIB ?_
  | with_reducible refine w_isiBB ?_
  | with_reducible refine w_max ?_
  | ((with_reducible refine w_eq ?we ?_); (case we => rfl))
  | ((with_reducible refine w_ne ?we ?_); (case we => rfl)))
local macro_rules | `(tactic| walk_at "w1") => `(tactic| first | walk_at "e1" | with_reducible refine w_seq ?_)
local macro_rules | `(tactic| walk_at "e") => `(tactic| repeat walk_at "e1")
local macro_rules | `(tactic| walk_at "w") => `(tactic| repeat walk_at "w1")

theorem ok_l_value (T : Txt K mg a) : FnOk P w K mg base (L2.CX P w) 1 a.f_l_value a.d_l_value ["_law_cell", "_law_few"] sp_l_value := by
  refine T.F_l_value.okX sc_l_value (fun vs H Q E h => ?_) (fun cdv A outer s H vs Q E hr h => ?_)
  · obtain ⟨c, b, rfl, _⟩ := h; rfl
  · obtain ⟨c, b, rfl, q⟩ := h
    refine ⟨_, (pss_cons (ps_if (pt_val (pv 1)) (pss_one (ps_ret (pe_op op_mod (pe_op op_fdiv (pv 0) pe_int) pe_int))) pss_nil)
  (pss_one (ps_ret (pe_op op_sub (pe_op op_mod (pe_op op_mul (pv 0) pe_int) (pe_op op_sub (pe_op op_mul pe_int (pe_op op_pow pe_int pe_int)) pe_int)) (pe_op op_sub (pe_op op_pow pe_int pe_int) pe_int))))), ?_⟩
    walk_at "w"
    cases b with
    | true =>
      refine iteT ?_
      walk_at "w"
      exact q _
    | false =>
      refine iteF ?_
      walk_at "w"
      exact q _
theorem ok_l_both (T : Txt K mg a) : FnOk P w K mg base (L2.CX P w) 1 a.f_l_both a.d_l_both ["_law_one", "_law_other"] sp_l_both := by
  refine T.F_l_both.okX sc_l_both (fun vs H Q E h => ?_) (fun cdv A outer s H vs Q E hr h => ?_)
  · obtain ⟨p, q', S, T', rfl, _⟩ := h; rfl
  · obtain ⟨p, q', S, T', rfl, hp, hq, hl, q⟩ := h
    refine ⟨_, (pss_cons (ps_set (i := 2) sc_l_both.nd rfl (Or.inl rfl) (pe_callTy (r := rDictD) cl_dictD rfl T.n_dict (by decide +kernel) (pa_cons (pv 0) pa_nil)))
  (pss_cons (ps_expr (pe_bmK K rfl PySem.F.plainAttrs_dict PySem.F.slot_dict_update PySem.F.type_dict_update (r := rUpdate) mt_update (pv 2) (pa_cons (pv 1) pa_nil)))
  (pss_one (ps_ret (pv 2))))), ?_⟩
    walk_at "w"
    refine ⟨p, _, rfl, hp, fun r hr0 => ?_⟩
    have s1 : Same H (upd H r (.dK (dkv S))) := Same.new hr0
    have h1 : upd H r (.dK (dkv S)) r = some (.dK (dkv S)) := upd_same
    generalize upd H r (.dK (dkv S)) = H1 at s1 h1
    walk_at "w"
    refine ⟨ty_dic h1, ?_⟩
    walk_at "w"
    refine ⟨r, q', _, _, rfl, rfl, fun z => ?_, h1, Rd.same hq s1, sz_small (by rw [dkv_len, dkv_len]; omega), ?_⟩
    · subst z
      rcases hq with z | ⟨o, z⟩
      · rw [hr0] at z; cases z
      · rw [hr0] at z; cases z
    rw [dkv_merge]
    walk_at "w"
    exact q r _ hr0 (Same.mut s1 hr0) upd_same
theorem ok_l_asked (T : Txt K mg a) : FnOk P w K mg base (L2.CX P w) 4 a.f_l_asked a.d_l_asked ["_law_store", "_law_keeper", "_law_key"] (sp_l_asked a) := by
  refine T.F_l_asked.okX sc_l_asked (fun vs H Q E h => ?_) (fun cdv A outer s H vs Q E hr h => ?_)
  · obtain ⟨M, v, ds, n, k, s, f, rfl, _⟩ := h; rfl
  · obtain ⟨M, v, ds, n, k, s, f, rfl, fr, S, hn, hk, ok, q⟩ := h
    refine ⟨_, (pss_cons (ps_expr (pe_meth (pv 0) T.cl T.m_S_look (ok_S_look T) (hr.mono (by decide)) T.b_S_look .nil passL (pa_cons (pv 1) (pa_cons (pv 2) pa_nil))))
  (pss_cons (ps_expr (pe_meth (pv 0) T.cl T.m_S_keys (ok_S_keys T) (hr.mono (by decide)) T.b_S_keys .nil passL (pa_cons (pv 1) pa_nil)))
  (pss_one (ps_expr (pe_meth (pv 0) T.cl T.m_S_letter (ok_S_letter T) (hr.mono (by decide)) T.b_S_letter .nil passL (pa_cons (pv 1) (pa_cons (pv 2) pa_nil))))))), ?_⟩
    walk_at "w"
    refine w_mthK S (by decide +kernel) (by decide +kernel) ?_
    walk_at "w"
    refine look_key S fr hn rfl hk (ok s) fun v1 H1 s1 _ => ?_
    walk_at "w"
    refine w_mthK (S.same s1) (by decide +kernel) (by decide +kernel) ?_
    walk_at "w"
    refine keys_key (S.same s1) hn rfl hk nd_ab (by decide) ok fun v2 H2 s2 _ => ?_
    walk_at "w"
    have s12 := Same.trans s1 s2
    refine w_mthK (S.same s12) (by decide +kernel) (by decide +kernel) ?_
    walk_at "w"
    refine letter_key (S.same s12) (fr.same s12) hn rfl hk fun v3 H3 s3 _ => ?_
    walk_at "w"
    exact q _ (Same.trans s12 s3)
theorem ok_l_cells (T : Txt K mg a) : FnOk P w K mg base (L2.CX P w) 2 a.f_l_cells a.d_l_cells ["_law_script", "_law_many"] (sp_l_cells K) := by
  refine T.F_l_cells.okX sc_l_cells (fun vs H Q E h => ?_) (fun cdv A outer s H vs Q E hr h => ?_)
  · obtain ⟨b, ns, n, rfl, _⟩ := h; rfl
  · obtain ⟨b, ns, n, rfl, n9, hs, q⟩ := h
    refine ⟨_, (pss_cons (ps_if (pt_cmpR op_eq (pe_op op_mod (pe_op op_fdiv (pe_call (ok_l_cell_at T) (hr.mono (by decide)) rfl T.g_l_cell_at T.k_l_cell_at T.b_l_cell_at .nil passL (pa_cons (pv 0) (pa_cons pe_int pa_nil))) pe_int) pe_int) pe_int (nomark _)) (pss_one (ps_ret (pe_op op_cat (pe_lst (pa_cons (pe_op op_mul (pe_op op_mul pe_int (pv 1)) (pe_op op_mod (pe_call (ok_l_cell_at T) (hr.mono (by decide)) rfl T.g_l_cell_at T.k_l_cell_at T.b_l_cell_at .nil passL (pa_cons (pv 0) (pa_cons pe_int pa_nil))) (pe_op op_pow pe_int pe_int))) (pa_cons pe_int (pa_cons pe_int (pa_cons pe_int (pa_cons pe_int (pa_cons pe_int (pa_cons pe_int (pa_cons pe_int pa_nil))))))))) (pe_slice (r := rSlL K) sl_list (pv 0) (po_some pe_int) (po_some pe_int))))) pss_nil)
  (pss_one (ps_ret (pe_slice (r := rSlL K) sl_list (pv 0) (po_some pe_int) (po_some pe_int))))), ?_⟩
    walk_at "w"
    refine ⟨b, ns, 0, rfl, hs, ?_⟩
    walk_at "w"
    refine ite2 (fun _ => ?_) (fun _ => ?_)
    · walk_at "w"
      refine ⟨b, ns, 1, rfl, hs, ?_⟩
      walk_at "w"
      refine ⟨_, _, rfl, rfl, .inl ⟨by omega, by omega⟩, ?_⟩
      walk_at "w"
      refine w_newLs (by show 8 ≤ sizeLine; decide) fun p H1 hp s1 hp1 => ?_
      walk_at "w"
      refine w_slL (Same.seq s1 hs) fun ys p2 hys hp2 => ?_
      have s2 : Same H1 (upd H1 p2 (.lst ys)) := Same.new hp2
      have h2 : upd H1 p2 (.lst ys) p2 = some (.lst ys) := upd_same
      have l2 : ys.length ≤ 22 := by rw [← hys]; exact cutV_from (by decide) (by decide)
      generalize upd H1 p2 (.lst ys) = H2 at s2 h2
      refine ⟨p, p2, _, _, rfl, rfl, s2 _ _ hp1, h2, sz_small (by show 8 + ys.length ≤ _; omega), fun p3 hp3 => ?_⟩
      walk_at "w"
      have s12 := Same.trans s1 s2
      refine q p3 _ _ (s12.free hp3) (Same.trans s12 (Same.new hp3)) upd_same (by rw [List.length_append]; show 8 + ys.length ≤ 31; omega) fun i y e => ?_
      rcases List.mem_append.mp (List.mem_of_getElem? e) with h | h
      · simp only [List.mem_cons, List.not_mem_nil, or_false] at h
        rcases h with h | h | h | h | h | h | h | h <;> exact ⟨_, h⟩
      · obtain ⟨j, hj⟩ := List.mem_iff_getElem?.mp h
        exact cut_int hys hj
    · walk_at "w"
      refine w_slL hs fun ys p hys hp => ?_
      walk_at "w"
      refine q p ys _ hp (Same.new hp) upd_same (Nat.le_trans (by rw [← hys]; exact cutV_from (by decide) (by decide)) (by decide)) fun i y e => cut_int hys e
end
end Sb

namespace Sb
open PySem L2 PyProof.Rows
theorem w_mid {t : TT} {σ : L2.St} {H : Hp} {QT : Bool → Hp → Prop} (P : Bool → Hp → Prop) (h1 : ∀ QT' : Bool → Hp → Prop, (∀ c H1, P c H1 → QT' c H1) → t σ H QT') (h2 : ∀ c H1, P c H1 → QT c H1) : t σ H QT := h1 QT h2
def sp_l_looked : Sp := fun vs H Q _ => ∃ (Lk : Addr) (s : Str) (pick : Int) (n : Nat) (ds : List Addr) (xs : List V) (ls : List (Str × List Nat)) (chs : List Chg), vs = [.ref Lk, .str s, .int pick, .int n] ∧ H Lk = some (.lst xs) ∧ EnA (markOf n chs) ds H xs ls ∧
  (∀ p ∈ ls, Gd chs p.1 p.2) ∧ xs.length ≤ 100 ∧ 1 ≤ n ∧ n ≤ 9 ∧ chs.length ≤ 100 ∧ (∀ d ∈ ds, H d ≠ none) ∧
  ∀ T mv e L H', H' T = some (.tup [mv, .ref e]) → (∀ M, Rp M H' mv (markD (dueS n chs L).1)) → SetAt ds H' e L → Gd chs s L → Same H H' → Q (.ref T) H'
theorem SetAt.same {ds : List Addr} {H H' : Hp} {e : Addr} {S : List Nat} (h : SetAt ds H e S) (s : Same H H') : SetAt ds H' e S := ⟨h.out, s _ _ h.at_⟩
theorem Gd.few {chs : List Chg} {key : Str} {S : List Nat} (g : Gd chs key S) : S.length ≤ chs.length := by
  have h2 := List.Nodup.length_le_of_subset (l₂ := List.range chs.length) g.nod fun i hi => List.mem_range.mpr (g.inn i hi).1
  rwa [List.length_range] at h2
section
variable {P : Program} {w : World} {K : Frag} {mg : Str → Option Value} {base : Heap} {a : Ad}
local macro_rules | `(tactic| walk_at "e1") => `(tactic| first
  | ((with_reducible refine' w_var ?wh ?_); (case wh => rfl))
  | with_reducible refine w_c ?_
  | with_reducible refine w_projn ?_
  | with_reducible refine w_projr ?_
  | with_reducible refine w_op ?_
  | with_reducible refine w_cons ?_
  | with_reducible refine w_nil ?_
  | with_reducible refine w_I0 ?_
  | ((with_reducible refine w_I ?wc ?_); (case wc => first | (show (0 : Int) < _; decide) | exact ⟨by decide, by decide⟩ | exact ⟨by decide, by decide, by decide⟩ | exact Or.inr ⟨by decide, by decide⟩ | exact Or.inl ⟨by decide, by decide⟩ | (show (0 : Int) < _; omega) | exact ⟨by omega, by omega⟩))
  | with_reducible refine w_bl ?_
  | with_reducible refine w_test ?_
  | with_reducible refine w_tB ?_
  | with_reducible refine w_set ?_
  | with_reducible refine w_ifS ?_
  | with_reducible refine w_if ?_
  | with_reducible refine w_or ?_
  | with_reducible refine w_and ?_
  | with_reducible refine w_not ?_
  | with_reducible refine w_orV ?_
  | with_reducible refine w_andV ?_
  | with_reducible refine w_notV ?_
  | with_reducible refine w_ret ?_
  | with_reducible refine w_retN ?_
  | with_reducible refine w_drop ?_
  | with_reducible refine w_next ?_
  | with_reducible refine w_un ?_
  | with_reducible refine w_CB ?_
  | with_reducible refine w_call ?_
  | with_reducible refine w_callS ?_
  | with_reducible refine w_gName ?_
  | with_reducible refine w_gCons ?_
  | with_reducible refine w_gNil ?_
  | with_reducible refine w_iEnum ?_
  | with_reducible refine w_tMake ?_
  | with_reducible refine w_asg ?_
  | with_reducible refine w_tTup ?_
  | with_reducible refine w_tLst ?_
  | with_reducible refine w_lc ?_
  | with_reducible refine w_iRng1 ?_
  | with_reducible refine w_iRng2 ?_
  | with_reducible refine w_iList ?_
  | with_reducible refine w_iTup ?_
  | with_reducible refine w_for ?_
  | with_reducible refine w_chain ?_
  | with_reducible refine w_sl ?_
  | with_reducible refine w_part ?_
  | with_reducible refine w_nopart ?_
  | with_reducible refine w_exint ?_
  | with_reducible refine w_dput ?_
  | with_reducible refine w_gSub ?_
  | with_reducible refine w_tFld ?_
  | with_reducible refine w_tMeth ?_
  | with_reducible refine w_sFld ?_
  | with_reducible refine w_dget2 ?_
  | with_reducible refine w_dget ?_
  | with_reducible refine w_bm ?_
  | with_reducible refine w_isiII ?_
  | with_reducible refine w_isiIB ?_
  | with_reducible refine w_isiBB ?_
  | with_reducible refine w_max ?_
  | ((with_reducible refine w_eq ?we ?_); (case we => rfl))
  | ((with_reducible refine w_ne ?we ?_); (case we => rfl)))
local macro_rules | `(tactic| walk_at "w1") => `(tactic| first | walk_at "e1" | with_reducible refine w_seq ?_)
local macro_rules | `(tactic| walk_at "e") => `(tactic| repeat walk_at "e1")
local macro_rules | `(tactic| walk_at "w") => `(tactic| repeat walk_at "w1")

theorem ok_l_looked (T : Txt K mg a) : FnOk P w K mg base (L2.CX P w) 2 a.f_l_looked a.d_l_looked ["_law_looks", "_law_key", "_law_pick", "_law_many"] sp_l_looked := by
  refine T.F_l_looked.okX sc_l_looked (fun vs H Q E h => ?_) (fun cdv A outer s H vs Q E hr h => ?_)
  · obtain ⟨Lk, s, pick, n, ds, xs, ls, chs, rfl, _⟩ := h; rfl
  · obtain ⟨Lk, s, pick, n, ds, xs, ls, chs, rfl, hLk, en, gl, xl, n1, n9, c1, occ, q⟩ := h
    have hu64 := hr.units
    refine ⟨_, (pss_cons (ps_setLc (i := 4) (own := [("_law_look", 8)]) rfl sc_l_looked.nd rfl rfl (sw_true rfl rfl rfl (by decide +kernel)) (pi_list (pv 0)) (blkOk_by (own := [("_law_look", 8)]) (N := N_l_looked) (sc := defScope s_l_looked) (by decide +kernel)) (fun _ _ _ _ _ => (pg_name (i := 8) sc_l_looked.nd rfl (by first | exact Or.inl rfl | exact Or.inr rfl))) (fun _ _ _ _ _ => (pts_one (pt_cmpR op_eq (pe_ix (r := rIxT K) ix_tup (pv 8) pe_int (fun _ _ => rfl)) (pv 1) (nomark _)))) (fun _ _ _ _ _ => (pv 8)))
  (pss_cons (ps_if (PW.pt (pw_or (pt_cmpR (r := rEqNil K) (op_eqNil hu64) (pv 4) (pe_lst pa_nil) (nomark _)) (pw_or1 (pt_cmpR op_eq (pe_op op_mod (pv 2) (pe_op op_add (pe_callB (r := rLen K) cl_len rfl T.n_len (by decide +kernel) (pa_cons (pv 4) pa_nil)) pe_int)) (pe_callB (r := rLen K) cl_len rfl T.n_len (by decide +kernel) (pa_cons (pv 4) pa_nil)) (nomark _))))) (pss_one (ps_ret (pe_tup (pa_cons (pe_call (ok_blank T) (hr.mono (by decide)) rfl T.g_blank T.k_blank T.b_blank .nil passL (pa_cons (pv 3) pa_nil)) (pa_cons pe_dnewK pa_nil))))) pss_nil)
  (pss_cons (ps_set (i := 5) sc_l_looked.nd rfl (Or.inr rfl) (pe_ix (r := rIxL K) ix_list (pv 4) (pe_op op_mod (pv 2) (pe_op op_add (pe_callB (r := rLen K) cl_len rfl T.n_len (by decide +kernel) (pa_cons (pv 4) pa_nil)) pe_int)) (fun _ _ => rfl)))
  (pss_cons (ps_if (pt_cmpR op_gt (pe_op op_mod (pe_op op_fdiv (pv 2) (pe_op op_add (pe_callB (r := rLen K) cl_len rfl T.n_len (by decide +kernel) (pa_cons (pv 4) pa_nil)) pe_int)) pe_int) pe_int (nomark _)) (pss_one (ps_ret (pe_tup (pa_cons (pe_ix (r := rIxT K) ix_tup (pv 5) pe_int (fun _ _ => rfl)) (pa_cons (pe_ix (r := rIxT K) ix_tup (pv 5) pe_int (fun _ _ => rfl)) pa_nil))))) pss_nil)
  (pss_cons (ps_set (i := 6) sc_l_looked.nd rfl (Or.inr rfl) (pe_ix (r := rIxL K) ix_list (pv 4) (pe_op op_mod (pe_op op_fdiv (pe_op op_fdiv (pv 2) (pe_op op_add (pe_callB (r := rLen K) cl_len rfl T.n_len (by decide +kernel) (pa_cons (pv 4) pa_nil)) pe_int)) pe_int) (pe_callB (r := rLen K) cl_len rfl T.n_len (by decide +kernel) (pa_cons (pv 4) pa_nil))) (fun _ _ => rfl)))
  (pss_cons (ps_set (i := 7) sc_l_looked.nd rfl (Or.inl rfl) (pe_callTy (r := rTup K) cl_tup rfl T.n_tuple (by decide +kernel) (pa_cons (pe_lc (own := [("_law_k", 9)]) rfl sc_l_looked.nd (pi_range1 rfl T.n_range (pa_cons (pv 3) pa_nil)) (blkOk_by (own := [("_law_k", 9)]) (N := N_l_looked) (sc := defScope s_l_looked) (by decide +kernel)) (fun _ _ _ _ _ => (pg_name (i := 9) sc_l_looked.nd rfl (by first | exact Or.inl rfl | exact Or.inr rfl))) (fun _ _ _ _ _ => pts_nil) (fun _ _ _ _ _ => (pe_callB (cl_max rfl) rfl T.n_max (by decide +kernel) (pa_cons (pe_ix (r := rIxT K) ix_tup (pe_ix (r := rIxT K) ix_tup (pv 5) pe_int (fun _ _ => rfl)) (pv 9) (fun _ _ => rfl)) (pa_cons (pe_ix (r := rIxT K) ix_tup (pe_ix (r := rIxT K) ix_tup (pv 6) pe_int (fun _ _ => rfl)) (pv 9) (fun _ _ => rfl)) pa_nil))))) pa_nil)))
  (pss_one (ps_ret (pe_tup (pa_cons (pv 7) (pa_cons (pe_call (ok_l_both T) (hr.mono (by decide)) rfl T.g_l_both T.k_l_both T.b_l_both .nil passL (pa_cons (pe_ix (r := rIxT K) ix_tup (pv 5) pe_int (fun _ _ => rfl)) (pa_cons (pe_ix (r := rIxT K) ix_tup (pv 6) pe_int (fun _ _ => rfl)) pa_nil))) pa_nil))))))))))), ?_⟩
    walk_at "w"
    refine ⟨Lk, rfl, ⟨_, SqL.of hLk⟩, fun D hD => ?_⟩
    refine lc_list (K := K) (a := Lk) (xs := xs) (fun i H' => Same H H' ∧ ∃ os ps, H' D = some (.lst os) ∧ EnA (markOf n chs) ds H os ps ∧ (∀ p ∈ ps, p ∈ ls ∧ p.1 = s) ∧ os.length ≤ i) ⟨Same.new hD, [], [], upd_same, EnA.nil, (fun _ z => nomatch z), Nat.le_refl _⟩ (fun i H' _ w => SqL.of (w.1 _ _ hLk)) ?_ ?_
    · rintro i x H' hx ⟨s1, os, ps, hDo, eo, po, ol⟩
      have hi := (List.getElem?_eq_some_iff.mp hx).1
      obtain ⟨p, hp⟩ : ∃ p, ls[i]? = some p := ⟨_, List.getElem?_eq_getElem (by rw [← en.1]; exact hi)⟩
      obtain ⟨t, mv, e, ht, h1, h2, h3⟩ := en.2 i p hp
      rw [hx] at ht
      cases ht
      refine w_it1 rfl ?_
      walk_at "w"
      refine w_t0 (s1 _ _ h1) ?_
      walk_at "w"
      by_cases hs : p.1 = s
      · refine iteD (by rw [hs]) ?_
        walk_at "w"
        refine ⟨os, hDo, sz_smallL (by omega), fun b o z => ?_, _, _, upd_same, eo.more h1 h2 h3, fun p' hp' => ?_, by rw [List.length_append, List.length_singleton]; omega⟩
        · rw [upd_ne (ne_of_none z hD)]; exact s1 b o z
        · rcases List.mem_append.mp hp' with z | z
          · exact po p' z
          · rw [List.mem_singleton.mp z]; exact ⟨List.mem_of_getElem? hp, hs⟩
      · refine iteDn (fun z => hs (V.str.inj z)) ?_
        exact ⟨s1, os, ps, hDo, eo, po, by omega⟩
    rintro H1 ⟨s1, os, ps, hDo, eo, po, ol⟩
    have gp : ∀ p ∈ ps, Gd chs s p.2 := fun p hp => by
      obtain ⟨h1, h2⟩ := po p hp
      rw [← h2]
      exact gl p h1
    walk_at "e"
    refine w_seq ?_
    refine w_ifS ?_
    refine w_mid (fun c H2 => Same H H2 ∧ H2 D = some (.lst os) ∧ (c = false → os ≠ [] ∧ pick % ((os.length : Int) + 1) ≠ os.length)) (fun QT' key => ?_) ?_
    · walk_at "w"
      refine w_newLs (Nat.zero_le _) fun p2 H2 np2 s2 h2 => ?_
      have s12 := Same.trans s1 s2
      refine ⟨D, p2, os, rfl, rfl, SqL.of (s2 _ _ hDo), h2, ?_⟩
      walk_at "w"
      by_cases e0 : os = []
      · refine iteD e0 ?_
        exact key _ _ ⟨s12, s2 _ _ hDo, fun z => nomatch z⟩
      · refine iteDn e0 ?_
        walk_at "w"
        refine w_lenS (SqL.of (s2 _ _ hDo)) ?_
        walk_at "w"
        refine w_lenS (SqL.of (s2 _ _ hDo)) ?_
        walk_at "w"
        exact key _ _ ⟨s12, s2 _ _ hDo, fun z => ⟨e0, fun y => of_decide_eq_false z (by rw [y])⟩⟩
    rintro c H2 ⟨s2, hD2, hc⟩
    cases c with
    | true =>
      refine iteT ?_
      walk_at "w"
      refine ⟨_, rfl, fun _ v3 H3 s3 r3 => ?_, fun z => absurd ⟨by omega, by omega⟩ z⟩
      rw [Int.toNat_natCast] at r3
      walk_at "w"
      intro e he
      have s4 : Same H3 (upd H3 e (.dK [])) := Same.new he
      have h4 : upd H3 e (.dK []) e = some (.dK []) := upd_same
      generalize upd H3 e (.dK []) = H4 at s4 h4
      walk_at "w"
      refine w_newTs (by show 2 ≤ sizeLine; decide) fun T5 H5 n5 s5 h5 => ?_
      have s45 := Same.trans s4 s5
      refine q T5 v3 e [] H5 h5 (fun M => by rw [mark_nil]; exact (r3 M).same s45) ⟨fun z => occ _ z (s2.free (s3.free he)), s5 _ _ h4⟩ .nil (Same.trans s2 (Same.trans s3 s45))
    | false =>
      refine iteF ?_
      obtain ⟨h0, hne⟩ := hc rfl
      have hpos : 1 ≤ os.length := List.length_pos_iff.mpr h0
      have hol : os.length ≤ 100 := by omega
      have E2 : EnA (markOf n chs) ds H2 os ps := eo.stays (.same s2 : Stays (fun _ => False) ds H H2)
      obtain ⟨j, ej, hj⟩ := mod_nat pick (show 1 ≤ os.length + 1 by omega)
      have ej : pick % ((os.length : Int) + 1) = j := by rw [← ej]; rfl
      have hj : j < os.length := by
        rw [ej] at hne
        omega
      obtain ⟨p, hp⟩ : ∃ p, ps[j]? = some p := ⟨_, List.getElem?_eq_getElem (by rw [← E2.1]; exact hj)⟩
      obtain ⟨t, mv, e, ht, h1, h2, h3⟩ := E2.2 j p hp
      have g1 := gp p (List.mem_of_getElem? hp)
      walk_at "w"
      refine w_lenS (SqL.of hD2) ?_
      walk_at "w"
      rw [ej]
      refine w_ixS j (SqL.of hD2) rfl ht ?_
      walk_at "w"
      refine w_lenS (SqL.of hD2) ?_
      walk_at "w"
      refine ite2 (fun _ => ?_) (fun _ => ?_)
      · walk_at "w"
        refine w_t1 h1 ?_
        walk_at "w"
        refine w_t2 h1 ?_
        walk_at "w"
        refine w_newTs (by show 2 ≤ sizeLine; decide) fun T5 H5 n5 s5 h5 => ?_
        exact q T5 mv e p.2 H5 h5 (fun M => (h2 M).same s5) (h3.same s5) g1 (Same.trans s2 s5)
      · walk_at "w"
        refine w_lenS (SqL.of hD2) ?_
        walk_at "w"
        refine w_lenS (SqL.of hD2) ?_
        walk_at "w"
        obtain ⟨j2, ej2, hj2⟩ := mod_nat (pick / ((os.length : Int) + 1) / 3) hpos
        rw [ej2]
        obtain ⟨p2, hp2⟩ : ∃ p, ps[j2]? = some p := ⟨_, List.getElem?_eq_getElem (by rw [← E2.1]; exact hj2)⟩
        obtain ⟨t2, mv2, e2, ht2, k1, k2, k3⟩ := E2.2 j2 p2 hp2
        have g2 := gp p2 (List.mem_of_getElem? hp2)
        refine w_ixS j2 (SqL.of hD2) rfl ht2 ?_
        walk_at "w"
        refine ⟨_, rfl, by omega, by omega, ?_⟩
        refine lcR _ (fun k => some (.int (max ((dueS n chs p.2).1.getD k 0) ((dueS n chs p2.2).1.getD k 0)))) (fun _ => False) (fun _ _ z => z) (sz_small (by omega)) (fun i H3 M' Yes No hi s3 ex fr' yes no => ?_) (fun D3 H3 hD3 s3 r3 => ?_)
        · have hi : i < n := by omega
          refine w_it0 rfl ?_
          walk_at "w"
          refine w_t1 (s3 _ _ h1) ?_
          walk_at "w"
          refine w_ixM i ((h2 M').same s3) (by omega) (by rw [mark_len]; exact hi) ?_
          walk_at "w"
          refine w_t1 (s3 _ _ k1) ?_
          walk_at "w"
          refine w_ixM i ((k2 M').same s3) (by omega) (by rw [mark_len]; exact hi) ?_
          walk_at "w"
          exact yes _ H3 _ rfl (Same.refl _) (.int _)
        have ef := fm_join (m := (dueS n chs p.2).1) (n := (dueS n chs p2.2).1) (by rw [mark_len, mark_len])
        rw [mark_len] at ef
        rw [ef, mark_union g1 g2] at r3
        walk_at "w"
        refine w_tupleL r3 fun v4 H4 s4 r4 => ?_
        have r4 : ∀ M, Rp M H4 v4 (markD (dueS n chs (unionL p.2 p2.2)).1) := fun M => Rp.mark r4
        have s24 := Same.trans s3 s4
        walk_at "w"
        refine w_t2 (s24 _ _ h1) ?_
        walk_at "w"
        refine w_t2 (s24 _ _ k1) ?_
        walk_at "w"
        refine ⟨e, e2, p.2, p2.2, rfl, .inl (h3.same s24).at_, .inl (k3.same s24).at_, by have := g1.few; have := g2.few; omega, fun r H5 nr s5 h5 => ?_⟩
        walk_at "w"
        refine w_newTs (by show 2 ≤ sizeLine; decide) fun T6 H6 n6 s6 h6 => ?_
        have s56 := Same.trans s5 s6
        exact q T6 v4 r _ H6 h6 (fun M => (r4 M).same s56) ⟨fun z => occ _ z (s2.free (s24.free nr)), s6 _ _ h5⟩ (g1.union g2) (Same.trans s2 (Same.trans s24 s56))
end
end Sb

namespace Sb
open PySem L2 PyProof.Rows
def gset (chs : List Chg) (S : List Nat) : List Nat := S.foldl (fun acc j => unionL acc (chgAt chs j).seen) []
theorem mem_fold {chs : List Chg} {y : Nat} : ∀ (S acc : List Nat), y ∈ S.foldl (fun acc j => unionL acc (chgAt chs j).seen) acc ↔ y ∈ acc ∨ ∃ j ∈ S, y ∈ (chgAt chs j).seen
  | [], acc => ⟨.inl, fun z => z.elim id fun ⟨_, h, _⟩ => nomatch h⟩
  | j :: S, acc => by
    rw [List.foldl_cons, mem_fold S, mem_unionL]
    constructor
    · rintro ((h | h) | ⟨i, hi, h⟩)
      · exact .inl h
      · exact .inr ⟨j, List.mem_cons_self, h⟩
      · exact .inr ⟨i, List.mem_cons_of_mem _ hi, h⟩
    · rintro (h | ⟨i, hi, h⟩)
      · exact .inl (.inl h)
      · rcases List.mem_cons.mp hi with rfl | hi
        · exact .inl (.inr h)
        · exact .inr ⟨i, hi, h⟩
theorem fold_nod {chs : List Chg} : ∀ (S acc : List Nat), acc.Nodup → (S.foldl (fun acc j => unionL acc (chgAt chs j).seen) acc).Nodup
  | [], _, h => h
  | j :: S, acc, h => fold_nod S _ (unionL_nod h)
theorem mem_gset {chs : List Chg} {S : List Nat} {y : Nat} : y ∈ gset chs S ↔ goneB chs S y = true := by
  unfold gset
  rw [mem_fold, gone_iff]
  exact ⟨fun z => z.elim (fun z => nomatch z) id, .inr⟩
theorem gset_step {chs : List Chg} {S : List Nat} {i y : Nat} (h : S[i]? = some y) : unionL (gset chs (S.take i)) (chgAt chs y).seen = gset chs (S.take (i + 1)) := by
  unfold gset
  rw [List.take_succ, h, List.foldl_append]; rfl
theorem gset_few {chs : List Chg} {key : Str} {S : List Nat} (g : Gd chs key S) (i : Nat) : (gset chs (S.take i)).length ≤ S.length :=
  List.Nodup.length_le_of_subset (fold_nod _ _ List.nodup_nil) fun y hy => by
    rcases (mem_fold _ _).mp hy with z | ⟨j, hj, z⟩
    · cases z
    · exact g.cls j (List.mem_of_mem_take hj) y z
/-- what is live, row by row -/
def liveF (chs : List Chg) (S : List Nat) (y : Nat) : Option PyData := if goneB chs S y = false ∧ 0 ≤ (chgAt chs y).k then some (rowD (rowOf (chgAt chs y))) else none
theorem live_fm (chs : List Chg) (S : List Nat) : ∀ T : List Nat, T.filterMap (liveF chs S) = ((T.filter fun i => !goneB chs S i && decide (0 ≤ (chgAt chs i).k)).map fun i => rowOf (chgAt chs i)).map rowD
  | [] => rfl
  | y :: T => by
    rw [List.filterMap_cons, List.filter_cons, live_fm chs S T]
    unfold liveF
    by_cases h : goneB chs S y = false ∧ 0 ≤ (chgAt chs y).k
    · rw [if_pos h, if_pos (by rw [h.1, decide_eq_true h.2]; rfl)]; rfl
    · rw [if_neg h, if_neg fun z => h (by
        rw [Bool.and_eq_true, decide_eq_true_eq, Bool.not_eq_true'] at z
        exact z)]
/-- counts, step by step -/
theorem cnt_step {chs : List Chg} {S : List Nat} {i y : Nat} (h : S[i]? = some y) (k : Int) : cnt chs (S.take (i + 1)) k = cnt chs (S.take i) k + if (chgAt chs y).k = k then 1 else 0 := by
  unfold cnt
  rw [List.take_succ, h, List.filter_append, List.length_append]
  congr 1
  show (List.filter _ [y]).length = _
  rw [List.filter_cons, List.filter_nil]
  by_cases z : (chgAt chs y).k = k
  · rw [if_pos z, decide_eq_true z]; rfl
  · rw [if_neg z, decide_eq_false z]; rfl
def cntL (n : Nat) (chs : List Chg) (S : List Nat) : List Int := (List.range n).map fun k : Nat => ((cnt chs S (k : Int) : Nat) : Int)
theorem cntL_len {n : Nat} {chs : List Chg} {S : List Nat} : (cntL n chs S).length = n := by unfold cntL; rw [List.length_map, List.length_range]
theorem cntL_getD {n : Nat} {chs : List Chg} {S : List Nat} {k : Nat} (hk : k < n) : (cntL n chs S).getD k 0 = (cnt chs S (k : Int) : Nat) := by
  unfold cntL
  rw [List.getD_eq_getElem?_getD, List.getElem?_map, List.getElem?_range hk]; rfl
theorem getD_set {l : List Int} {k i : Nat} {v : Int} (hk : k < l.length) : (l.set k v).getD i 0 = if i = k then v else l.getD i 0 := by
  rw [List.getD_eq_getElem?_getD, List.getD_eq_getElem?_getD, List.getElem?_set]
  by_cases e : i = k
  · subst e
    rw [if_pos rfl, if_pos rfl, if_pos hk]; rfl
  · rw [if_neg fun z => e z.symm, if_neg e]
theorem cntL_step {n : Nat} {chs : List Chg} {S : List Nat} {i y k : Nat} (h : S[i]? = some y) (hk : (chgAt chs y).k = (k : Int)) (hn : k < n) : (cntL n chs (S.take i)).set k ((cnt chs (S.take i) (k : Int) : Nat) + 1 : Int) = cntL n chs (S.take (i + 1)) := by
  refine ext_getD (by rw [List.length_set, cntL_len, cntL_len]) fun j hj => ?_
  rw [List.length_set, cntL_len] at hj
  rw [getD_set (by rw [cntL_len]; exact hn), cntL_getD hj, cntL_getD hj, cnt_step h, hk]
  by_cases e : j = k
  · subst e; rw [if_pos rfl, if_pos rfl]; omega
  · rw [if_neg e, if_neg (show ¬ (k : Int) = j by omega)]; omega
theorem cntL_stay {n : Nat} {chs : List Chg} {S : List Nat} {i y : Nat} (h : S[i]? = some y) (hk : ¬ 0 ≤ (chgAt chs y).k) : cntL n chs (S.take i) = cntL n chs (S.take (i + 1)) := by
  unfold cntL
  refine List.map_congr_left fun k _ => ?_
  rw [cnt_step h, if_neg (show ¬ (chgAt chs y).k = (k : Int) by omega)]; rfl
theorem cntL_zero {n : Nat} {chs : List Chg} : (List.range n).filterMap (fun _ => some (PyData.int 0)) = (cntL n chs []).map PyData.int := by
  rw [fm_some (f := fun _ => PyData.int 0)]
  unfold cntL
  rw [List.map_map]
  exact List.map_congr_left fun k _ => rfl
/-- data when a frozen dict is given back -/
theorem Rp.thaw {M : Addr → Prop} {H : Hp} {v : V} {dt : PyData} {d : Addr} {od : Obj} {u o : HO} (h : Rp M H v dt) (hd : H d = some (.frz od u)) : Rp M (upd H d o) v dt :=
  h.ext ⟨fun a xs e => by rw [upd_ne (fun z => by rw [z, hd] at e; cases e)]; exact e, fun a xs m e => ⟨m, by rw [upd_ne (fun z => by rw [z, hd] at e; cases e)]; exact e⟩⟩
theorem w_sl3 {K : Frag} {H : Hp} {t : Addr} {x y z r : V} {Q : VK} (h : H t = some (.tup [x, y, z, r])) (q : ∀ p, H p = none → Q (.ref p) (upd H p (.tup [x, y, z]))) : rSlT K (.ref t) none (some 3) H Q := by
  refine ⟨t, _, rfl, SqT.of h, fun e => ?_, fun p hp => q p hp⟩
  have := e.2
  revert this
  show ¬ (HT.sIx 4 4 (some 3) = 4)
  decide +kernel
theorem w_t3 {K : Frag} {H : Hp} {t : Addr} {x y z r : V} {xs : List V} {Q : VK} (h : H t = some (.tup (x :: y :: z :: r :: xs))) (q : Q r H) : rIxT K (.ref t) (.int 3) H Q := ⟨t, _, 3, r, rfl, rfl, SqT.of h, atI_nat (j := 3) rfl, q⟩
theorem ChA.frz {H H1 : Hp} {cs : List V} {chs : List Chg} {d : Addr} {od : Obj} {S : List Nat} (h : ChA H cs chs) (s : Same H H1) (hd : H1 d = some (.dK (dkv S))) : ∀ i, i < chs.length → ∃ t e, cs[i]? = some (.ref t) ∧ upd H1 d (.frz od (.dK (dkv S))) t = some (.tup [.int (chgAt chs i).k, .int (chgAt chs i).num, .int (chgAt chs i).val, .ref e]) ∧ Rd (upd H1 d (.frz od (.dK (dkv S)))) e (.dK (dkv (chgAt chs i).seen)) ∧ H e ≠ none := by
  intro i hi
  obtain ⟨t, e, a, b, c⟩ := h.2 i hi
  have hn : H e ≠ none := fun z => by
    rcases c with c | ⟨o, c⟩
    · rw [z] at c; cases c
    · rw [z] at c; cases c
  have c := Rd.same c s
  refine ⟨t, e, a, by rw [upd_ne (fun z => by rw [z] at b; rw [s _ _ b] at hd; cases hd)]; exact s _ _ b, ?_, hn⟩
  by_cases z : e = d
  · subst z
    rcases c with c | ⟨o, c⟩
    · rw [hd] at c
      have := HO.dK.inj (Option.some.inj c)
      rw [← this]
      exact .inr ⟨od, upd_same⟩
    · rw [hd] at c; cases c
  · rcases c with c | ⟨o, c⟩
    · exact .inl (by rw [upd_ne z]; exact c)
    · exact .inr ⟨o, by rw [upd_ne z]; exact c⟩
theorem w_dnot {td ty : TE} {σ : L2.St} {H : Hp} {Q : VK} (q : ty σ H fun y H1 => td σ H1 fun x H2 => ∃ a o, x = .ref a ∧ DGet H2 a y o ∧ Q (.bl (!o.isSome)) H2) : tDNotIn ty td σ H Q := q
def sp_l_due (K : Frag) : Sp := fun vs H Q _ => ∃ (Cl d : Addr) (n : Nat) (cs : List V) (chs : List Chg) (S : List Nat) (key : Str) (kn : Nat → Str → List Nat), vs = [.ref Cl, .ref d, .int n] ∧ H Cl = some (.lst cs) ∧ ChA H cs chs ∧ H d = some (.dK (dkv S)) ∧ Gd chs key S ∧ Wd n chs kn ∧
  chs.length ≤ 100 ∧ (∀ j, j < chs.length → (chgAt chs j).seen.length ≤ 100) ∧ n ≤ 9 ∧ ∀ v' H', Same H H' → Rp (Old H) H' v' (lookD (dueS n chs S)) → Q v' H'
section
variable {P : Program} {w : World} {K : Frag} {mg : Str → Option Value} {base : Heap} {a : Ad}
local macro_rules | `(tactic| walk_at "e1") => `(tactic| first
  | ((with_reducible refine' w_var ?wh ?_); (case wh => rfl))
  | with_reducible refine w_c ?_
  | with_reducible refine w_projn ?_
  | with_reducible refine w_projr ?_
  | with_reducible refine w_op ?_
  | with_reducible refine w_cons ?_
  | with_reducible refine w_nil ?_
  | with_reducible refine w_I0 ?_
  | ((with_reducible refine w_I ?wc ?_); (case wc => first | (show (0 : Int) < _; decide) | exact ⟨by decide, by decide⟩ | exact ⟨by decide, by decide, by decide⟩ | exact Or.inr ⟨by decide, by decide⟩ | exact Or.inl ⟨by decide, by decide⟩ | (show (0 : Int) < _; omega) | exact ⟨by omega, by omega⟩))
  | with_reducible refine w_bl ?_
  | with_reducible refine w_test ?_
  | with_reducible refine w_tB ?_
  | with_reducible refine w_set ?_
  | with_reducible refine w_ifS ?_
  | with_reducible refine w_if ?_
  | with_reducible refine w_or ?_
  | with_reducible refine w_and ?_
  | with_reducible refine w_not ?_
  | with_reducible refine w_orV ?_
  | with_reducible refine w_andV ?_
  | with_reducible refine w_notV ?_
  | with_reducible refine w_ret ?_
  | with_reducible refine w_retN ?_
  | with_reducible refine w_drop ?_
  | with_reducible refine w_next ?_
  | with_reducible refine w_un ?_
  | with_reducible refine w_CB ?_
  | with_reducible refine w_call ?_
  | with_reducible refine w_callS ?_
  | with_reducible refine w_gName ?_
  | with_reducible refine w_gCons ?_
  | with_reducible refine w_gNil ?_
  | with_reducible refine w_iEnum ?_
  | with_reducible refine w_tMake ?_
  | with_reducible refine w_asg ?_
  | with_reducible refine w_tTup ?_
  | with_reducible refine w_tLst ?_
  | with_reducible refine w_lc ?_
  | with_reducible refine w_iRng1 ?_
  | with_reducible refine w_iRng2 ?_
  | with_reducible refine w_iList ?_
  | with_reducible refine w_iTup ?_
  | with_reducible refine w_for ?_
  | with_reducible refine w_chain ?_
  | with_reducible refine w_sl ?_
  | with_reducible refine w_part ?_
  | with_reducible refine w_nopart ?_
  | with_reducible refine w_exint ?_
  | with_reducible refine w_dput ?_
  | with_reducible refine w_gSub ?_
  | with_reducible refine w_tFld ?_
  | with_reducible refine w_tMeth ?_
  | with_reducible refine w_sFld ?_
  | with_reducible refine w_dget2 ?_
  | with_reducible refine w_dget ?_
  | with_reducible refine w_bm ?_
  | with_reducible refine w_isiII ?_
  | with_reducible refine w_isiIB ?_
  | with_reducible refine w_isiBB ?_
  | with_reducible refine w_max ?_
  | ((with_reducible refine w_eq ?we ?_); (case we => rfl))
  | ((with_reducible refine w_ne ?we ?_); (case we => rfl)))
local macro_rules | `(tactic| walk_at "w1") => `(tactic| first | walk_at "e1" | with_reducible refine w_seq ?_)
local macro_rules | `(tactic| walk_at "e") => `(tactic| repeat walk_at "e1")
local macro_rules | `(tactic| walk_at "w") => `(tactic| repeat walk_at "w1")

theorem ok_l_due (T : Txt K mg a) : FnOk P w K mg base (L2.CX P w) 1 a.f_l_due a.d_l_due ["_law_changes", "_law_known", "_law_many"] (sp_l_due K) := by
  refine T.F_l_due.okX sc_l_due (fun vs H Q E h => ?_) (fun cdv A outer s H vs Q E hr h => ?_)
  · obtain ⟨Cl, d, n, cs, chs, S, key, kn, rfl, _⟩ := h; rfl
  · obtain ⟨Cl, d, n, cs, chs, S, key, kn, rfl, hCl, ca, hd, g, wd, c1, sn, n9, q⟩ := h
    have hu := hu_of hr
    have few : S.length ≤ 100 := by have := g.few; omega
    have hin : ∀ {i y : Nat}, S[i]? = some y → y < chs.length := fun h => g.lt _ (List.mem_of_getElem? h)
    refine ⟨_, (pss_cons (ps_set (i := 3) sc_l_due.nd rfl (Or.inr rfl) pe_dnewK)
  (pss_cons (ps_lock (ps_for (passes_of rfl) rfl (pi_keys (pv 1)) (pg_name (i := 4) sc_l_due.nd rfl (by first | exact Or.inl rfl | exact Or.inr rfl))
  (pss_one (ps_expr (pe_bmK K rfl PySem.F.plainAttrs_dict PySem.F.slot_dict_update PySem.F.type_dict_update (r := rUpdate) mt_update (pv 3) (pa_cons (pe_ix (r := rIxT K) ix_tup (pe_ix (r := rIxL K) ix_list (pv 0) (pv 4) (fun _ _ => rfl)) pe_int (fun _ _ => rfl)) pa_nil))))))
  (pss_cons (ps_set (i := 5) sc_l_due.nd rfl (Or.inl rfl) (pe_callB (r := rSortedT K) cr_sortedT rfl T.n_sorted (by decide +kernel) (pa_cons (pe_lock (pe_lc (own := [("_law_one", 4)]) rfl sc_l_due.nd (pi_keys (pv 1)) (blkOk_by (own := [("_law_one", 4)]) (N := N_l_due) (sc := defScope s_l_due) (by decide +kernel)) (fun _ _ _ _ _ => (pg_name (i := 4) sc_l_due.nd rfl (by first | exact Or.inl rfl | exact Or.inr rfl))) (fun _ _ _ _ _ => (pts_one (PW.pt (pw_and (pt_cmp (pc_dnotin hu (pv 4) (pv 3))) (pw_and1 (pt_cmpR op_ge (pe_ix (r := rIxT K) ix_tup (pe_ix (r := rIxL K) ix_list (pv 0) (pv 4) (fun _ _ => rfl)) pe_int (fun _ _ => rfl)) pe_int (nomark _))))))) (fun _ _ _ _ _ => (pe_slice (r := rSlT K) sl_tup (pe_ix (r := rIxL K) ix_list (pv 0) (pv 4) (fun _ _ => rfl)) po_none (po_some pe_int))))) pa_nil)))
  (pss_cons (ps_setLc (i := 6) (own := [("_law_keeper", 7)]) rfl sc_l_due.nd rfl rfl (sw_true rfl rfl rfl (by decide +kernel)) (pi_range1 rfl T.n_range (pa_cons (pv 2) pa_nil)) (blkOk_by (own := [("_law_keeper", 7)]) (N := N_l_due) (sc := defScope s_l_due) (by decide +kernel)) (fun _ _ _ _ _ => (pg_name (i := 7) sc_l_due.nd rfl (by first | exact Or.inl rfl | exact Or.inr rfl))) (fun _ _ _ _ _ => pts_nil) (fun _ _ _ _ _ => pe_int))
  (pss_cons (ps_lock (ps_for (passes_of rfl) rfl (pi_keys (pv 1)) (pg_name (i := 4) sc_l_due.nd rfl (by first | exact Or.inl rfl | exact Or.inr rfl))
  (pss_one (ps_if (pt_cmpR op_ge (pe_ix (r := rIxT K) ix_tup (pe_ix (r := rIxL K) ix_list (pv 0) (pv 4) (fun _ _ => rfl)) pe_int (fun _ _ => rfl)) pe_int (nomark _)) (pss_one (ps_asg (pe_op op_add (pe_ix (r := rIxL K) ix_list (pv 6) (pe_ix (r := rIxT K) ix_tup (pe_ix (r := rIxL K) ix_list (pv 0) (pv 4) (fun _ _ => rfl)) pe_int (fun _ _ => rfl)) (fun _ _ => rfl)) pe_int) (pg_sub (pv 6) (pe_ix (r := rIxT K) ix_tup (pe_ix (r := rIxL K) ix_list (pv 0) (pv 4) (fun _ _ => rfl)) pe_int (fun _ _ => rfl)) set_list))) pss_nil))))
  (pss_one (ps_ret (pe_tup (pa_cons (pe_lc (own := [("_law_row", 8)]) rfl sc_l_due.nd (pi_list (pv 5)) (blkOk_by (own := [("_law_row", 8)]) (N := N_l_due) (sc := defScope s_l_due) (by decide +kernel)) (fun _ _ _ _ _ => (pg_name (i := 8) sc_l_due.nd rfl (by first | exact Or.inl rfl | exact Or.inr rfl))) (fun _ _ _ _ _ => pts_nil) (fun _ _ _ _ _ => (pe_ix (r := rIxT K) ix_tup (pv 8) pe_int (fun _ _ => rfl)))) (pa_cons (pe_callTy (r := rTup K) cl_tup rfl T.n_tuple (by decide +kernel) (pa_cons (pv 6) pa_nil)) pa_nil)))))))))), ?_⟩
    walk_at "w"
    intro g0 hg0
    have s1 : Same H (upd H g0 (.dK [])) := Same.new hg0
    have hg1 : upd H g0 (.dK []) g0 = some (.dK (dkv [])) := upd_same
    generalize upd H g0 (.dK []) = H1 at s1 hg1
    have hgd : g0 ≠ d := fun z => by rw [z, hd] at hg0; cases hg0
    walk_at "w"
    refine ⟨d, .dK (dkv S), s1 _ _ hd, trivial, fun od => ?_⟩
    have hdf : upd H1 d (.frz od (.dK (dkv S))) d = some (.frz od (.dK (dkv S))) := upd_same
    have caf := ca.frz (od := od) s1 (s1 _ _ hd)
    have hClf : upd H1 d (.frz od (.dK (dkv S))) Cl = some (.lst cs) := by rw [upd_ne (fun z => by rw [z, hd] at hCl; cases hCl)]; exact s1 _ _ hCl
    have hgf : upd H1 d (.frz od (.dK (dkv S))) g0 = some (.dK (dkv [])) := by rw [upd_ne hgd]; exact hg1
    have hback : ∀ H', But g0 (upd H1 d (.frz od (.dK (dkv S)))) H' → Same H (upd H' d (.dK (dkv S))) := fun H' bt b o e => by
      by_cases z : b = d
      · subst z; rw [upd_same, ← hd]; exact e
      · rw [upd_ne z]
        exact bt _ _ (ne_of_none e hg0) (by rw [upd_ne z]; exact s1 _ _ e)
    generalize upd H1 d (.frz od (.dK (dkv S))) = Hf at hdf caf hClf hgf hback
    walk_at "w"
    refine w_iKeys ?_
    walk_at "w"
    refine ⟨d, od, rfl, .inl ⟨_, hdf, ?_⟩⟩
    refine for_it walk_keys (fun i σ H' => (∃ u4, σ = [some (.ref Cl), some (.ref d), some (.int n), some (.ref g0), u4, none, none, none, none]) ∧ But g0 Hf H' ∧ H' g0 = some (.dK (dkv (gset chs (S.take i))))) ⟨⟨_, rfl⟩, fun _ _ _ e => e, hgf⟩ (fun i σ H' _ ⟨_, b, _⟩ => b _ _ hgd.symm hdf) ?_ ?_
    · rintro i x σ H0 H' hi ⟨⟨u4, rfl⟩, bt, hg⟩ ⟨rfl, ky, vv, hki, rfl⟩
      obtain ⟨y, hy, rfl⟩ := dkv_at hki
      obtain ⟨t, e, hct, ht, he, hne⟩ := caf y (hin hy)
      have hCl' : H' Cl = some (.lst cs) := bt _ _ (fun z => by rw [z, hg0] at hCl; cases hCl) hClf
      have ht' := bt _ _ (fun z => by rw [z, hgf] at ht; cases ht) ht
      walk_at "w"
      refine ⟨ty_dic hg, ?_⟩
      walk_at "w"
      refine w_ixS y (SqL.of hCl') rfl hct ?_
      walk_at "w"
      refine w_t3 ht' ?_
      walk_at "w"
      have hge : g0 ≠ e := fun z => by
        rw [z] at hg0
        exact hne hg0
      have he' : Rd H' e (.dK (dkv (chgAt chs y).seen)) := he.elim (fun z => .inl (bt _ _ hge.symm z)) fun ⟨o, z⟩ => .inr ⟨o, bt _ _ hge.symm z⟩
      refine ⟨g0, e, _, _, rfl, rfl, hge, hg, he', sz_small (by rw [dkv_len, dkv_len]; have := gset_few g i; have := sn y (hin hy); omega), ?_⟩
      rw [dkv_merge, gset_step hy]
      walk_at "w"
      exact ⟨⟨_, rfl⟩, But.trans bt (But.upd _), upd_same⟩
    rintro σ H2 ⟨⟨u4, rfl⟩, bt, hg⟩
    rw [dkv_len, List.take_length] at hg
    refine ⟨bt _ _ hgd.symm hdf, ?_⟩
    have s2 := hback H2 bt
    have hg2 : upd H2 d (.dK (dkv S)) g0 = some (.dK (dkv (gset chs S))) := by rw [upd_ne hgd]; exact hg
    generalize upd H2 d (.dK (dkv S)) = H3 at s2 hg2
    clear hback hgf hClf caf hdf hg bt
    walk_at "w"
    -- rows
    refine ⟨d, .dK (dkv S), s2 _ _ hd, trivial, fun od => ?_⟩
    have hdf : upd H3 d (.frz od (.dK (dkv S))) d = some (.frz od (.dK (dkv S))) := upd_same
    have caf := ca.frz (od := od) s2 (s2 _ _ hd)
    have hClf : upd H3 d (.frz od (.dK (dkv S))) Cl = some (.lst cs) := by rw [upd_ne (fun z => by rw [z, hd] at hCl; cases hCl)]; exact s2 _ _ hCl
    have hgf : upd H3 d (.frz od (.dK (dkv S))) g0 = some (.dK (dkv (gset chs S))) := by rw [upd_ne hgd]; exact hg2
    have hthaw : ∀ H', Same (upd H3 d (.frz od (.dK (dkv S)))) H' → Same H3 (upd H' d (.dK (dkv S))) := fun H' s => thaw (s2 _ _ hd) s
    have frM : Fr (Old H) (upd H3 d (.frz od (.dK (dkv S)))) := fun b hb z => by
      by_cases y : b = d
      · rw [y, upd_same] at hb; cases hb
      · rw [upd_ne y] at hb; exact z (s2.free hb)
    generalize upd H3 d (.frz od (.dK (dkv S))) = Hf at hdf caf hClf hgf hthaw frM
    walk_at "w"
    refine w_iKeys ?_
    walk_at "w"
    refine ⟨d, od, rfl, .inl ⟨_, hdf, ?_⟩⟩
    refine lcK S (liveF chs S) (Old H) frM hdf (sz_small (by omega)) (fun i y H4 M' Yes No hy s4 ex fr' yes no => ?_) (fun D H4 hD s4 r4 => ?_)
    · obtain ⟨t, e, hct, ht, he, hne⟩ := caf y (hin hy)
      refine w_it1 rfl ?_
      walk_at "w"
      refine w_dnot ?_
      walk_at "w"
      refine ⟨g0, _, rfl, .inl ⟨_, (Sum.inl (y : Int) : Key), .inl (s4 _ _ hgf), rfl, rfl⟩, ?_⟩
      rw [dkv_val]
      have hCl4 := s4 _ _ hClf
      have ht4 := s4 _ _ ht
      refine ⟨_, rfl, ?_⟩
      by_cases hg : y ∈ gset chs S
      · rw [if_pos hg]
        refine iteF ?_
        refine iteF ?_
        refine no _ ?_ (Same.refl _)
        unfold liveF
        rw [if_neg fun z => by rw [mem_gset.mp hg] at z; cases z.1]
      · rw [if_neg hg]
        have hgf : goneB chs S y = false := by
          cases z : goneB chs S y with
          | false => rfl
          | true => exact absurd (mem_gset.mpr z) hg
        refine iteT ?_
        walk_at "w"
        refine w_ixS y (SqL.of hCl4) rfl hct ?_
        walk_at "w"
        refine w_t0 ht4 ?_
        walk_at "w"
        by_cases h0 : 0 ≤ (chgAt chs y).k
        · refine iteD (by omega) ?_
          walk_at "w"
          refine w_ixS y (SqL.of hCl4) rfl hct ?_
          walk_at "w"
          refine w_sl3 ht4 fun p hp => ?_
          refine yes _ _ (rowD (rowOf (chgAt chs y))) ?_ (Same.new hp) (.tupA upd_same (RpA.ints (ns := rowL (rowOf (chgAt chs y)))))
          unfold liveF
          rw [if_pos ⟨hgf, h0⟩]
        · refine iteDn (by omega) ?_
          refine no _ ?_ (Same.refl _)
          unfold liveF
          rw [if_neg fun z => h0 z.2]
    have r4 : Rp (Old H) H4 (.ref D) (rowsD ((liveL chs S).map fun i => rowOf (chgAt chs i))) := by
      rw [live_fm] at r4; exact r4
    refine ⟨s4 _ _ hdf, ?_⟩
    have r5 := r4.thaw (o := .dK (dkv S)) (s4 _ _ hdf)
    have s5 := hthaw H4 s4
    generalize upd H4 d (.dK (dkv S)) = H5 at r5 s5
    clear hthaw hgf hClf caf hdf frM
    have s05 := Same.trans s2 s5
    walk_at "w"
    refine w_sortR (M := Old H) (fun b hb z => z (s05.free hb)) r5 fun p6 H6 n6 s6 r6 => ?_
    have s06 := Same.trans s05 s6
    walk_at "w"
    refine ⟨_, rfl, by omega, by omega, ?_⟩
    refine lcR _ (fun _ => some (.int 0)) (Old H) (fun b hb z => z (s06.free hb)) (sz_small (by omega)) (fun i H3 M' Yes No hi s3 ex fr' yes no => ?_) (fun D7 H7 hD7 s7 r7 => ?_)
    · refine w_it0 rfl ?_
      walk_at "w"
      exact yes _ H3 _ rfl (Same.refl _) (.int _)
    rw [Int.toNat_natCast, cntL_zero (chs := chs)] at r7
    have h7 := Rp.intl_at r7
    have s07 := Same.trans s06 s7
    have hD0 : H D7 = none := s06.free hD7
    have r60 := r6
    have r6 := r6.same s7
    walk_at "w"
    -- mark
    refine ⟨d, .dK (dkv S), s07 _ _ hd, trivial, fun od => ?_⟩
    have hdf : upd H7 d (.frz od (.dK (dkv S))) d = some (.frz od (.dK (dkv S))) := upd_same
    have caf := ca.frz (od := od) s07 (s07 _ _ hd)
    have hClf : upd H7 d (.frz od (.dK (dkv S))) Cl = some (.lst cs) := by rw [upd_ne (fun z => by rw [z, hd] at hCl; cases hCl)]; exact s07 _ _ hCl
    have hDd : D7 ≠ d := fun z => by rw [z, hd] at hD0; cases hD0
    have hDf : upd H7 d (.frz od (.dK (dkv S))) D7 = some (.lst ((cntL n chs (S.take 0)).map V.int)) := by rw [upd_ne hDd]; exact h7
    have hback : ∀ H', But D7 (upd H7 d (.frz od (.dK (dkv S)))) H' → But D7 H7 (upd H' d (.dK (dkv S))) := fun H' bt b o nb e => by
      by_cases z : b = d
      · subst z; rw [upd_same, ← s07 _ _ hd]; exact e
      · rw [upd_ne z]
        exact bt _ _ nb (by rw [upd_ne z]; exact e)
    generalize upd H7 d (.frz od (.dK (dkv S))) = Hf at hdf caf hClf hDf hback
    walk_at "w"
    refine w_iKeys ?_
    walk_at "w"
    refine ⟨d, od, rfl, .inl ⟨_, hdf, ?_⟩⟩
    refine for_it walk_keys (fun i σ H' => (∃ u4, σ = [some (.ref Cl), some (.ref d), some (.int n), some (.ref g0), u4, some (.ref p6), some (.ref D7), none, none]) ∧ But D7 Hf H' ∧ H' D7 = some (.lst ((cntL n chs (S.take i)).map V.int))) ⟨⟨_, rfl⟩, fun _ _ _ e => e, hDf⟩ (fun i σ H' _ ⟨_, b, _⟩ => b _ _ hDd.symm hdf) ?_ ?_
    · rintro i x σ H0 H' hi ⟨⟨u4, rfl⟩, bt, hD⟩ ⟨rfl, ky, vv, hki, rfl⟩
      obtain ⟨y, hy, rfl⟩ := dkv_at hki
      obtain ⟨t, e, hct, ht, he, hne⟩ := caf y (hin hy)
      have hCl' : H' Cl = some (.lst cs) := bt _ _ (fun z => by rw [z, hD0] at hCl; cases hCl) hClf
      have ht' := bt _ _ (fun z => by rw [z, hDf] at ht; cases ht) ht
      walk_at "w"
      refine w_ixS y (SqL.of hCl') rfl hct ?_
      walk_at "w"
      refine w_t0 ht' ?_
      walk_at "w"
      by_cases h0 : 0 ≤ (chgAt chs y).k
      · refine iteD (by omega) ?_
        obtain ⟨k, ek, hk⟩ : ∃ k : Nat, (chgAt chs y).k = (k : Int) ∧ k < n := ⟨(chgAt chs y).k.toNat, by omega, by have := wd.rng y (hin hy); omega⟩
        rw [ek] at ht'
        walk_at "w"
        refine w_ixS y (SqL.of hCl') rfl hct ?_
        walk_at "w"
        refine w_t0 ht' ?_
        walk_at "w"
        refine w_ixS (v := .int ((cntL n chs (S.take i)).getD k 0)) k (SqL.of hD) rfl (by rw [List.getElem?_map, List.getD_eq_getElem?_getD, List.getElem?_eq_getElem (by rw [cntL_len]; exact hk)]; rfl) ?_
        walk_at "w"
        rw [cntL_getD hk]
        refine w_ixS y (SqL.of hCl') rfl hct ?_
        walk_at "w"
        refine w_t0 ht' ?_
        walk_at "w"
        refine ⟨D7, _, k, k, rfl, rfl, hD, ixN_nat rfl (by rw [List.length_map, cntL_len]; exact hk), ?_⟩
        walk_at "w"
        refine ⟨⟨_, rfl⟩, But.trans bt (But.upd _), ?_⟩
        rw [upd_same, ← cntL_step hy ek hk, List.map_set]
      · refine iteDn (by omega) ?_
        exact ⟨⟨_, rfl⟩, bt, by rw [← cntL_stay hy h0]; exact hD⟩
    rintro σ H8 ⟨⟨u4, rfl⟩, bt, hD⟩
    rw [dkv_len, List.take_length] at hD
    refine ⟨bt _ _ hDd.symm hdf, ?_⟩
    have b8 := hback H8 bt
    have hD8 : upd H8 d (.dK (dkv S)) D7 = some (.lst ((cntL n chs S).map V.int)) := by rw [upd_ne hDd]; exact hD
    generalize upd H8 d (.dK (dkv S)) = H9 at b8 hD8
    have s09 : Same H H9 := fun b o e => b8 _ _ (ne_of_none e hD0) (s07 _ _ e)
    have hpD : p6 ≠ D7 := by
      obtain ⟨_, zs, e, _, hz, _⟩ := Rp.lst_inv (ds := (sortR ((liveL chs S).map fun i => rowOf (chgAt chs i))).map rowD) r60
      cases e
      exact ne_of_none hz hD7
    have r9 : Rp (Old H) H9 (.ref p6) (rowsD (sortR ((liveL chs S).map fun i => rowOf (chgAt chs i)))) :=
      ((r6.rows_at (M' := fun b => b = D7) hpD).ext (b8.ext fun xs => ⟨fun z => (by rw [h7] at z; cases z), fun z => absurd rfl z⟩)).rows_at fun z => z (s05.free n6)
    have fr9 : Fr (Old H) H9 := fun b hb z => z (s09.free hb)
    obtain ⟨_, zs, e, _, hz, rz⟩ := Rp.lst_inv (ds := (sortR ((liveL chs S).map fun i => rowOf (chgAt chs i))).map rowD) r9
    cases e
    have zl : zs.length = (sortR ((liveL chs S).map fun i => rowOf (chgAt chs i))).length := by rw [rz.1, List.length_map]
    have zf : zs.length ≤ 100 := by
      rw [zl, sortR_len, List.length_map]
      have h1 := List.length_filter_le (fun i => !goneB chs S i && decide (0 ≤ (chgAt chs i).k)) S
      unfold liveL
      omega
    walk_at "w"
    refine ⟨p6, rfl, ⟨_, SqL.of hz⟩, ?_⟩
    refine lcL (sortR ((liveL chs S).map fun i => rowOf (chgAt chs i))) (fun r => some (.int r.2.2)) (Old H) fr9 (SqL.of hz) zl (sz_small (by omega)) (fun i x r H3 M' Yes No hx hr s3 ex fr' yes no => ?_) (fun D10 H10 hD10 s10 r10 => ?_)
    · refine w_it0 rfl ?_
      walk_at "w"
      refine w_row2 ((rz.2 i x _ hx (by rw [List.getElem?_map, hr]; rfl)).same s3) ?_
      exact yes _ H3 _ rfl (Same.refl _) (.int _)
    rw [fm_vals] at r10
    walk_at "w"
    refine w_tupleL (M := fun _ => False) (ds := (cntL n chs S).map PyData.int) (.lstA (fun z => z) (s10 _ _ hD8) RpA.ints) fun v11 H11 s11 r11 => ?_
    walk_at "w"
    have s011 := Same.trans s09 (Same.trans s10 s11)
    refine w_newT (M := Old H) (ds := [valsD (dueS n chs S).2, markD (dueS n chs S).1]) (RpA.nil.cons (Rp.mark r11) |>.cons (r10.same s11)) (by show 2 ≤ sizeLine; decide) fun v12 H12 s12 r12 => ?_
    exact q v12 H12 (Same.trans s011 s12) r12
end
end Sb

namespace Sb
open PySem L2 PyProof.Rows
def sp_l_told (a : Ad) : Sp := fun vs H Q _ => ∃ (M M2 : Addr → Prop) (v x : V) (ds : List Addr) (n k : Nat) (s : Str) (f : Nat → Str → Shelf), vs = [v, .int k, .str s, x] ∧ Fr M H ∧ KeyAt M H a.C v ds n AB f ∧ n ≤ 9 ∧ k < n ∧ ShOk n (f k s) ∧ Rp M2 H x (lookD (f k s)) ∧
  ∀ H', Same H H' → Q (.bl true) H'
section
variable {P : Program} {w : World} {K : Frag} {mg : Str → Option Value} {base : Heap} {a : Ad}
local macro_rules | `(tactic| walk_at "e1") => `(tactic| first
  | ((with_reducible refine' w_var ?wh ?_); (case wh => rfl))
  | with_reducible refine w_c ?_
  | with_reducible refine w_projn ?_
  | with_reducible refine w_projr ?_
  | with_reducible refine w_op ?_
  | with_reducible refine w_cons ?_
  | with_reducible refine w_nil ?_
  | with_reducible refine w_I0 ?_
  | ((with_reducible refine w_I ?wc ?_); (case wc => first | (show (0 : Int) < _; decide) | exact ⟨by decide, by decide⟩ | exact ⟨by decide, by decide, by decide⟩ | exact Or.inr ⟨by decide, by decide⟩ | exact Or.inl ⟨by decide, by decide⟩ | (show (0 : Int) < _; omega) | exact ⟨by omega, by omega⟩))
  | with_reducible refine w_bl ?_
  | with_reducible refine w_test ?_
  | with_reducible refine w_tB ?_
  | with_reducible refine w_set ?_
  | with_reducible refine w_ifS ?_
  | with_reducible refine w_if ?_
  | with_reducible refine w_or ?_
  | with_reducible refine w_and ?_
  | with_reducible refine w_not ?_
  | with_reducible refine w_orV ?_
  | with_reducible refine w_andV ?_
  | with_reducible refine w_notV ?_
  | with_reducible refine w_ret ?_
  | with_reducible refine w_retN ?_
  | with_reducible refine w_drop ?_
  | with_reducible refine w_next ?_
  | with_reducible refine w_un ?_
  | with_reducible refine w_CB ?_
  | with_reducible refine w_call ?_
  | with_reducible refine w_callS ?_
  | with_reducible refine w_gName ?_
  | with_reducible refine w_gCons ?_
  | with_reducible refine w_gNil ?_
  | with_reducible refine w_iEnum ?_
  | with_reducible refine w_tMake ?_
  | with_reducible refine w_asg ?_
  | with_reducible refine w_tTup ?_
  | with_reducible refine w_tLst ?_
  | with_reducible refine w_lc ?_
  | with_reducible refine w_iRng1 ?_
  | with_reducible refine w_iRng2 ?_
  | with_reducible refine w_iList ?_
  | with_reducible refine w_iTup ?_
  | with_reducible refine w_for ?_
  | with_reducible refine w_chain ?_
  | with_reducible refine w_sl ?_
  | with_reducible refine w_part ?_
  | with_reducible refine w_nopart ?_
  | with_reducible refine w_exint ?_
  | with_reducible refine w_dput ?_
  | with_reducible refine w_gSub ?_
  | with_reducible refine w_tFld ?_
  | with_reducible refine w_tMeth ?_
  | with_reducible refine w_sFld ?_
  | with_reducible refine w_dget2 ?_
  | with_reducible refine w_dget ?_
  | with_reducible refine w_bm ?_
  | with_reducible refine w_isiII ?_
  | with_reducible refine w_isiIB ?_
  | with_reducible refine w_isiBB ?_
  | with_reducible refine w_max ?_
  | ((with_reducible refine w_eq ?we ?_); (case we => rfl))
  | ((with_reducible refine w_ne ?we ?_); (case we => rfl)))
local macro_rules | `(tactic| walk_at "w1") => `(tactic| first | walk_at "e1" | with_reducible refine w_seq ?_)
local macro_rules | `(tactic| walk_at "e") => `(tactic| repeat walk_at "e1")
local macro_rules | `(tactic| walk_at "w") => `(tactic| repeat walk_at "w1")

theorem ok_l_told (T : Txt K mg a) : FnOk P w K mg base (L2.CX P w) 4 a.f_l_told a.d_l_told ["_law_store", "_law_keeper", "_law_key", "_law_due_here"] (sp_l_told a) := by
  refine T.F_l_told.okX sc_l_told (fun vs H Q E h => ?_) (fun cdv A outer s H vs Q E hr h => ?_)
  · obtain ⟨M, M2, v, x, ds, n, k, s, f, rfl, _⟩ := h; rfl
  · obtain ⟨M, M2, v, x, ds, n, k, s, f, rfl, fr, S, n9, hk, ok, rx, q⟩ := h
    have hu64 := hr.units
    have few := ok.few
    have hlen := ok.len
    refine ⟨_, (pss_cons (ps_set (i := 4) sc_l_told.nd rfl (Or.inl rfl) (pe_meth (pv 0) T.cl T.m_S_look (ok_S_look T) (hr.mono (by decide)) T.b_S_look .nil passL (pa_cons (pv 1) (pa_cons (pv 2) pa_nil))))
  (pss_cons (ps_if (PW.pt (pw_or (pt_not (pt_val (pe_callB (r := rIsi K) call_isi rfl T.n_isinstance (by decide +kernel) (pa_cons (pv 4) (pa_cons (pe_bltn (v := .ty "tuple") (u := .type "tuple") rfl T.n_tuple (by decide +kernel) rfl) pa_nil))))) (pw_or (pt_cmpR op_ne (pe_callB (r := rLen K) cl_len rfl T.n_len (by decide +kernel) (pa_cons (pv 4) pa_nil)) pe_int (nomark _)) (pw_or1 (pt_not (pt_val (pe_callB (r := rIsi K) call_isi rfl T.n_isinstance (by decide +kernel) (pa_cons (pe_ix (r := rIxT K) ix_tup (pv 4) pe_int (fun _ _ => rfl)) (pa_cons (pe_bltn (v := .ty "list") (u := .type "list") rfl T.n_list (by decide +kernel) rfl) pa_nil))))))))) (pss_one (ps_ret pe_bl)) pss_nil)
  (pss_cons (ps_if (PW.pt (pw_or (pt_not (pt_val (pe_callB (r := rIsi K) call_isi rfl T.n_isinstance (by decide +kernel) (pa_cons (pe_ix (r := rIxT K) ix_tup (pv 4) pe_int (fun _ _ => rfl)) (pa_cons (pe_bltn (v := .ty "tuple") (u := .type "tuple") rfl T.n_tuple (by decide +kernel) rfl) pa_nil))))) (pw_or (pt_cmpR (r := rNeD K) (op_neD hu64) (pe_ix (r := rIxT K) ix_tup (pv 4) pe_int (fun _ _ => rfl)) (pe_ix (r := rIxT K) ix_tup (pv 3) pe_int (fun _ _ => rfl)) (nomark _)) (pw_or1 (pt_cmpR (r := rNeD K) (op_neD hu64) (pe_ix (r := rIxT K) ix_tup (pv 4) pe_int (fun _ _ => rfl)) (pe_ix (r := rIxT K) ix_tup (pv 3) pe_int (fun _ _ => rfl)) (nomark _)))))) (pss_one (ps_ret pe_bl)) pss_nil)
  (pss_one (ps_ret (pe_cmpR (r := rEqD K) (op_eqD hu64) (pe_lc (own := [("_law_one", 5)]) rfl sc_l_told.nd (pi_list (pe_op op_cat (pe_ix (r := rIxT K) ix_tup (pv 4) pe_int (fun _ _ => rfl)) (pe_callTy (r := rLst K) cl_lst rfl T.n_list (by decide +kernel) (pa_cons (pe_ix (r := rIxT K) ix_tup (pv 4) pe_int (fun _ _ => rfl)) pa_nil)))) (blkOk_by (own := [("_law_one", 5)]) (N := N_l_told) (sc := defScope s_l_told) (by decide +kernel)) (fun _ _ _ _ _ => (pg_name (i := 5) sc_l_told.nd rfl (by first | exact Or.inl rfl | exact Or.inr rfl))) (fun _ _ _ _ _ => (pts_one (PW.pt (pw_or (pt_not (pt_val (pe_callB (r := rIsi K) call_isi rfl T.n_isinstance (by decide +kernel) (pa_cons (pv 5) (pa_cons (pe_bltn (v := .ty "int") (u := .type "int") rfl T.n_int (by decide +kernel) rfl) pa_nil))))) (pw_or1 (pt_val (pe_callB (r := rIsi K) call_isi rfl T.n_isinstance (by decide +kernel) (pa_cons (pv 5) (pa_cons (pe_bltn (v := .ty "bool") (u := .type "bool") rfl T.n_bool (by decide +kernel) rfl) pa_nil))))))))) (fun _ _ _ _ _ => (pv 5))) (pe_lst pa_nil) (nomark _))))))), ?_⟩
    walk_at "w"
    refine w_mthK S (by decide +kernel) (by decide +kernel) ?_
    walk_at "w"
    refine look_key S fr n9 rfl hk ok fun v1 H1 s1 r1 => ?_
    have rx := rx.same s1
    walk_at "w"
    refine w_isiTT r1 ?_
    walk_at "w"
    refine iteF ?_
    walk_at "w"
    refine w_lenT r1 ?_
    walk_at "w"
    refine iteNS rfl ?_
    walk_at "w"
    refine w_look0 r1 rfl fun v2 r2 => ?_
    walk_at "w"
    refine w_isiLL r2 ?_
    walk_at "w"
    refine iteF ?_
    walk_at "w"
    refine w_look1 r1 rfl fun v3 r3 => ?_
    walk_at "w"
    refine w_isiTT r3 ?_
    walk_at "w"
    refine iteF ?_
    walk_at "w"
    refine w_look0 r1 rfl fun v4 r4 => ?_
    walk_at "w"
    refine w_look0 rx rfl fun v5 r5 => ?_
    refine w_neI (m := (f k s).2.map fun r => r.2.2) (n := (f k s).2.map fun r => r.2.2) r4 r5 ?_
    rw [decide_eq_true rfl]
    walk_at "w"
    refine iteF ?_
    walk_at "w"
    refine w_look1 r1 rfl fun v6 r6 => ?_
    walk_at "w"
    refine w_look1 rx rfl fun v7 r7 => ?_
    refine w_neM r6 r7 ?_
    rw [decide_eq_true rfl]
    walk_at "w"
    refine iteF ?_
    walk_at "w"
    refine w_look0 r1 rfl fun v8 r8 => ?_
    obtain ⟨p8, rfl, _, h8⟩ := Rp.intl_inv (m := (f k s).2.map fun r => r.2.2) r8
    walk_at "w"
    refine w_look1 r1 rfl fun v9 r9 => ?_
    walk_at "w"
    refine w_listT (M := fun _ => False) (fun _ _ z => z) (Rp.mark r9) fun v10 H10 s10 r10 => ?_
    obtain ⟨p10, rfl, _, h10⟩ := Rp.intl_inv r10
    refine ⟨p8, p10, _, _, rfl, rfl, s10 _ _ h8, h10, sz_small (by rw [List.length_map, List.length_map, List.length_map]; omega), fun p11 n11 => ?_⟩
    rw [← List.map_append]
    have s11 : Same H10 (upd H10 p11 (.lst (((f k s).2.map (fun r => r.2.2) ++ (f k s).1).map V.int))) := Same.new n11
    have h11 : upd H10 p11 (.lst (((f k s).2.map (fun r => r.2.2) ++ (f k s).1).map V.int)) p11 = some (.lst (((f k s).2.map (fun r => r.2.2) ++ (f k s).1).map V.int)) := upd_same
    generalize upd H10 p11 (.lst (((f k s).2.map (fun r => r.2.2) ++ (f k s).1).map V.int)) = H11 at s11 h11
    refine ⟨p11, rfl, ⟨_, SqL.of h11⟩, ?_⟩
    refine lcL ((f k s).2.map (fun r => r.2.2) ++ (f k s).1) (fun _ => none) (fun _ => False) (fun _ _ z => z) (SqL.of h11) (List.length_map _) (sz_small (by rw [List.length_append, List.length_map]; omega)) (fun i x d H3 M' Yes No hx hd s3 ex fr' yes no => ?_) (fun D12 H12 hD12 s12 r12 => ?_)
    · obtain rfl : x = .int d := by
        rw [List.getElem?_map, hd] at hx
        exact (Option.some.inj hx).symm
      refine w_it1 rfl ?_
      walk_at "w"
      refine iteF ?_
      walk_at "w"
      refine iteF ?_
      exact no _ rfl (Same.refl _)
    walk_at "w"
    refine w_newL (M := fun _ => False) (fun _ _ z => z) RpA.nil (Nat.zero_le _) fun v13 H13 s13 r13 => ?_
    have e0 : ((f k s).2.map (fun r => r.2.2) ++ (f k s).1).filterMap (fun _ => (none : Option PyData)) = [] := List.filterMap_eq_nil_iff.mpr fun _ _ => rfl
    rw [e0] at r12
    refine w_eqI (m := []) (n := []) (r12.same s13) r13 ?_
    exact q _ (Same.trans s1 (Same.trans s10 (Same.trans s11 (Same.trans s12 s13))))
end
end Sb

namespace Sb
open PySem L2 PyProof.Rows
theorem KeyAt.table {M : Addr → Prop} {H H' : Hp} {C : Addr} {v : V} {ds : List Addr} {n : Nat} {Ks : List Str} {f : Nat → Str → Shelf} {q : Addr} {kvs : List (List Key × V)} (S : KeyAt M H C v ds n Ks f) (b : But q H H') (hd : H q = some (.dT kvs)) : KeyAt M H' C v ds n Ks f :=
  let ⟨st, a, c⟩ := S
  ⟨st, a.but b (fun xs => ⟨fun z => (by rw [hd] at z; cases z), fun _ z => (by rw [hd] at z; cases z)⟩) (fun D dx fs z => by rw [hd] at z; cases z) (fun z => by obtain ⟨kk, hk⟩ := a.occ z; rw [hd] at hk; cases hk), c⟩
theorem dget_t {H : Hp} {a b : Addr} {kvs : List (List Key × V)} {k : List Key} {v : V} (e : H a = some (.dT kvs)) (eb : H b = some (.tup (k.map kV))) (hv : valV kvs k = some v) : DGet H a (.ref b) (some v) := hv ▸ DGet.t e eb
theorem own_len (chs : List Chg) (k : Int) : ∀ S : List Nat, (S.filterMap fun y => if (chgAt chs y).k = k then some (PyData.int (y : Int)) else none).length = cnt chs S k
  | [] => rfl
  | y :: S => by
    have ih := own_len chs k S
    unfold cnt at ih ⊢
    rw [List.filterMap_cons, List.filter_cons]
    by_cases h : (chgAt chs y).k = k
    · rw [if_pos h, decide_eq_true h, if_pos rfl]; exact congrArg (· + 1) ih
    · rw [if_neg h, decide_eq_false h, if_neg (by decide)]; exact ih
def optV : Option Int → V
  | none => .non
  | some i => .int i
def sp_l_changed (a : Ad) : Sp := fun vs H Q _ => ∃ (M : Addr → Prop) (v : V) (ds : List Addr) (n : Nat) (Cl Kd Lk Le : Addr) (i : Nat) (f : Nat → Str → Shelf) (chs : List Chg) (kn : Nat → Str → List Nat) (ls es : List (Str × List Nat)) (k : Nat) (s : Str) (Wt St Lt e : Addr) (mv : V) (L : List Nat) (x : Option Int),
  vs = [v, .ref Wt, .ref St, .ref Lt, optV x] ∧ W8 a.C M H v ds n Cl Kd Lk Le i f chs kn ls es ∧ H Wt = some (.tup [.ref Cl, .ref Kd]) ∧ H St = some (.tup [.int k, .str s]) ∧ H Lt = some (.tup [mv, .ref e]) ∧
  (∀ M, Rp M H mv (markD (dueS n chs L).1)) ∧ SetAt ds H e L ∧ Gd chs s L ∧ k < n ∧ s ∈ AB ∧ i < 100 ∧
  ∀ H' f' chs' kn', W8 a.C M H' v ds n Cl Kd Lk Le (i + 1) f' chs' kn' ls es → Stays (M3 Cl Lk Le) ds H H' → Q .non H'
section
variable {P : Program} {w : World} {K : Frag} {mg : Str → Option Value} {base : Heap} {a : Ad}
local macro_rules | `(tactic| walk_at "e1") => `(tactic| first
  | ((with_reducible refine' w_var ?wh ?_); (case wh => rfl))
  | with_reducible refine w_c ?_
  | with_reducible refine w_projn ?_
  | with_reducible refine w_projr ?_
  | with_reducible refine w_op ?_
  | with_reducible refine w_cons ?_
  | with_reducible refine w_nil ?_
  | with_reducible refine w_I0 ?_
  | ((with_reducible refine w_I ?wc ?_); (case wc => first | (show (0 : Int) < _; decide) | exact ⟨by decide, by decide⟩ | exact ⟨by decide, by decide, by decide⟩ | exact Or.inr ⟨by decide, by decide⟩ | exact Or.inl ⟨by decide, by decide⟩ | (show (0 : Int) < _; omega) | exact ⟨by omega, by omega⟩))
  | with_reducible refine w_bl ?_
  | with_reducible refine w_test ?_
  | with_reducible refine w_tB ?_
  | with_reducible refine w_set ?_
  | with_reducible refine w_ifS ?_
  | with_reducible refine w_if ?_
  | with_reducible refine w_or ?_
  | with_reducible refine w_and ?_
  | with_reducible refine w_not ?_
  | with_reducible refine w_orV ?_
  | with_reducible refine w_andV ?_
  | with_reducible refine w_notV ?_
  | with_reducible refine w_ret ?_
  | with_reducible refine w_retN ?_
  | with_reducible refine w_drop ?_
  | with_reducible refine w_next ?_
  | with_reducible refine w_un ?_
  | with_reducible refine w_CB ?_
  | with_reducible refine w_call ?_
  | with_reducible refine w_callS ?_
  | with_reducible refine w_gName ?_
  | with_reducible refine w_gCons ?_
  | with_reducible refine w_gNil ?_
  | with_reducible refine w_iEnum ?_
  | with_reducible refine w_tMake ?_
  | with_reducible refine w_asg ?_
  | with_reducible refine w_tTup ?_
  | with_reducible refine w_tLst ?_
  | with_reducible refine w_lc ?_
  | with_reducible refine w_iRng1 ?_
  | with_reducible refine w_iRng2 ?_
  | with_reducible refine w_iList ?_
  | with_reducible refine w_iTup ?_
  | with_reducible refine w_for ?_
  | with_reducible refine w_chain ?_
  | with_reducible refine w_sl ?_
  | with_reducible refine w_part ?_
  | with_reducible refine w_nopart ?_
  | with_reducible refine w_exint ?_
  | with_reducible refine w_dput ?_
  | with_reducible refine w_gSub ?_
  | with_reducible refine w_tFld ?_
  | with_reducible refine w_tMeth ?_
  | with_reducible refine w_sFld ?_
  | with_reducible refine w_dget2 ?_
  | with_reducible refine w_dget ?_
  | with_reducible refine w_bm ?_
  | with_reducible refine w_isiII ?_
  | with_reducible refine w_isiIB ?_
  | with_reducible refine w_isiBB ?_
  | with_reducible refine w_max ?_
  | ((with_reducible refine w_eq ?we ?_); (case we => rfl))
  | ((with_reducible refine w_ne ?we ?_); (case we => rfl)))
local macro_rules | `(tactic| walk_at "w1") => `(tactic| first | walk_at "e1" | with_reducible refine w_seq ?_)
local macro_rules | `(tactic| walk_at "e") => `(tactic| repeat walk_at "e1")
local macro_rules | `(tactic| walk_at "w") => `(tactic| repeat walk_at "w1")

theorem ok_l_changed (T : Txt K mg a) : FnOk P w K mg base (L2.CX P w) 5 a.f_l_changed a.d_l_changed ["_law_store", "_law_world", "_law_spot", "_law_look", "_law_value_here"] (sp_l_changed a) := by
  refine T.F_l_changed.okX sc_l_changed (fun vs H Q E h => ?_) (fun cdv A outer sh H vs Q E hr h => ?_)
  · obtain ⟨M, v, ds, n, Cl, Kd, Lk, Le, i, f, chs, kn, ls, es, k, s, Wt, St, Lt, e, mv, L, x, rfl, _⟩ := h; rfl
  · obtain ⟨M, v, ds, n, Cl, Kd, Lk, Le, i, f, chs, kn, ls, es, k, s, Wt, St, Lt, e, mv, L, x, rfl, h8, hWt, hSt, hLt, rm, he, gL, hk, hs, hi, q⟩ := h
    have hu := hu_of hr
    obtain ⟨cs, hCl, chA⟩ := h8.cl
    obtain ⟨kvs, hKd, knA⟩ := h8.kd
    obtain ⟨xs, hLk, lkA⟩ := h8.lk
    obtain ⟨ys, hLe, leA⟩ := h8.le
    obtain ⟨e0, hv0, he0⟩ := knA.2 k hk s hs
    have g := h8.gk k hk s hs
    have n9 := h8.n9
    have c1 : chs.length ≤ 100 := by have := h8.ci; have := h8.i9; omega
    have few : (kn k s).length ≤ 100 := by have := g.few; omega
    have okk := h8.ok hk s
    have mk := due_mk (n := n) (chs := chs) (S := L)
    refine ⟨_, (pss_cons (ps_asg (pv 1) (pg_tup rfl (pgs_cons (pg_name (i := 6) sc_l_changed.nd rfl (by first | exact Or.inl rfl | exact Or.inr rfl)) (pgs_cons (pg_name (i := 7) sc_l_changed.nd rfl (by first | exact Or.inl rfl | exact Or.inr rfl)) pgs_nil))))
  (pss_cons (ps_if (pt_cmpR op_isN (pv 4) pe_non (nomark _)) (pss_cons (ps_expr (pe_meth (pv 0) T.cl T.m_S_drop (ok_S_drop T) (hr.mono (by decide)) T.b_S_drop .nil passL (pa_cons (pe_ix (r := rIxT K) ix_tup (pv 2) pe_int (fun _ _ => rfl)) (pa_cons (pe_ix (r := rIxT K) ix_tup (pv 2) pe_int (fun _ _ => rfl)) (pa_cons (pe_ix (r := rIxT K) ix_tup (pv 3) pe_int (fun _ _ => rfl)) pa_nil)))))
  (pss_one (ps_expr (pe_bmK K rfl PySem.F.plainAttrs_list PySem.F.slot_list_append PySem.F.type_list_append mt_append (pv 6) (pa_cons (pe_tup (pa_cons (pe_un un_neg pe_int) (pa_cons pe_int (pa_cons pe_int (pa_cons (pe_ix (r := rIxT K) ix_tup (pv 3) pe_int (fun _ _ => rfl)) pa_nil))))) pa_nil))))) (pss_cons (ps_set (i := 8) sc_l_changed.nd rfl (Or.inl rfl) (pe_op op_add pe_int (pe_callB (r := rLen K) cl_len rfl T.n_len (by decide +kernel) (pa_cons (pe_lock (pe_lc (own := [("_law_one", 9)]) rfl sc_l_changed.nd (pi_keys (pe_dget hu (pv 7) (pv 2) (fun _ _ => rfl))) (blkOk_by (own := [("_law_one", 9)]) (N := N_l_changed) (sc := defScope s_l_changed) (by decide +kernel)) (fun _ _ _ _ _ => (pg_name (i := 9) sc_l_changed.nd rfl (by first | exact Or.inl rfl | exact Or.inr rfl))) (fun _ _ _ _ _ => (pts_one (pt_cmpR op_eq (pe_ix (r := rIxT K) ix_tup (pe_ix (r := rIxL K) ix_list (pv 6) (pv 9) (fun _ _ => rfl)) pe_int (fun _ _ => rfl)) (pe_ix (r := rIxT K) ix_tup (pv 2) pe_int (fun _ _ => rfl)) (nomark _)))) (fun _ _ _ _ _ => (pv 9)))) pa_nil))))
  (pss_cons (ps_expr (pe_meth (pv 0) T.cl T.m_S_put (ok_S_put T) (hr.mono (by decide)) T.b_S_put .nil passL (pa_cons (pe_ix (r := rIxT K) ix_tup (pv 2) pe_int (fun _ _ => rfl)) (pa_cons (pe_ix (r := rIxT K) ix_tup (pv 2) pe_int (fun _ _ => rfl)) (pa_cons (pv 4) (pa_cons (pe_ix (r := rIxT K) ix_tup (pv 3) pe_int (fun _ _ => rfl)) pa_nil))))))
  (pss_one (ps_expr (pe_bmK K rfl PySem.F.plainAttrs_list PySem.F.slot_list_append PySem.F.type_list_append mt_append (pv 6) (pa_cons (pe_tup (pa_cons (pe_ix (r := rIxT K) ix_tup (pv 2) pe_int (fun _ _ => rfl)) (pa_cons (pv 8) (pa_cons (pv 4) (pa_cons (pe_ix (r := rIxT K) ix_tup (pv 3) pe_int (fun _ _ => rfl)) pa_nil))))) pa_nil)))))))
  (pss_cons (ps_set (i := 5) sc_l_changed.nd rfl (Or.inl rfl) (pe_call (ok_l_both T) (hr.mono (by decide)) rfl T.g_l_both T.k_l_both T.b_l_both .nil passL (pa_cons (pe_dget hu (pv 7) (pv 2) (fun _ _ => rfl)) (pa_cons (pe_ix (r := rIxT K) ix_tup (pv 3) pe_int (fun _ _ => rfl)) pa_nil))))
  (pss_cons (ps_dput hu (pv 5) (pe_op op_sub (pe_callB (r := rLen K) cl_len rfl T.n_len (by decide +kernel) (pa_cons (pv 6) pa_nil)) pe_int) pe_bl rfl)
  (pss_one (ps_dput hu (pv 7) (pv 2) (pv 5) rfl)))))), ?_⟩
    refine w_seq ?_
    walk_at "e"
    refine w_gTup hWt rfl ?_
    walk_at "e"
    refine w_cut (fun σ' H' => ∃ u8 c, σ' = [some v, some (.ref Wt), some (.ref St), some (.ref Lt), some (optV x), none, some (.ref Cl), some (.ref Kd), u8, none] ∧ c.key = s ∧ c.seen = L ∧
      Wd n (chs ++ [c]) (setN kn k s (addL (unionL (kn k s) L) chs.length)) ∧ Gd (chs ++ [c]) s (addL (unionL (kn k s) L) chs.length) ∧
      KeyAt M H' a.C v ds n AB (setK f k s (dueS n (chs ++ [c]) (addL (unionL (kn k s) L) chs.length))) ∧ (∃ cs, H' Cl = some (.lst cs) ∧ Chs ds H' cs (chs ++ [c])) ∧ Stays (M3 Cl Lk Le) ds H H' ∧ H' Kd = some (.dT kvs) ∧ H' Lk = some (.lst xs) ∧ H' Le = some (.lst ys)) (fun N key => ?_) ?_
    · walk_at "e"
      cases x with
      | none =>
        refine ⟨rfl, ?_⟩
        walk_at "w"
        refine iteT ?_
        walk_at "w"
        refine w_mthK h8.S (by decide +kernel) (by decide +kernel) ?_
        walk_at "w"
        refine w_t0 hSt ?_
        walk_at "w"
        refine w_t1 hSt ?_
        walk_at "w"
        refine w_t0 hLt ?_
        walk_at "w"
        refine drop_key h8.S h8.fr n9 rfl hk hs (by decide) (rm fun _ => False) mk okk fun H7 dk hd b7 k7 S7 => ?_
        have st7 : Stays (M3 Cl Lk Le) ds H H7 := .store hd b7 k7
        walk_at "w"
        refine ⟨ty_lst (SqL.of (k7.lst hCl)), ?_⟩
        walk_at "w"
        refine ⟨1, rfl, ?_⟩
        walk_at "w"
        refine w_t1 (st7.tup _ _ hLt) ?_
        walk_at "w"
        refine w_newTs (by show 4 ≤ sizeLine; decide) fun t H9 nt s9 ht => ?_
        have hCl9 := s9 _ _ (k7.lst hCl)
        walk_at "w"
        refine w_app hCl9 (by rw [chA.1]; omega) ?_
        walk_at "w"
        have st9 : Stays (M3 Cl Lk Le) ds H H9 := st7.trans (.same s9)
        have stA : Stays (M3 Cl Lk Le) ds H9 (upd H9 Cl (.lst (cs ++ [.ref t]))) := .list (.inl rfl) hCl9
        have wd' : Wd n (chs ++ [⟨s, -1, 0, 0, L⟩]) (setN kn k s (addL (unionL (kn k s) L) chs.length)) := h8.wd.grow (.inl rfl) (fun z => absurd (show (0 : Int) ≤ -1 from z) (by omega)) gL.lt (setN_sub fun i hi => mem_addL.mpr (.inl (mem_unionL.mpr (.inl hi)))) fun k' z => absurd (show (-1 : Int) = k' from z) (by omega)
        have gd' : Gd (chs ++ [⟨s, -1, 0, 0, L⟩]) s (addL (unionL (kn k s) L) chs.length) := g.grow gL rfl rfl fun z => absurd (show (0 : Int) ≤ -1 from z) (by omega)
        refine key _ _ ⟨_, ⟨s, -1, 0, 0, L⟩, rfl, rfl, rfl, wd', gd', ?_, ⟨_, upd_same, (((chA.stays st9).stays stA).more (c := ⟨s, -1, 0, 0, L⟩) (stA.tup _ _ ht) ((he.stays st9).stays stA))⟩, st9.trans stA, ?_, ?_, ?_⟩
        · rw [h8.fe k hk s hs, due_drop h8.wd g gL wd' gd'] at S7
          exact (S7.same s9).write h8.mC hCl9
        · rw [upd_ne (fun z => by rw [z, hCl] at hKd; cases hKd)]
          exact s9 _ _ (k7.keep _ _ (fun _ z => nomatch z) hKd)
        · rw [upd_ne h8.n1.symm]
          exact s9 _ _ (k7.lst hLk)
        · rw [upd_ne h8.n2.symm]
          exact s9 _ _ (k7.lst hLe)
      | some val =>
        refine ⟨rfl, ?_⟩
        walk_at "w"
        refine iteF ?_
        walk_at "w"
        refine ⟨e0, .dK (dkv (kn k s)), he0.at_, trivial, fun od => ?_⟩
        have hdf : upd H e0 (.frz od (.dK (dkv (kn k s)))) e0 = some (.frz od (.dK (dkv (kn k s)))) := upd_same
        have hup : ∀ b o, (∀ kvs, o ≠ .dK kvs) → H b = some o → upd H e0 (.frz od (.dK (dkv (kn k s)))) b = some o := fun b o no h => by
          rw [upd_ne (fun z => by rw [z, he0.at_] at h; exact no _ (Option.some.inj h).symm)]; exact h
        have hthaw : ∀ H', Same (upd H e0 (.frz od (.dK (dkv (kn k s))))) H' → Same H (upd H' e0 (.dK (dkv (kn k s)))) := fun H' s => thaw he0.at_ s
        generalize upd H e0 (.frz od (.dK (dkv (kn k s)))) = Hf at hdf hup hthaw
        have hClf := hup _ (.lst cs) (fun _ z => nomatch z) hCl
        have hKdf := hup _ (.dT kvs) (fun _ z => nomatch z) hKd
        have hStf := hup _ (.tup _) (fun _ z => nomatch z) hSt
        walk_at "w"
        refine w_iKeys ?_
        walk_at "w"
        refine ⟨Kd, _, rfl, dget_t (k := [Sum.inl (k : Int), Sum.inr s]) hKdf hStf hv0, ?_⟩
        refine ⟨e0, od, rfl, .inl ⟨_, hdf, ?_⟩⟩
        refine lcK (kn k s) (fun y => if (chgAt chs y).k = (k : Int) then some (PyData.int (y : Int)) else none) (fun _ => False) (fun _ _ z => z) hdf (sz_small (by omega)) (fun j y H4 M' Yes No hy s4 ex fr' yes no => ?_) (fun D H4 hD s4 r4 => ?_)
        · obtain ⟨t, e1, hct, ht, _⟩ := chA.2 y (g.lt _ (List.mem_of_getElem? hy))
          have ht4 := s4 _ _ (hup _ (.tup _) (fun _ z => nomatch z) ht)
          refine w_it1 rfl ?_
          walk_at "w"
          refine w_ixS y (SqL.of (s4 _ _ hClf)) rfl hct ?_
          walk_at "w"
          refine w_t0 ht4 ?_
          walk_at "w"
          refine w_t0 (s4 _ _ hStf) ?_
          walk_at "w"
          by_cases hc : (chgAt chs y).k = (k : Int)
          · refine iteD (by rw [hc]) ?_
            walk_at "w"
            exact yes _ _ _ (if_pos hc) (Same.refl _) (.int _)
          · refine iteDn (fun z => hc (V.int.inj z)) ?_
            exact no _ (if_neg hc) (Same.refl _)
        refine ⟨s4 _ _ hdf, ?_⟩
        have r5 := r4.thaw (o := .dK (dkv (kn k s))) (s4 _ _ hdf)
        have s5 := hthaw H4 s4
        generalize upd H4 e0 (.dK (dkv (kn k s))) = H5 at r5 s5
        clear hthaw hup hClf hKdf hStf hdf
        walk_at "w"
        refine w_lenL r5 ?_
        rw [own_len]
        walk_at "w"
        have h5 := h8.same s5
        refine w_mthK h5.S (by decide +kernel) (by decide +kernel) ?_
        walk_at "w"
        refine w_t0 (s5 _ _ hSt) ?_
        walk_at "w"
        refine w_t1 (s5 _ _ hSt) ?_
        walk_at "w"
        refine w_t0 (s5 _ _ hLt) ?_
        walk_at "w"
        refine put_key h5.S h5.fr n9 rfl hk hs (by decide) ((rm fun _ => False).same s5) mk okk fun H7 dk hd b7 k7 S7 => ?_
        have st7 : Stays (M3 Cl Lk Le) ds H H7 := (Stays.same s5).trans (.store hd b7 k7)
        have hCl7 := k7.lst (s5 _ _ hCl)
        walk_at "w"
        refine ⟨ty_lst (SqL.of hCl7), ?_⟩
        walk_at "w"
        refine w_t0 (st7.tup _ _ hSt) ?_
        walk_at "w"
        refine w_t1 (st7.tup _ _ hLt) ?_
        walk_at "w"
        refine w_newTs (by show 4 ≤ sizeLine; decide) fun t H9 nt s9 ht => ?_
        have hCl9 := s9 _ _ hCl7
        walk_at "w"
        refine w_app hCl9 (by rw [chA.1]; omega) ?_
        walk_at "w"
        have st9 : Stays (M3 Cl Lk Le) ds H H9 := st7.trans (.same s9)
        have stA : Stays (M3 Cl Lk Le) ds H9 (upd H9 Cl (.lst (cs ++ [.ref t]))) := .list (.inl rfl) hCl9
        have wd' : Wd n (chs ++ [⟨s, k, (cnt chs (kn k s) (k : Int) : Nat) + 1, val, L⟩]) (setN kn k s (addL (unionL (kn k s) L) chs.length)) := by
          refine h8.wd.grow (.inr ⟨Int.natCast_nonneg _, by show (k : Int) < n; omega⟩) (fun _ => ?_) gL.lt (setN_sub fun i hi => mem_addL.mpr (.inl (mem_unionL.mpr (.inl hi)))) fun k' z => ?_
          · have := own_cnt h8.wd g
            show ((cnt chs (kn k s) (k : Int) : Nat) : Int) + 1 = 1 + ((((List.range chs.length).filter fun j => decide ((chgAt chs j).key = s) && decide ((chgAt chs j).k = (k : Int))).length : Nat) : Int)
            rw [this]
            omega
          · obtain rfl : k' = k := by have : (k : Int) = k' := z; omega
            show chs.length ∈ setN kn k' s _ k' s
            rw [setN_eq]
            exact mem_addL.mpr (.inr rfl)
        have gd' : Gd (chs ++ [⟨s, k, (cnt chs (kn k s) (k : Int) : Nat) + 1, val, L⟩]) s (addL (unionL (kn k s) L) chs.length) := g.grow gL rfl rfl fun _ j hj e1 e2 => by
          have := h8.wd.own j hj k e2
          rw [e1] at this
          exact this
        have enum : (1 : Int) + ((cnt chs (kn k s) (k : Int) : Nat) : Int) = (cnt chs (kn k s) (k : Int) : Nat) + 1 := by omega
        rw [enum] at ht
        refine key _ _ ⟨_, ⟨s, k, (cnt chs (kn k s) (k : Int) : Nat) + 1, val, L⟩, rfl, rfl, rfl, wd', gd', ?_, ⟨_, upd_same, (((chA.stays st9).stays stA).more (c := ⟨s, k, (cnt chs (kn k s) (k : Int) : Nat) + 1, val, L⟩) (stA.tup _ _ ht) ((he.stays st9).stays stA))⟩, st9.trans stA, ?_, ?_, ?_⟩
        · rw [h8.fe k hk s hs, due_put h8.wd g gL hk wd' gd'] at S7
          exact (S7.same s9).write h8.mC hCl9
        · rw [upd_ne (fun z => by rw [z, hCl] at hKd; cases hKd)]
          exact s9 _ _ (k7.keep _ _ (fun _ z => nomatch z) (s5 _ _ hKd))
        · rw [upd_ne h8.n1.symm]
          exact s9 _ _ (k7.lst (s5 _ _ hLk))
        · rw [upd_ne h8.n2.symm]
          exact s9 _ _ (k7.lst (s5 _ _ hLe))
    rintro _ H7 ⟨u8, c, rfl, ck, cseen, wd', gd', S7, ⟨cs', hCl7, chA7⟩, st7, hKd7, hLk7, hLe7⟩
    have hSt7 := st7.tup _ _ hSt
    have hLt7 := st7.tup _ _ hLt
    have he7 := he.stays st7
    have he07 := he0.stays st7
    walk_at "w"
    refine ⟨Kd, _, rfl, dget_t (k := [Sum.inl (k : Int), Sum.inr s]) hKd7 hSt7 hv0, ?_⟩
    walk_at "w"
    refine w_t1 hLt7 ?_
    walk_at "w"
    refine ⟨e0, e, _, _, rfl, .inl he07.at_, .inl he7.at_, by have := gL.few; omega, fun r H9 nr s9 h9 => ?_⟩
    walk_at "w"
    refine w_lenS (SqL.of (s9 _ _ hCl7)) ?_
    walk_at "w"
    have elen : ((cs'.length : Nat) : Int) - 1 = (chs.length : Int) := by
      rw [chA7.1, List.length_append, List.length_singleton]; omega
    rw [elen]
    have ul : (unionL (kn k s) L).length ≤ 100 := by have := (g.union gL).few; omega
    refine ⟨r, _, rfl, DPut.k (k := Sum.inl (chs.length : Int)) h9 (sz_smallL (by rw [dkv_len]; omega)), ?_⟩
    rw [dkv_put]
    have sA : Same H7 (upd H9 r (.dK (dkv (addL (unionL (kn k s) L) chs.length)))) := Same.mut s9 nr
    have hA : upd H9 r (.dK (dkv (addL (unionL (kn k s) L) chs.length))) r = some (.dK (dkv (addL (unionL (kn k s) L) chs.length))) := upd_same
    generalize upd H9 r (.dK (dkv (addL (unionL (kn k s) L) chs.length))) = HA at sA hA
    walk_at "w"
    have hKdA := sA _ _ hKd7
    refine ⟨Kd, _, rfl, DPut.t (k := [Sum.inl (k : Int), Sum.inr s]) hKdA (sA _ _ hSt7) (sz_smallL (by have := knA.1; omega)), ?_⟩
    walk_at "w"
    have rout : r ∉ ds := fun z => by
      obtain ⟨kk, hk⟩ := S7.dicts z
      rw [nr] at hk; cases hk
    have stB : Stays (M3 Cl Lk Le) ds HA (upd HA Kd (.dT (putK kvs [Sum.inl (k : Int), Sum.inr s] (.ref r)))) := .table hKdA
    have stAB : Stays (M3 Cl Lk Le) ds H (upd HA Kd (.dT (putK kvs [Sum.inl (k : Int), Sum.inr s] (.ref r)))) := (st7.trans (.same sA)).trans stB
    have st7B : Stays (M3 Cl Lk Le) ds H7 (upd HA Kd (.dT (putK kvs [Sum.inl (k : Int), Sum.inr s] (.ref r)))) := (Stays.same sA).trans stB
    refine q _ _ _ _ (h8.change hk hs ck cseen gL wd' gd' ((S7.same sA).table (But.upd _) hKdA) (stAB.fr h8.fr) ⟨cs', ?_, chA7.stays st7B⟩ ⟨_, upd_same, (knA.stays stAB).put hk hs ⟨rout, stB.dic _ _ rout hA⟩⟩ ⟨xs, ?_, lkA.stays stAB⟩ ⟨ys, ?_, leA.stays stAB⟩ hi) stAB
    · rw [upd_ne (fun z => by rw [z, hKd7] at hCl7; cases hCl7)]; exact sA _ _ hCl7
    · rw [upd_ne (fun z => by rw [z, hKd7] at hLk7; cases hLk7)]; exact sA _ _ hLk7
    · rw [upd_ne (fun z => by rw [z, hKd7] at hLe7; cases hLe7)]; exact sA _ _ hLe7
end
end Sb

namespace Sb
open PySem L2 PyProof.Rows
def sp_l_deed (a : Ad) : Sp := fun vs H Q _ => ∃ (M : Addr → Prop) (v : V) (ds : List Addr) (n : Nat) (Cl Kd Lk Le : Addr) (i : Nat) (f : Nat → Str → Shelf) (chs : List Chg) (kn : Nat → Str → List Nat) (ls es : List (Str × List Nat)) (Wt Ht : Addr) (c : Int) (few : Bool),
  vs = [v, .ref Wt, .ref Ht, .int c, .int i, .bl few] ∧ W8 a.C M H v ds n Cl Kd Lk Le i f chs kn ls es ∧ H Wt = some (.tup [.ref Cl, .ref Kd]) ∧ H Ht = some (.tup [.ref Lk, .ref Le]) ∧ i < 100 ∧
  ∀ H' f' chs' kn' ls' es' (k : Nat) (s : Str) (T : Addr), W8 a.C M H' v ds n Cl Kd Lk Le (i + 1) f' chs' kn' ls' es' → Stays (M3 Cl Lk Le) ds H H' → H' T = some (.tup [.int k, .str s]) → k < n → s ∈ AB → Q (.ref T) H'
section
variable {P : Program} {w : World} {K : Frag} {mg : Str → Option Value} {base : Heap} {a : Ad}
local macro_rules | `(tactic| walk_at "e1") => `(tactic| first
  | ((with_reducible refine' w_var ?wh ?_); (case wh => rfl))
  | with_reducible refine w_c ?_
  | with_reducible refine w_projn ?_
  | with_reducible refine w_projr ?_
  | with_reducible refine w_op ?_
  | with_reducible refine w_cons ?_
  | with_reducible refine w_nil ?_
  | with_reducible refine w_I0 ?_
  | ((with_reducible refine w_I ?wc ?_); (case wc => first | (show (0 : Int) < _; decide) | exact ⟨by decide, by decide⟩ | exact ⟨by decide, by decide, by decide⟩ | exact Or.inr ⟨by decide, by decide⟩ | exact Or.inl ⟨by decide, by decide⟩ | (show (0 : Int) < _; omega) | exact ⟨by omega, by omega⟩))
  | with_reducible refine w_bl ?_
  | with_reducible refine w_test ?_
  | with_reducible refine w_tB ?_
  | with_reducible refine w_set ?_
  | with_reducible refine w_ifS ?_
  | with_reducible refine w_if ?_
  | with_reducible refine w_or ?_
  | with_reducible refine w_and ?_
  | with_reducible refine w_not ?_
  | with_reducible refine w_orV ?_
  | with_reducible refine w_andV ?_
  | with_reducible refine w_notV ?_
  | with_reducible refine w_ret ?_
  | with_reducible refine w_retN ?_
  | with_reducible refine w_drop ?_
  | with_reducible refine w_next ?_
  | with_reducible refine w_un ?_
  | with_reducible refine w_CB ?_
  | with_reducible refine w_call ?_
  | with_reducible refine w_callS ?_
  | with_reducible refine w_gName ?_
  | with_reducible refine w_gCons ?_
  | with_reducible refine w_gNil ?_
  | with_reducible refine w_iEnum ?_
  | with_reducible refine w_tMake ?_
  | with_reducible refine w_asg ?_
  | with_reducible refine w_tTup ?_
  | with_reducible refine w_tLst ?_
  | with_reducible refine w_lc ?_
  | with_reducible refine w_iRng1 ?_
  | with_reducible refine w_iRng2 ?_
  | with_reducible refine w_iList ?_
  | with_reducible refine w_iTup ?_
  | with_reducible refine w_for ?_
  | with_reducible refine w_chain ?_
  | with_reducible refine w_sl ?_
  | with_reducible refine w_part ?_
  | with_reducible refine w_nopart ?_
  | with_reducible refine w_exint ?_
  | with_reducible refine w_dput ?_
  | with_reducible refine w_gSub ?_
  | with_reducible refine w_tFld ?_
  | with_reducible refine w_tMeth ?_
  | with_reducible refine w_sFld ?_
  | with_reducible refine w_dget2 ?_
  | with_reducible refine w_dget ?_
  | with_reducible refine w_bm ?_
  | with_reducible refine w_isiII ?_
  | with_reducible refine w_isiIB ?_
  | with_reducible refine w_isiBB ?_
  | with_reducible refine w_max ?_
  | ((with_reducible refine w_eq ?we ?_); (case we => rfl))
  | ((with_reducible refine w_ne ?we ?_); (case we => rfl)))
local macro_rules | `(tactic| walk_at "w1") => `(tactic| first | walk_at "e1" | with_reducible refine w_seq ?_)
local macro_rules | `(tactic| walk_at "e") => `(tactic| repeat walk_at "e1")
local macro_rules | `(tactic| walk_at "w") => `(tactic| repeat walk_at "w1")

theorem ok_l_deed (T : Txt K mg a) : FnOk P w K mg base (L2.CX P w) 6 a.f_l_deed a.d_l_deed ["_law_store", "_law_world", "_law_heard", "_law_cell", "_law_turn", "_law_few"] (sp_l_deed a) := by
  refine T.F_l_deed.okX sc_l_deed (fun vs H Q E h => ?_) (fun cdv A outer sh H vs Q E hr h => ?_)
  · obtain ⟨M, v, ds, n, Cl, Kd, Lk, Le, i, f, chs, kn, ls, es, Wt, Ht, c, few, rfl, _⟩ := h; rfl
  · obtain ⟨M, v, ds, n, Cl, Kd, Lk, Le, i, f, chs, kn, ls, es, Wt, Ht, c, few, rfl, h8, hWt, hHt, hi, q⟩ := h
    have hu := hu_of hr
    have hu64 := hr.units
    have n9 := h8.n9
    have n0 := h8.n0
    have c1 : chs.length ≤ 100 := by have := h8.ci; have := h8.i9; omega
    refine ⟨_, (pss_cons (ps_asg (pv 2) (pg_tup rfl (pgs_cons (pg_name (i := 12) sc_l_deed.nd rfl (by first | exact Or.inl rfl | exact Or.inr rfl)) (pgs_cons (pg_name (i := 13) sc_l_deed.nd rfl (by first | exact Or.inl rfl | exact Or.inr rfl)) pgs_nil))))
  (pss_cons (ps_set (i := 6) sc_l_deed.nd rfl (Or.inl rfl) (pe_ix (r := rIxT K) ix_tup (pv 1) pe_int (fun _ _ => rfl)))
  (pss_cons (ps_set (i := 7) sc_l_deed.nd rfl (Or.inl rfl) (pe_op op_fdiv (pe_callB (r := rLenT) cl_lenT rfl T.n_len (by decide +kernel) (pa_cons (pv 6) pa_nil)) pe_int))
  (pss_cons (ps_set (i := 8) sc_l_deed.nd rfl (Or.inl rfl) (pe_op op_mod (pe_op op_fdiv (pv 3) pe_int) (pv 7)))
  (pss_cons (ps_set (i := 9) sc_l_deed.nd rfl (Or.inl rfl) (pe_ix (r := rIxL K) ix_list (pe_lst (pa_cons pe_str (pa_cons pe_str pa_nil))) (pe_op op_mod (pe_op op_fdiv (pv 3) pe_int) pe_int) (fun _ _ => rfl)))
  (pss_cons (ps_set (i := 10) sc_l_deed.nd rfl (Or.inl rfl) (pe_op op_add (pe_op op_fdiv (pv 3) pe_int) (pe_op op_mul pe_int (pv 4))))
  (pss_cons (ps_set (i := 11) sc_l_deed.nd rfl (Or.inl rfl) (pe_op op_mod (pe_op op_add (pv 3) (pv 4)) pe_int))
  (pss_cons (ps_expr (pe_call (ok_l_asked T) (hr.mono (by decide)) rfl T.g_l_asked T.k_l_asked T.b_l_asked .nil passL (pa_cons (pv 0) (pa_cons (pv 8) (pa_cons (pv 9) pa_nil)))))
  (pss_cons (ps_if (pt_cmpR op_lt (pv 11) pe_int (nomark _)) (pss_cons (ps_set (i := 14) sc_l_deed.nd rfl (Or.inl rfl) pe_non)
  (pss_cons (ps_if (pt_cmpR op_lt (pv 11) pe_int (nomark _)) (pss_one (ps_set (i := 14) sc_l_deed.nd rfl (Or.inl rfl) (pe_call (ok_l_value T) (hr.mono (by decide)) rfl T.g_l_value T.k_l_value T.b_l_value .nil passL (pa_cons (pv 3) (pa_cons (pv 5) pa_nil))))) pss_nil)
  (pss_one (ps_expr (pe_call (ok_l_changed T) (hr.mono (by decide)) rfl T.g_l_changed T.k_l_changed T.b_l_changed .nil passL (pa_cons (pv 0) (pa_cons (pv 1) (pa_cons (pe_tup (pa_cons (pv 8) (pa_cons (pv 9) pa_nil))) (pa_cons (pe_call (ok_l_looked T) (hr.mono (by decide)) rfl T.g_l_looked T.k_l_looked T.b_l_looked .nil passL (pa_cons (pv 12) (pa_cons (pv 9) (pa_cons (pv 10) (pa_cons (pv 7) pa_nil))))) (pa_cons (pv 14) pa_nil)))))))))) (pss_one (ps_if (pt_cmpR op_lt (pv 11) pe_int (nomark _)) (pss_one (ps_expr (pe_bmK K rfl PySem.F.plainAttrs_list PySem.F.slot_list_append PySem.F.type_list_append mt_append (pv 12) (pa_cons (pe_tup (pa_cons (pv 9) (pa_cons (pe_ix (r := rIxT K) ix_tup (pe_meth (pv 0) T.cl T.m_S_look (ok_S_look T) (hr.mono (by decide)) T.b_S_look .nil passL (pa_cons (pv 8) (pa_cons (pv 9) pa_nil))) pe_int (fun _ _ => rfl)) (pa_cons (pe_callTy (r := rDictD) cl_dictD rfl T.n_dict (by decide +kernel) (pa_cons (pe_dget hu (pv 6) (pe_tup (pa_cons (pv 8) (pa_cons (pv 9) pa_nil))) (fun _ _ => rfl)) pa_nil)) pa_nil)))) pa_nil)))) (pss_one (ps_if (PW.pt (pw_or (pt_cmpR op_eq (pv 11) pe_int (nomark _)) (pw_or1 (pt_cmpR (r := rEqNil K) (op_eqNil hu64) (pv 13) (pe_lst pa_nil) (nomark _))))) (pss_one (ps_expr (pe_bmK K rfl PySem.F.plainAttrs_list PySem.F.slot_list_append PySem.F.type_list_append mt_append (pv 13) (pa_cons (pe_tup (pa_cons (pv 9) (pa_cons (pe_meth (pv 0) T.cl T.m_S_letter (ok_S_letter T) (hr.mono (by decide)) T.b_S_letter .nil passL (pa_cons (pv 8) (pa_cons (pv 9) pa_nil))) (pa_cons (pe_callTy (r := rDictD) cl_dictD rfl T.n_dict (by decide +kernel) (pa_cons (pe_dget hu (pv 6) (pe_tup (pa_cons (pv 8) (pa_cons (pv 9) pa_nil))) (fun _ _ => rfl)) pa_nil)) pa_nil)))) pa_nil)))) (pss_cons (ps_asg (pe_ix (r := rIxL K) ix_list (pv 13) (pe_op op_mod (pv 10) (pe_callB (r := rLen K) cl_len rfl T.n_len (by decide +kernel) (pa_cons (pv 13) pa_nil))) (fun _ _ => rfl)) (pg_tup rfl (pgs_cons (pg_name (i := 9) sc_l_deed.nd rfl (by first | exact Or.inl rfl | exact Or.inr rfl)) (pgs_cons (pg_name (i := 15) sc_l_deed.nd rfl (by first | exact Or.inl rfl | exact Or.inr rfl)) (pgs_cons (pg_name (i := 16) sc_l_deed.nd rfl (by first | exact Or.inl rfl | exact Or.inr rfl)) pgs_nil)))))
  (pss_cons (ps_expr (pe_call (ok_l_asked T) (hr.mono (by decide)) rfl T.g_l_asked T.k_l_asked T.b_l_asked .nil passL (pa_cons (pv 0) (pa_cons (pv 8) (pa_cons (pv 9) pa_nil)))))
  (pss_cons (ps_expr (pe_meth (pv 0) T.cl T.m_S_take (ok_S_take T) (hr.mono (by decide)) T.b_S_take .nil passL (pa_cons (pv 8) (pa_cons (pv 15) pa_nil))))
  (pss_one (ps_dput hu (pv 6) (pe_tup (pa_cons (pv 8) (pa_cons (pv 9) pa_nil))) (pe_call (ok_l_both T) (hr.mono (by decide)) rfl T.g_l_both T.k_l_both T.b_l_both .nil passL (pa_cons (pe_dget hu (pv 6) (pe_tup (pa_cons (pv 8) (pa_cons (pv 9) pa_nil))) (fun _ _ => rfl)) (pa_cons (pv 16) pa_nil))) rfl))))))))))
  (pss_one (ps_ret (pe_tup (pa_cons (pv 8) (pa_cons (pv 9) pa_nil)))))))))))))), ?_⟩
    refine w_seq ?_
    walk_at "e"
    refine w_gTup hHt rfl ?_
    walk_at "e"
    refine w_seq ?_
    walk_at "e"
    refine w_t1 hWt ?_
    walk_at "e"
    refine w_seq ?_
    walk_at "e"
    obtain ⟨kvs, hKd, knA⟩ := h8.kd
    refine ⟨Kd, kvs, rfl, hKd, ?_⟩
    walk_at "e"
    have em : ((kvs.length : Nat) : Int) / 2 = (n : Int) := by rw [knA.1]; omega
    rw [em]
    refine w_seq ?_
    walk_at "e"
    obtain ⟨k, ek, hk⟩ := mod_nat (c / 9) (show 1 ≤ n by omega)
    rw [ek]
    refine w_seq ?_
    walk_at "e"
    refine w_newLs (by show 2 ≤ sizeLine; decide) fun p H1 np s1 hp => ?_
    walk_at "e"
    obtain ⟨j, ej, hj⟩ := mod_nat (c / 81) (show 1 ≤ 2 by omega)
    have ej : c / 81 % 2 = (j : Int) := ej
    obtain ⟨s, hs, hsj⟩ : ∃ s, s ∈ AB ∧ ([V.str "a", V.str "b"] : List V)[j]? = some (.str s) := by
      match j, hj with
      | 0, _ => exact ⟨"a", List.mem_cons_self, rfl⟩
      | 1, _ => exact ⟨"b", List.mem_cons_of_mem _ List.mem_cons_self, rfl⟩
    rw [ej]
    refine w_ixS j (SqL.of hp) rfl hsj ?_
    walk_at "e"
    have h8 := h8.same s1
    have hKd := s1 _ _ hKd
    have hWt := s1 _ _ hWt
    have q : ∀ H' f' chs' kn' ls' es' (k : Nat) (s : Str) (T : Addr), W8 a.C M H' v ds n Cl Kd Lk Le (i + 1) f' chs' kn' ls' es' → Stays (M3 Cl Lk Le) ds H1 H' → H' T = some (.tup [.int k, .str s]) → k < n → s ∈ AB → Q (.ref T) H' :=
      fun H' f' chs' kn' ls' es' k s T w st => q H' f' chs' kn' ls' es' k s T w ((Stays.same s1).trans st)
    refine w_seq ?_
    walk_at "e"
    refine w_seq ?_
    walk_at "e"
    generalize c / 162 + 7 * (i : Int) = pick
    generalize (c + (i : Int)) % 9 = sort
    refine w_seq ?_
    walk_at "e"
    refine ⟨M, v, ds, n, k, s, f, rfl, h8.fr, h8.S, n9, hk, h8.ok hk, fun H2 s2 => ?_⟩
    walk_at "e"
    have h8 := h8.same s2
    have hWt := s2 _ _ hWt
    have q : ∀ H' f' chs' kn' ls' es' (k : Nat) (s : Str) (T : Addr), W8 a.C M H' v ds n Cl Kd Lk Le (i + 1) f' chs' kn' ls' es' → Stays (M3 Cl Lk Le) ds H2 H' → H' T = some (.tup [.int k, .str s]) → k < n → s ∈ AB → Q (.ref T) H' :=
      fun H' f' chs' kn' ls' es' k s T w st => q H' f' chs' kn' ls' es' k s T w ((Stays.same s2).trans st)
    have hKd := s2 _ _ hKd
    clear ej hsj hp hHt knA
    obtain ⟨cs, hCl, chA⟩ := h8.cl
    obtain ⟨kvs', hKd', knA⟩ := h8.kd
    rw [hKd] at hKd'
    cases hKd'
    obtain ⟨xs, hLk, lkA⟩ := h8.lk
    obtain ⟨ys, hLe, leA⟩ := h8.le
    obtain ⟨e0, hv0, he0⟩ := knA.2 k hk s hs
    have g := h8.gk k hk s hs
    have lx : xs.length ≤ 100 := by rw [lkA.1]; have := h8.li; omega
    have ly : ys.length ≤ 100 := by rw [leA.1]; have := h8.ei; omega
    refine w_cut (fun σ' H' => ∃ u14 u15 u16 s' f' chs' kn' ls' es', σ' = [some v, some (.ref Wt), some (.ref Ht), some (.int c), some (.int i), some (.bl few), some (.ref Kd), some (.int n), some (.int k), some (.str s'), some (.int pick), some (.int sort), some (.ref Lk), some (.ref Le), u14, u15, u16] ∧ s' ∈ AB ∧
      W8 a.C M H' v ds n Cl Kd Lk Le (i + 1) f' chs' kn' ls' es' ∧ Stays (M3 Cl Lk Le) ds H2 H') (fun N key => ?_) ?_
    · walk_at "w"
      by_cases q1 : sort < 4
      · refine iteD q1 ?_
        walk_at "w"
        refine w_ifJoin 14 .non (fun x => ∃ o, x = optV o) rfl (fun _ => ⟨none, rfl⟩) ?_ (fun N' key' _ => ?_)
        rotate_left
        · walk_at "w"
          refine ⟨c, few, rfl, fun z => ?_⟩
          walk_at "w"
          exact key' _ ⟨some z, rfl⟩
        rintro _ ⟨o, rfl⟩
        walk_at "w"
        refine w_newTs (by show 2 ≤ sizeLine; decide) fun St H3 n3 s3 hSt => ?_
        walk_at "w"
        have h3 := h8.same s3
        refine ⟨Lk, s, pick, n, ds, xs, ls, chs, rfl, s3 _ _ hLk, lkA.stays (.same s3 : Stays (M3 Cl Lk Le) ds H2 H3), h8.gl, lx, by omega, n9, c1, h3.occ, fun Lt mv e L H4 hLt rm he gL s4 => ?_⟩
        walk_at "w"
        have h4 := h3.same s4
        have s34 := Same.trans s3 s4
        refine ⟨M, v, ds, n, Cl, Kd, Lk, Le, i, f, chs, kn, ls, es, k, s, Wt, St, Lt, e, mv, L, o, rfl, h4, s34 _ _ hWt, s4 _ _ hSt, hLt, rm, he, gL, hk, hs, hi, fun H5 f' chs' kn' h5 st5 => ?_⟩
        walk_at "w"
        exact key _ _ ⟨_, _, _, s, _, _, _, _, _, rfl, hs, h5, (Stays.same s34).trans st5⟩
      · refine iteDn q1 ?_
        walk_at "w"
        by_cases q2 : sort < 6
        · refine iteD q2 ?_
          walk_at "w"
          refine ⟨ty_lst (SqL.of hLk), ?_⟩
          walk_at "w"
          refine w_mthK h8.S (by decide +kernel) (by decide +kernel) ?_
          walk_at "w"
          refine look_key h8.S h8.fr n9 rfl hk (h8.ok hk s) fun v3 H3 s3 r3 => ?_
          walk_at "w"
          refine w_look1 r3 rfl fun v4 r4 => ?_
          rw [h8.fe k hk s hs] at r4
          walk_at "w"
          refine w_newTs (by show 2 ≤ sizeLine; decide) fun St H5 n5 s5 hSt => ?_
          have s35 := Same.trans s3 s5
          refine ⟨Kd, _, rfl, dget_t (k := [Sum.inl (k : Int), Sum.inr s]) (s35 _ _ hKd) hSt hv0, ?_⟩
          walk_at "w"
          refine ⟨e0, _, rfl, .inl (s35 _ _ he0.at_), fun p hp => ?_⟩
          have s6 : Same H5 (upd H5 p (.dK (dkv (kn k s)))) := Same.new hp
          have h6 : upd H5 p (.dK (dkv (kn k s))) p = some (.dK (dkv (kn k s))) := upd_same
          generalize upd H5 p (.dK (dkv (kn k s))) = H6 at s6 h6
          have s36 := Same.trans s35 s6
          have pout : p ∉ ds := h8.out (s35.free hp)
          walk_at "w"
          refine w_newTs (by show 3 ≤ sizeLine; decide) fun t H7 n7 s7 ht => ?_
          have s37 := Same.trans s36 s7
          have hLk7 := s37 _ _ hLk
          walk_at "w"
          refine w_app hLk7 (by omega) ?_
          walk_at "w"
          refine key _ _ ⟨_, _, _, s, _, _, _, _, _, rfl, hs, (h8.same s37).look hLk7 ht (fun M' => (((Rp.mark r4).same s5).same s6).same s7) ⟨pout, s7 _ _ h6⟩ g hi, (Stays.same s37).trans (.list (.inr (.inl rfl)) hLk7)⟩
        · refine iteDn q2 ?_
          refine w_ifS ?_
          refine w_mid (fun c H3 => Same H2 H3 ∧ (c = false → ys ≠ [])) (fun QT' key' => ?_) ?_
          · walk_at "w"
            by_cases q3 : sort = 6
            · refine iteD (by rw [q3]) ?_
              exact key' _ _ ⟨Same.refl _, fun z => nomatch z⟩
            · refine iteDn (fun z => q3 (V.int.inj z)) ?_
              walk_at "w"
              refine w_newLs (Nat.zero_le _) fun p3 H3 np3 s3 h3 => ?_
              refine ⟨Le, p3, ys, rfl, rfl, SqL.of (s3 _ _ hLe), h3, ?_⟩
              walk_at "w"
              exact key' _ _ ⟨s3, fun z => of_decide_eq_false z⟩
          rintro cc H3 ⟨s3, hcc⟩
          have h3 := h8.same s3
          have hKd3 := s3 _ _ hKd
          have hLe3 := s3 _ _ hLe
          have he3 := he0.same s3
          cases cc with
          | true =>
            refine iteT ?_
            walk_at "w"
            refine ⟨ty_lst (SqL.of hLe3), ?_⟩
            walk_at "w"
            refine w_mthK h3.S (by decide +kernel) (by decide +kernel) ?_
            walk_at "w"
            refine letter_key h3.S h3.fr n9 rfl hk fun v4 H4 s4 r4 => ?_
            rw [h8.fe k hk s hs] at r4
            walk_at "w"
            refine w_newTs (by show 2 ≤ sizeLine; decide) fun St H5 n5 s5 hSt => ?_
            have s35 := Same.trans s4 s5
            refine ⟨Kd, _, rfl, dget_t (k := [Sum.inl (k : Int), Sum.inr s]) (s35 _ _ hKd3) hSt hv0, ?_⟩
            walk_at "w"
            refine ⟨e0, _, rfl, .inl (s35 _ _ he3.at_), fun p hp => ?_⟩
            have s6 : Same H5 (upd H5 p (.dK (dkv (kn k s)))) := Same.new hp
            have h6 : upd H5 p (.dK (dkv (kn k s))) p = some (.dK (dkv (kn k s))) := upd_same
            generalize upd H5 p (.dK (dkv (kn k s))) = H6 at s6 h6
            have s36 := Same.trans s35 s6
            have pout : p ∉ ds := h3.out (s35.free hp)
            walk_at "w"
            refine w_newTs (by show 3 ≤ sizeLine; decide) fun t H7 n7 s7 ht => ?_
            have s37 := Same.trans s36 s7
            have hLe7 := s37 _ _ hLe3
            walk_at "w"
            refine w_app hLe7 (by omega) ?_
            walk_at "w"
            refine key _ _ ⟨_, _, _, s, _, _, _, _, _, rfl, hs, (h3.same s37).letter hLe7 ht (fun M' => (((r4 M').same s5).same s6).same s7) ⟨pout, s7 _ _ h6⟩ g hs hi, ((Stays.same s3).trans (.same s37)).trans (.list (.inr (.inr rfl)) hLe7)⟩
          | false =>
            refine iteF ?_
            have hne := hcc rfl
            have hpos : 1 ≤ ys.length := List.length_pos_iff.mpr hne
            obtain ⟨j2, ej2, hj2⟩ := mod_nat pick hpos
            obtain ⟨p, hp⟩ : ∃ p, es[j2]? = some p := ⟨_, List.getElem?_eq_getElem (by rw [← leA.1]; exact hj2)⟩
            obtain ⟨t, mv, e, ht, k1, k2, k3⟩ := leA.2 j2 p hp
            obtain ⟨s', L⟩ := p
            obtain ⟨gL, hs'⟩ := h8.ge _ (List.mem_of_getElem? hp)
            have k3 := k3.same s3
            walk_at "w"
            refine w_lenS (SqL.of hLe3) ?_
            walk_at "w"
            rw [ej2]
            refine w_ixS j2 (SqL.of hLe3) rfl ht ?_
            refine w_gTup (s3 _ _ k1) rfl ?_
            walk_at "w"
            refine ⟨M, v, ds, n, k, s', f, rfl, h3.fr, h3.S, n9, hk, h3.ok hk, fun H4 s4 => ?_⟩
            have h4 := h3.same s4
            walk_at "w"
            refine w_mthK h4.S (by decide +kernel) (by decide +kernel) ?_
            walk_at "w"
            refine take_key (key := s') (sh := dueS n chs L) h4.S h4.fr n9 rfl hk hs' (by decide) (fun M' => ((k2 M').same s3).same s4) (h8.ok hk s') (due_ok h8.wd gL (by omega)) fun H5 dk hd b5 k5 S5 => ?_
            have s04 := Same.trans s3 s4
            have st5 : Stays (M3 Cl Lk Le) ds H2 H5 := (Stays.same s04).trans (.store hd b5 k5)
            have hKd5 := k5.keep Kd (.dT kvs) (fun _ z => nomatch z) (s04 _ _ hKd)
            obtain ⟨e1, hv1, he1⟩ := knA.2 k hk s' hs'
            have g1 := h8.gk k hk s' hs'
            have he5 := he1.stays st5
            have k5' := k3.stays ((Stays.same s4 : Stays (M3 Cl Lk Le) ds H3 H4).trans (.store hd b5 k5))
            walk_at "w"
            refine w_newTs (by show 2 ≤ sizeLine; decide) fun St H6 n6 s6 hSt => ?_
            refine ⟨Kd, _, rfl, dget_t (k := [Sum.inl (k : Int), Sum.inr s']) (s6 _ _ hKd5) hSt hv1, ?_⟩
            walk_at "w"
            refine ⟨e1, e, _, _, rfl, .inl (s6 _ _ he5.at_), .inl (s6 _ _ k5'.at_), by have := g1.few; have := gL.few; omega, fun r H7 nr s7 h7 => ?_⟩
            walk_at "w"
            refine w_newTs (by show 2 ≤ sizeLine; decide) fun St2 H8 n8 s8 hSt2 => ?_
            have s58 := Same.trans s6 (Same.trans s7 s8)
            have hKd8 := s58 _ _ hKd5
            refine ⟨Kd, _, rfl, DPut.t (k := [Sum.inl (k : Int), Sum.inr s']) hKd8 hSt2 (sz_smallL (by have := knA.1; omega)), ?_⟩
            walk_at "w"
            have rout : r ∉ ds := fun z => by
              obtain ⟨kk, hk⟩ := S5.dicts z
              rw [s6.free nr] at hk; cases hk
            have stB : Stays (M3 Cl Lk Le) ds H8 (upd H8 Kd (.dT (putK kvs [Sum.inl (k : Int), Sum.inr s'] (.ref r)))) := .table hKd8
            have stAll : Stays (M3 Cl Lk Le) ds H2 (upd H8 Kd (.dT (putK kvs [Sum.inl (k : Int), Sum.inr s'] (.ref r)))) := (st5.trans (.same s58)).trans stB
            refine key _ _ ⟨_, _, _, s', _, _, _, _, _, rfl, hs', h8.take hk hs' gL stAll ((S5.same s58).table (But.upd _) hKd8) ?_ ?_ ?_ ⟨_, upd_same, (knA.stays stAll).put hk hs' ⟨rout, stB.dic _ _ rout (s8 _ _ h7)⟩⟩ hi, stAll⟩
            · rw [upd_ne (fun z => by rw [z, hKd] at hCl; cases hCl), hCl]; exact s58 _ _ (k5.lst (s04 _ _ hCl))
            · rw [upd_ne (fun z => by rw [z, hKd] at hLk; cases hLk), hLk]; exact s58 _ _ (k5.lst (s04 _ _ hLk))
            · rw [upd_ne (fun z => by rw [z, hKd] at hLe; cases hLe), hLe]; exact s58 _ _ (k5.lst (s04 _ _ hLe))
    rintro _ H9 ⟨u14, u15, u16, s', f', chs', kn', ls', es', rfl, hs', h9, st9⟩
    walk_at "w"
    refine w_newTs (by show 2 ≤ sizeLine; decide) fun Tr H10 n10 s10 hTr => ?_
    exact q H10 f' chs' kn' ls' es' k s' Tr (h9.same s10) (st9.trans (.same s10)) hTr hk hs'
end
end Sb

namespace Sb
open PySem L2 PyProof.Rows
/-- the law's five lists -/
abbrev M8 (Cl Lk Le To Ke : Addr) : Addr → Prop := fun b => b = Cl ∨ b = Lk ∨ b = Le ∨ b = To ∨ b = Ke
section
variable {P : Program} {w : World} {K : Frag} {mg : Str → Option Value} {base : Heap} {a : Ad}
local macro_rules | `(tactic| walk_at "e1") => `(tactic| first
  | ((with_reducible refine' w_var ?wh ?_); (case wh => rfl))
  | with_reducible refine w_c ?_
  | with_reducible refine w_projn ?_
  | with_reducible refine w_projr ?_
  | with_reducible refine w_op ?_
  | with_reducible refine w_cons ?_
  | with_reducible refine w_nil ?_
  | with_reducible refine w_I0 ?_
  | ((with_reducible refine w_I ?wc ?_); (case wc => first | (show (0 : Int) < _; decide) | exact ⟨by decide, by decide⟩ | exact ⟨by decide, by decide, by decide⟩ | exact Or.inr ⟨by decide, by decide⟩ | exact Or.inl ⟨by decide, by decide⟩ | (show (0 : Int) < _; omega) | exact ⟨by omega, by omega⟩))
  | with_reducible refine w_bl ?_
  | with_reducible refine w_test ?_
  | with_reducible refine w_tB ?_
  | with_reducible refine w_set ?_
  | with_reducible refine w_ifS ?_
  | with_reducible refine w_if ?_
  | with_reducible refine w_or ?_
  | with_reducible refine w_and ?_
  | with_reducible refine w_not ?_
  | with_reducible refine w_orV ?_
  | with_reducible refine w_andV ?_
  | with_reducible refine w_notV ?_
  | with_reducible refine w_ret ?_
  | with_reducible refine w_retN ?_
  | with_reducible refine w_drop ?_
  | with_reducible refine w_next ?_
  | with_reducible refine w_un ?_
  | with_reducible refine w_CB ?_
  | with_reducible refine w_call ?_
  | with_reducible refine w_callS ?_
  | with_reducible refine w_gName ?_
  | with_reducible refine w_gCons ?_
  | with_reducible refine w_gNil ?_
  | with_reducible refine w_iEnum ?_
  | with_reducible refine w_tMake ?_
  | with_reducible refine w_asg ?_
  | with_reducible refine w_tTup ?_
  | with_reducible refine w_tLst ?_
  | with_reducible refine w_lc ?_
  | with_reducible refine w_iRng1 ?_
  | with_reducible refine w_iRng2 ?_
  | with_reducible refine w_iList ?_
  | with_reducible refine w_iTup ?_
  | with_reducible refine w_for ?_
  | with_reducible refine w_chain ?_
  | with_reducible refine w_sl ?_
  | with_reducible refine w_part ?_
  | with_reducible refine w_nopart ?_
  | with_reducible refine w_exint ?_
  | with_reducible refine w_dput ?_
  | with_reducible refine w_gSub ?_
  | with_reducible refine w_tFld ?_
  | with_reducible refine w_tMeth ?_
  | with_reducible refine w_sFld ?_
  | with_reducible refine w_dget2 ?_
  | with_reducible refine w_dget ?_
  | with_reducible refine w_bm ?_
  | with_reducible refine w_isiII ?_
  | with_reducible refine w_isiIB ?_
  | with_reducible refine w_isiBB ?_
  | with_reducible refine w_max ?_
  | ((with_reducible refine w_eq ?we ?_); (case we => rfl))
  | ((with_reducible refine w_ne ?we ?_); (case we => rfl)))
local macro_rules | `(tactic| walk_at "w1") => `(tactic| first | walk_at "e1" | with_reducible refine w_seq ?_)
local macro_rules | `(tactic| walk_at "e") => `(tactic| repeat walk_at "e1")
local macro_rules | `(tactic| walk_at "w") => `(tactic| repeat walk_at "w1")

theorem ok_law (T : Txt K mg a) : FnOk P w K mg base (L2.CX P w) 7 a.f_law a.d_law ["_law_script"] (sp_law K) := by
  refine T.F_law.okX sc_law (fun vs H Q E h => ?_) (fun cdv A outer s H vs Q E hr h => ?_)
  · obtain ⟨b, ns, rfl, _⟩ := h; rfl
  · obtain ⟨b, ns, rfl, hs, hl, q⟩ := h
    have hu64 := hr.units
    have hu := hu_of hr
    refine ⟨_, (pss_cons (ps_set (i := 1) sc_law.nd rfl (Or.inl rfl) (pe_ix (r := rIxL K) ix_list (pe_lst (pa_cons pe_int (pa_cons pe_int (pa_cons pe_int (pa_cons (pe_op op_add pe_int (pe_op op_mod (pe_op op_fdiv (pe_call (ok_l_cell_at T) (hr.mono (by decide)) rfl T.g_l_cell_at T.k_l_cell_at T.b_l_cell_at .nil passL (pa_cons (pv 0) (pa_cons pe_int pa_nil))) pe_int) pe_int)) (pa_cons pe_int pa_nil)))))) (pe_op op_mod (pe_call (ok_l_cell_at T) (hr.mono (by decide)) rfl T.g_l_cell_at T.k_l_cell_at T.b_l_cell_at .nil passL (pa_cons (pv 0) (pa_cons pe_int pa_nil))) pe_int) (fun _ _ => rfl)))
  (pss_cons (ps_set (i := 2) sc_law.nd rfl (Or.inl rfl) (pe_cmpR op_eq (pe_op op_mod (pe_op op_fdiv (pe_call (ok_l_cell_at T) (hr.mono (by decide)) rfl T.g_l_cell_at T.k_l_cell_at T.b_l_cell_at .nil passL (pa_cons (pv 0) (pa_cons pe_int pa_nil))) pe_int) pe_int) pe_int (nomark _)))
  (pss_cons (ps_set (i := 3) sc_law.nd rfl (Or.inl rfl) (pe_make T.mks (ok_S_init T) (hr.mono (by decide)) rfl T.g_Store T.b_S_init .nil passL (pa_cons (pv 1) pa_nil)))
  (pss_cons (ps_set (i := 4) sc_law.nd rfl (Or.inl rfl) pe_dnewT)
  (pss_cons (ps_for (passes_of rfl) rfl (pi_range1 rfl T.n_range (pa_cons (pv 1) pa_nil)) (pg_name (i := 5) sc_law.nd rfl (by first | exact Or.inl rfl | exact Or.inr rfl))
  (pss_cons (ps_dput hu (pv 4) (pe_tup (pa_cons (pv 5) (pa_cons pe_str pa_nil))) pe_dnewK rfl)
  (pss_one (ps_dput hu (pv 4) (pe_tup (pa_cons (pv 5) (pa_cons pe_str pa_nil))) pe_dnewK rfl))))
  (pss_cons (ps_set (i := 6) sc_law.nd rfl (Or.inl rfl) (pe_tup (pa_cons (pe_lst pa_nil) (pa_cons (pv 4) pa_nil))))
  (pss_cons (ps_set (i := 7) sc_law.nd rfl (Or.inl rfl) (pe_tup (pa_cons (pe_lst pa_nil) (pa_cons (pe_lst pa_nil) pa_nil))))
  (pss_cons (ps_set (i := 8) sc_law.nd rfl (Or.inl rfl) (pe_lst pa_nil))
  (pss_cons (ps_set (i := 9) sc_law.nd rfl (Or.inl rfl) (pe_lst pa_nil))
  (pss_cons (ps_for (passes_of rfl) rfl (pi_enum rfl T.n_enumerate (pa_cons (pe_call (ok_l_cells T) (hr.mono (by decide)) rfl T.g_l_cells T.k_l_cells T.b_l_cells .nil passL (pa_cons (pv 0) (pa_cons (pv 1) pa_nil))) pa_nil)) (pg_tup rfl (pgs_cons (pg_name (i := 10) sc_law.nd rfl (by first | exact Or.inl rfl | exact Or.inr rfl)) (pgs_cons (pg_name (i := 11) sc_law.nd rfl (by first | exact Or.inl rfl | exact Or.inr rfl)) pgs_nil)))
  (pss_cons (ps_set (i := 12) sc_law.nd rfl (Or.inl rfl) (pe_call (ok_l_deed T) (hr.mono (by decide)) rfl T.g_l_deed T.k_l_deed T.b_l_deed .nil passL (pa_cons (pv 3) (pa_cons (pv 6) (pa_cons (pv 7) (pa_cons (pv 11) (pa_cons (pv 10) (pa_cons (pv 2) pa_nil))))))))
  (pss_cons (ps_if (pt_not (pt_val (pe_call (ok_l_told T) (hr.mono (by decide)) rfl T.g_l_told T.k_l_told T.b_l_told .nil passL (pa_cons (pv 3) (pa_cons (pe_ix (r := rIxT K) ix_tup (pv 12) pe_int (fun _ _ => rfl)) (pa_cons (pe_ix (r := rIxT K) ix_tup (pv 12) pe_int (fun _ _ => rfl)) (pa_cons (pe_call (ok_l_due T) (hr.mono (by decide)) rfl T.g_l_due T.k_l_due T.b_l_due .nil passL (pa_cons (pe_ix (r := rIxT K) ix_tup (pv 6) pe_int (fun _ _ => rfl)) (pa_cons (pe_dget hu (pv 4) (pv 12) (fun _ _ => rfl)) (pa_cons (pv 1) pa_nil)))) pa_nil))))))) (pss_one (ps_ret pe_bl)) pss_nil)
  (pss_cons (ps_expr (pe_bmK K rfl PySem.F.plainAttrs_list PySem.F.slot_list_append PySem.F.type_list_append mt_append (pv 8) (pa_cons (pe_ix (r := rIxT K) ix_tup (pe_meth (pv 3) T.cl T.m_S_look (ok_S_look T) (hr.mono (by decide)) T.b_S_look .nil passL (pa_cons (pe_ix (r := rIxT K) ix_tup (pv 12) pe_int (fun _ _ => rfl)) (pa_cons (pe_ix (r := rIxT K) ix_tup (pv 12) pe_int (fun _ _ => rfl)) pa_nil))) pe_int (fun _ _ => rfl)) pa_nil)))
  (pss_cons (ps_expr (pe_bmK K rfl PySem.F.plainAttrs_list PySem.F.slot_list_append PySem.F.type_list_append mt_append (pv 9) (pa_cons (pe_callTy (r := rLst K) cl_lst rfl T.n_list (by decide +kernel) (pa_cons (pe_ix (r := rIxL K) ix_list (pv 8) (pe_un un_neg pe_int) (fun _ _ => rfl)) pa_nil)) pa_nil)))
  (pss_one (ps_if (pt_cmpR op_ne (pe_cmpR (r := rIn K false) op_in_seq (pe_ix (r := rIxT K) ix_tup (pv 12) pe_int (fun _ _ => rfl)) (pe_meth (pv 3) T.cl T.m_S_keys (ok_S_keys T) (hr.mono (by decide)) T.b_S_keys .nil passL (pa_cons (pe_ix (r := rIxT K) ix_tup (pv 12) pe_int (fun _ _ => rfl)) pa_nil)) (by with_unfolding_all rfl)) (pe_cmpR (r := rNeD K) (op_neD hu64) (pe_ix (r := rIxL K) ix_list (pv 9) (pe_un un_neg pe_int) (fun _ _ => rfl)) (pe_lst pa_nil) (nomark _)) (nomark _)) (pss_one (ps_ret pe_bl)) pss_nil)))))))
  (pss_cons (ps_for (passes_of rfl) rfl (pi_range1 rfl T.n_range (pa_cons (pv 1) pa_nil)) (pg_name (i := 5) sc_law.nd rfl (by first | exact Or.inl rfl | exact Or.inr rfl))
  (pss_cons (ps_set (i := 13) sc_law.nd rfl (Or.inl rfl) (pe_lst pa_nil))
  (pss_cons (ps_for (passes_of rfl) rfl (pi_list (pe_lst (pa_cons pe_str (pa_cons pe_str pa_nil)))) (pg_name (i := 14) sc_law.nd rfl (by first | exact Or.inl rfl | exact Or.inr rfl))
  (pss_cons (ps_set (i := 15) sc_law.nd rfl (Or.inl rfl) (pe_call (ok_l_due T) (hr.mono (by decide)) rfl T.g_l_due T.k_l_due T.b_l_due .nil passL (pa_cons (pe_ix (r := rIxT K) ix_tup (pv 6) pe_int (fun _ _ => rfl)) (pa_cons (pe_dget hu (pv 4) (pe_tup (pa_cons (pv 5) (pa_cons (pv 14) pa_nil))) (fun _ _ => rfl)) (pa_cons (pv 1) pa_nil)))))
  (pss_cons (ps_if (pt_not (pt_val (pe_call (ok_l_told T) (hr.mono (by decide)) rfl T.g_l_told T.k_l_told T.b_l_told .nil passL (pa_cons (pv 3) (pa_cons (pv 5) (pa_cons (pv 14) (pa_cons (pv 15) pa_nil))))))) (pss_one (ps_ret pe_bl)) pss_nil)
  (pss_one (ps_if (pt_cmpR (r := rNeD K) (op_neD hu64) (pe_ix (r := rIxT K) ix_tup (pv 15) pe_int (fun _ _ => rfl)) (pe_lst pa_nil) (nomark _)) (pss_one (ps_expr (pe_bmK K rfl PySem.F.plainAttrs_list PySem.F.slot_list_append PySem.F.type_list_append mt_append (pv 13) (pa_cons (pv 14) pa_nil)))) pss_nil)))))
  (pss_one (ps_if (pt_cmpR (r := rNeD K) (op_neD hu64) (pe_meth (pv 3) T.cl T.m_S_keys (ok_S_keys T) (hr.mono (by decide)) T.b_S_keys .nil passL (pa_cons (pv 5) pa_nil)) (pv 13) (nomark _)) (pss_one (ps_ret pe_bl)) pss_nil)))))
  (pss_one (ps_ret (pe_cmpR (r := rEqD K) (op_eqD hu64) (pv 8) (pv 9) (nomark _))))))))))))))), ?_⟩
    refine w_seq ?_
    walk_at "e"
    refine ⟨b, ns, 0, rfl, hs, ?_⟩
    walk_at "e"
    refine w_newLs (by show 5 ≤ sizeLine; decide) fun p1 H1 np1 s1 h1 => ?_
    have hs := Same.seq s1 hs
    walk_at "e"
    refine ⟨b, ns, 0, rfl, hs, ?_⟩
    walk_at "e"
    obtain ⟨n, hn, n1, n9⟩ : ∃ n : Nat, ([V.int 2, V.int 3, V.int 4, V.int (1 + cell ns 0 / 5 % 9), V.int 2] : List V)[(cell ns 0 % 5).toNat]? = some (.int n) ∧ 1 ≤ n ∧ n ≤ 9 := by
      have h0 : (cell ns 0 % 5).toNat < 5 := by omega
      match (cell ns 0 % 5).toNat, h0 with
      | 0, _ => exact ⟨2, rfl, by omega, by omega⟩
      | 1, _ => exact ⟨3, rfl, by omega, by omega⟩
      | 2, _ => exact ⟨4, rfl, by omega, by omega⟩
      | 3, _ =>
        refine ⟨(1 + cell ns 0 / 5 % 9).toNat, ?_, by omega, by omega⟩
        rw [Int.toNat_of_nonneg (by omega)]; rfl
      | 4, _ => exact ⟨2, rfl, by omega, by omega⟩
    refine w_ixS (cell ns 0 % 5).toNat (SqL.of h1) (by omega) hn ?_
    clear h1 hn np1
    walk_at "e"
    refine w_seq ?_
    walk_at "e"
    refine ⟨b, ns, 0, rfl, hs, ?_⟩
    walk_at "e"
    generalize decide (V.int (cell ns 0 / 135 % 3) = V.int 1) = few
    refine w_seq ?_
    walk_at "e"
    refine make_key rfl n1 n9 fun v H2 ds s2 S2 _ => ?_
    have hs := Same.seq s2 hs
    generalize Old H1 = M0 at S2
    walk_at "e"
    refine w_seq ?_
    walk_at "e"
    intro Kd nKd
    have s3 : Same H2 (upd H2 Kd (.dT [])) := Same.new nKd
    have hKd : upd H2 Kd (.dT []) Kd = some (.dT []) := upd_same
    have S3 := S2.same s3
    have hs := Same.seq s3 hs
    generalize upd H2 Kd (.dT []) = H3 at s3 hKd S3 hs
    walk_at "e"
    refine w_seq ?_
    walk_at "e"
    refine ⟨_, rfl, by omega, by omega, ?_⟩
    refine for_range (fun i σ H' => (∃ u5, σ = [some (.ref b), some (.int n), some (.bl few), some v, some (.ref Kd), u5, none, none, none, none, none, none, none, none, none, none]) ∧ KeyAt M0 H' a.C v ds n [] (fun _ _ => (List.replicate n 0, [])) ∧ (∃ kvs, H' Kd = some (.dT kvs) ∧ KnI ds H' i kvs) ∧ SqL K H' b (ns.map V.int)) ⟨⟨_, rfl⟩, S3, ⟨_, hKd, .nil⟩, hs⟩ ?_ ?_
    · rintro i σ H4 hi ⟨⟨u5, rfl⟩, S4, ⟨kvs, hKd4, kn4⟩, hs⟩
      have hi : i < n := by omega
      have ei : (0 : Int) + (i : Int) = i := by omega
      rw [ei]
      walk_at "w"
      intro e1 ne1
      have s5 : Same H4 (upd H4 e1 (.dK [])) := Same.new ne1
      have h5 : upd H4 e1 (.dK []) e1 = some (.dK (dkv [])) := upd_same
      have o5 : e1 ∉ ds := fun z => by
        obtain ⟨kk, hk⟩ := S4.dicts z
        rw [ne1] at hk; cases hk
      generalize upd H4 e1 (.dK []) = H5 at s5 h5
      walk_at "w"
      refine w_newTs (by show 2 ≤ sizeLine; decide) fun St H6 n6 s6 hSt => ?_
      have s46 := Same.trans s5 s6
      have hKd6 := s46 _ _ hKd4
      refine ⟨Kd, _, rfl, DPut.t (k := [Sum.inl (i : Int), Sum.inr "a"]) hKd6 hSt (sz_smallL (by have := kn4.len; omega)), ?_⟩
      have st7 : Stays M0 ds H6 (upd H6 Kd (.dT (putK kvs [Sum.inl (i : Int), Sum.inr "a"] (.ref e1)))) := .table hKd6
      have S7 := (S4.same s46).table (But.upd (.dT (putK kvs [Sum.inl (i : Int), Sum.inr "a"] (.ref e1)))) hKd6
      have hKd7 : upd H6 Kd (.dT (putK kvs [Sum.inl (i : Int), Sum.inr "a"] (.ref e1))) Kd = some (.dT (putK kvs [Sum.inl (i : Int), Sum.inr "a"] (.ref e1))) := upd_same
      have hs7 : SqL K (upd H6 Kd (.dT (putK kvs [Sum.inl (i : Int), Sum.inr "a"] (.ref e1)))) b (ns.map V.int) := sq_table (Same.seq s46 hs) hKd6
      generalize upd H6 Kd (.dT (putK kvs [Sum.inl (i : Int), Sum.inr "a"] (.ref e1))) = H7 at st7 S7 hKd7 hs7
      have hA : SetAt ds H7 e1 [] := (⟨o5, s6 _ _ h5⟩ : SetAt ds H6 e1 []).stays st7
      have kn7 := kn4.stays ((Stays.same s46).trans st7)
      walk_at "w"
      intro e2 ne2
      have s8 : Same H7 (upd H7 e2 (.dK [])) := Same.new ne2
      have h8 : upd H7 e2 (.dK []) e2 = some (.dK (dkv [])) := upd_same
      have o8 : e2 ∉ ds := fun z => by
        obtain ⟨kk, hk⟩ := S7.dicts z
        rw [ne2] at hk; cases hk
      generalize upd H7 e2 (.dK []) = H8 at s8 h8
      walk_at "w"
      refine w_newTs (by show 2 ≤ sizeLine; decide) fun St2 H9 n9' s9 hSt2 => ?_
      have s79 := Same.trans s8 s9
      have hKd9 := s79 _ _ hKd7
      refine ⟨Kd, _, rfl, DPut.t (k := [Sum.inl (i : Int), Sum.inr "b"]) hKd9 hSt2 (sz_smallL (by rw [putK_new _ (kn4.new i _ (Nat.le_refl _)), List.length_append, List.length_singleton]; have := kn4.len; omega)), ?_⟩
      walk_at "w"
      have stA : Stays M0 ds H9 (upd H9 Kd (.dT (putK (putK kvs [Sum.inl (i : Int), Sum.inr "a"] (.ref e1)) [Sum.inl (i : Int), Sum.inr "b"] (.ref e2)))) := .table hKd9
      have st7A := (Stays.same s79).trans stA
      exact ⟨⟨_, rfl⟩, (S7.same s79).table (But.upd _) hKd9, ⟨_, upd_same, (kn7.stays st7A).step (hA.stays st7A) ((⟨o8, s9 _ _ h8⟩ : SetAt ds H9 e2 []).stays stA)⟩, sq_table (Same.seq s79 hs7) hKd9⟩
    rintro σ H4 ⟨⟨u5, rfl⟩, S4, ⟨kvs, hKd4, kn4⟩, hs⟩
    rw [Int.toNat_natCast] at kn4
    clear hKd S3 s3 nKd S2 s2
    walk_at "e"
    refine w_seq ?_
    walk_at "e"
    refine w_newLs (Nat.zero_le _) fun Cl H5 nCl s5 hCl => ?_
    walk_at "e"
    refine w_newTs (by show 2 ≤ sizeLine; decide) fun Wt H6 nWt s6 hWt => ?_
    walk_at "e"
    refine w_seq ?_
    walk_at "e"
    refine w_newLs (Nat.zero_le _) fun Lk H7 nLk s7 hLk => ?_
    walk_at "e"
    refine w_newLs (Nat.zero_le _) fun Le H8 nLe s8 hLe => ?_
    walk_at "e"
    refine w_newTs (by show 2 ≤ sizeLine; decide) fun Ht H9 nHt s9 hHt => ?_
    walk_at "e"
    refine w_seq ?_
    walk_at "e"
    refine w_newLs (Nat.zero_le _) fun To HA nTo sA hTo => ?_
    walk_at "e"
    refine w_seq ?_
    walk_at "e"
    refine w_newLs (Nat.zero_le _) fun Ke HB nKe sB hKe => ?_
    walk_at "e"
    have s6B := Same.trans s7 (Same.trans s8 (Same.trans s9 (Same.trans sA sB)))
    have s5B := Same.trans s6 s6B
    have s4B := Same.trans s5 s5B
    have s7B := Same.trans s8 (Same.trans s9 (Same.trans sA sB))
    have s8B := Same.trans s9 (Same.trans sA sB)
    have nM4 : ∀ c, M8 Cl Lk Le To Ke c → H4 c = none := fun c z => by
      rcases z with rfl | rfl | rfl | rfl | rfl
      · exact nCl
      · exact s5.free (s6.free nLk)
      · exact s5.free (s6.free (s7.free nLe))
      · exact s5.free (s6.free (s7.free (s8.free (s9.free nTo))))
      · exact s5.free (s6.free (s7.free (s8.free (s9.free (sA.free nKe)))))
    have w8 : W8 a.C (M8 Cl Lk Le To Ke) HB v ds n Cl Kd Lk Le 0 (fun _ _ => (List.replicate n 0, [])) [] (fun _ _ => []) [] [] := by
      refine ⟨(S4.news s4B nM4).mono (fun _ z => nomatch z), fun c e z => ?_, ⟨[], s5B _ _ hCl, rfl, fun _ z => absurd z (Nat.not_lt_zero _)⟩, ⟨kvs, s4B _ _ hKd4, (kn4.stays (.same s4B : Stays (M8 Cl Lk Le To Ke) ds H4 HB)).kna⟩, ⟨[], s7B _ _ hLk, .nil⟩, ⟨[], s8B _ _ hLe, .nil⟩, .inl rfl, .inr (.inl rfl), .inr (.inr (.inl rfl)),
        ne_of_none (s6 _ _ hCl) nLk, ne_of_none (s7 _ _ (s6 _ _ hCl)) nLe, ne_of_none hLk nLe, fun k hk s hs => due_nil.symm, wd_nil, fun k hk s hs => .nil, (fun _ z => nomatch z), (fun _ z => nomatch z), Nat.zero_le _, Nat.zero_le _, Nat.zero_le _, n1, n9, by decide, fun _ z => absurd z (Nat.not_lt_zero _)⟩
      rcases z with rfl | rfl | rfl | rfl | rfl
      · rw [s5B _ _ hCl] at e; cases e
      · rw [s7B _ _ hLk] at e; cases e
      · rw [s8B _ _ hLe] at e; cases e
      · rw [sB _ _ hTo] at e; cases e
      · rw [hKe] at e; cases e
    have hWt := s6B _ _ hWt
    have hHt := (Same.trans sA sB) _ _ hHt
    have t1 : To ≠ Cl := (ne_of_none (s9 _ _ (s8 _ _ (s7 _ _ (s6 _ _ hCl)))) nTo).symm
    have t2 : To ≠ Lk := (ne_of_none (s9 _ _ (s8 _ _ hLk)) nTo).symm
    have t3 : To ≠ Le := (ne_of_none (s9 _ _ hLe) nTo).symm
    have k1 : Ke ≠ Cl := (ne_of_none (sA _ _ (s9 _ _ (s8 _ _ (s7 _ _ (s6 _ _ hCl))))) nKe).symm
    have k2 : Ke ≠ Lk := (ne_of_none (sA _ _ (s9 _ _ (s8 _ _ hLk))) nKe).symm
    have k3 : Ke ≠ Le := (ne_of_none (sA _ _ (s9 _ _ hLe)) nKe).symm
    have k4 : To ≠ Ke := ne_of_none hTo nKe
    have hTo := sB _ _ hTo
    have hs := Same.seq s4B hs
    clear s6B s5B s4B s7B s8B nM4 hCl hLk hLe nKe nTo nLe nLk nCl nWt nHt S4 kn4 hKd4 s5 s6 s7 s8 s9 sA sB
    have mT : M8 Cl Lk Le To Ke To := .inr (.inr (.inr (.inl rfl)))
    have mK : M8 Cl Lk Le To Ke Ke := .inr (.inr (.inr (.inr rfl)))
    have sub3 : ∀ c, M3 Cl Lk Le c → M8 Cl Lk Le To Ke c := fun c z => z.elim .inl fun z => z.elim (fun z => .inr (.inl z)) fun z => .inr (.inr (.inl z))
    have nT3 : ¬ M3 Cl Lk Le To := fun z => z.elim t1 fun z => z.elim t2 t3
    have nK3 : ¬ M3 Cl Lk Le Ke := fun z => z.elim k1 fun z => z.elim k2 k3
    generalize M8 Cl Lk Le To Ke = M at w8 mT mK sub3
    refine w_seq ?_
    walk_at "e"
    refine ⟨b, ns, n, rfl, n9, hs, fun p6 ys HC np6 sC hp6 yl yi => ?_⟩
    have p6M := w8.fr p6 np6
    have w8 := w8.same sC
    have hWt := sC _ _ hWt
    have hHt := sC _ _ hHt
    have hTo := sC _ _ hTo
    have hKe := sC _ _ hKe
    clear hs np6 sC
    walk_at "e"
    refine ⟨p6, ys, rfl, SqL.of hp6, ?_⟩
    refine for_it (walk_enum (K := K) (a := p6) (xs := ys)) (fun i σ H' => ∃ f chs kn ls es tx kx, ∃ vss : List (List Int), ∃ u5 u10 u11 u12, σ = [some (.ref b), some (.int n), some (.bl few), some v, some (.ref Kd), u5, some (.ref Wt), some (.ref Ht), some (.ref To), some (.ref Ke), u10, u11, u12, none, none, none] ∧
      W8 a.C M H' v ds n Cl Kd Lk Le i f chs kn ls es ∧ H' p6 = some (.lst ys) ∧ H' Wt = some (.tup [.ref Cl, .ref Kd]) ∧ H' Ht = some (.tup [.ref Lk, .ref Le]) ∧ H' To = some (.lst tx) ∧ H' Ke = some (.lst kx) ∧ RpA M H' tx (vss.map ilD) ∧ RpA M H' kx (vss.map ilD) ∧ vss.length = i) ?_ ?_ ?_ ?_
    · exact ⟨_, _, _, _, _, _, _, [], _, _, _, _, rfl, w8, hp6, hWt, hHt, hTo, hKe, .nil, .nil, rfl⟩
    · rintro i σ H' _ ⟨f, chs, kn, ls, es, tx, kx, vss, u5, u10, u11, u12, rfl, _, h, _⟩
      exact SqL.of h
    · rintro i y σ H' _ hi ⟨f, chs, kn, ls, es, tx, kx, vss, u5, u10, u11, u12, rfl, w8, hp6, hWt, hHt, hTo, hKe, rt, rk, vl⟩ ⟨Tt, x0, y0, rfl, nT, rfl, w1, w2⟩
      cases w1
      obtain ⟨c, rfl⟩ := yi _ _ w2
      have sT : Same H' (upd H' Tt (.tup [.int i, .int c])) := Same.new nT
      refine w_gTup upd_same rfl ?_
      generalize upd H' Tt (.tup [.int i, .int c]) = H0 at sT
      have w8 := w8.same sT
      have hp6 := sT _ _ hp6
      have hWt := sT _ _ hWt
      have hHt := sT _ _ hHt
      have hTo := sT _ _ hTo
      have hKe := sT _ _ hKe
      have rt := rt.same sT
      have rk := rk.same sT
      clear sT nT w2
      walk_at "e"
      refine w_seq ?_
      walk_at "e"
      refine ⟨M, v, ds, n, Cl, Kd, Lk, Le, i, _, chs, kn, ls, es, Wt, Ht, c, few, rfl, w8, hWt, hHt, by omega, fun H1 f chs kn ls es k s T1 w8 st hT hk hs => ?_⟩
      have hp6 := st.lst _ _ (fun z => p6M (sub3 _ z)) hp6
      have hWt := st.tup _ _ hWt
      have hHt := st.tup _ _ hHt
      have hTo := st.lst _ _ nT3 hTo
      have hKe := st.lst _ _ nK3 hKe
      have rt := rt.ext (st.extM sub3)
      have rk := rk.ext (st.extM sub3)
      clear st
      obtain ⟨cs, hCl, chA⟩ := w8.cl
      obtain ⟨kvs, hKd, knA⟩ := w8.kd
      obtain ⟨e0, hv0, he0⟩ := knA.2 k hk s hs
      have ok := w8.ok hk s
      have few0 := ok.few
      have c1 : chs.length ≤ 100 := by have := w8.ci; omega
      have txl : tx.length = i := by rw [rt.1, List.length_map]; exact vl
      have kxl : kx.length = i := by rw [rk.1, List.length_map]; exact vl
      walk_at "w"
      refine w_t0 hT ?_
      walk_at "w"
      refine w_t1 hT ?_
      walk_at "w"
      refine w_t0 hWt ?_
      walk_at "w"
      refine ⟨Kd, _, rfl, dget_t (k := [Sum.inl (k : Int), Sum.inr s]) hKd hT hv0, ?_⟩
      walk_at "w"
      refine ⟨Cl, e0, n, cs, chs, kn k s, s, kn, rfl, hCl, chA.cha, he0.at_, w8.gk k hk s hs, w8.wd, c1, w8.sn, n9, fun v2 H2 s2 r2 => ?_⟩
      rw [← w8.fe k hk s hs] at r2
      walk_at "w"
      refine ⟨M, _, v, v2, ds, n, k, s, f, rfl, w8.fr.same s2, w8.S.same s2, n9, hk, ok, r2, fun H3 s3 => ?_⟩
      walk_at "w"
      refine iteF ?_
      have s13 := Same.trans s2 s3
      have w8 := w8.same s13
      have hp6 := s13 _ _ hp6
      have hWt := s13 _ _ hWt
      have hHt := s13 _ _ hHt
      have hTo := s13 _ _ hTo
      have hKe := s13 _ _ hKe
      have hT := s13 _ _ hT
      have rt := rt.same s13
      have rk := rk.same s13
      clear hCl chA hKd knA hv0 he0 r2 s13 s2 s3
      walk_at "w"
      refine ⟨ty_lst (SqL.of hTo), ?_⟩
      walk_at "w"
      refine w_mthK w8.S (by decide +kernel) (by decide +kernel) ?_
      walk_at "w"
      refine w_t0 hT ?_
      walk_at "w"
      refine w_t1 hT ?_
      walk_at "w"
      refine look_key w8.S w8.fr n9 rfl hk ok fun v4 H4 s4 r4 => ?_
      walk_at "w"
      refine w_look0 r4 rfl fun v5 r5 => ?_
      have r5 : Rp M H4 v5 (ilD ((f k s).2.map fun r => r.2.2)) := r5.old w8.fr
      have w8 := w8.same s4
      have hp6 := s4 _ _ hp6
      have hWt := s4 _ _ hWt
      have hHt := s4 _ _ hHt
      have hTo := s4 _ _ hTo
      have hKe := s4 _ _ hKe
      have hT := s4 _ _ hT
      have rt := rt.same s4
      have rk := rk.same s4
      clear r4 s4
      walk_at "w"
      refine w_app hTo (by omega) ?_
      have E5 : Ext M M H4 (upd H4 To (.lst (tx ++ [v5]))) := Ext.write mT (lst_notup hTo)
      have w8 := w8.write (ys := tx ++ [v5]) mT hTo t1 t2 t3
      have hp6 : upd H4 To (.lst (tx ++ [v5])) p6 = some (.lst ys) := by rw [upd_ne (fun z => p6M (by rw [z]; exact mT))]; exact hp6
      have hWt := E5.tup _ _ hWt
      have hHt := E5.tup _ _ hHt
      have hT := E5.tup _ _ hT
      have hKe : upd H4 To (.lst (tx ++ [v5])) Ke = some (.lst kx) := by rw [upd_ne k4.symm]; exact hKe
      have hTo : upd H4 To (.lst (tx ++ [v5])) To = some (.lst (tx ++ [v5])) := upd_same
      have rk := rk.ext E5
      have r5 := r5.ext E5
      have rt := (rt.ext E5).snoc r5
      generalize upd H4 To (.lst (tx ++ [v5])) = H5 at w8 hp6 hWt hHt hT hKe hTo rk r5 rt
      clear E5
      walk_at "w"
      refine ⟨ty_lst (SqL.of hKe), ?_⟩
      walk_at "w"
      refine ⟨1, rfl, ?_⟩
      refine ⟨To, _, -1, v5, rfl, rfl, SqL.of hTo, at_lastX, ?_⟩
      walk_at "w"
      refine w_listL w8.fr r5 fun v6 H6 s6 r6 => ?_
      have w8 := w8.same s6
      have hp6 := s6 _ _ hp6
      have hWt := s6 _ _ hWt
      have hHt := s6 _ _ hHt
      have hTo := s6 _ _ hTo
      have hKe := s6 _ _ hKe
      have hT := s6 _ _ hT
      have rt := rt.same s6
      have rk := rk.same s6
      clear r5 s6
      walk_at "w"
      refine w_app hKe (by omega) ?_
      have E7 : Ext M M H6 (upd H6 Ke (.lst (kx ++ [v6]))) := Ext.write mK (lst_notup hKe)
      have w8 := w8.write (ys := kx ++ [v6]) mK hKe k1 k2 k3
      have hp6 : upd H6 Ke (.lst (kx ++ [v6])) p6 = some (.lst ys) := by rw [upd_ne (fun z => p6M (by rw [z]; exact mK))]; exact hp6
      have hWt := E7.tup _ _ hWt
      have hHt := E7.tup _ _ hHt
      have hT := E7.tup _ _ hT
      have hTo : upd H6 Ke (.lst (kx ++ [v6])) To = some (.lst (tx ++ [v5])) := by rw [upd_ne k4]; exact hTo
      have hKe : upd H6 Ke (.lst (kx ++ [v6])) Ke = some (.lst (kx ++ [v6])) := upd_same
      have r6 : Rp M _ v6 (ilD ((f k s).2.map fun r => r.2.2)) := r6.ext E7
      have rt := rt.ext E7
      have rk := (rk.ext E7).snoc r6
      generalize upd H6 Ke (.lst (kx ++ [v6])) = H7 at w8 hp6 hWt hHt hT hKe hTo rk r6 rt
      clear E7
      walk_at "w"
      refine w_t1 hT ?_
      walk_at "w"
      refine w_mthK w8.S (by decide +kernel) (by decide +kernel) ?_
      walk_at "w"
      refine w_t0 hT ?_
      walk_at "w"
      refine keys_key w8.S n9 rfl hk nd_ab (by decide) (w8.ok hk) fun v8 H8 s8 r8 => ?_
      refine w_inS r8 ?_
      walk_at "w"
      refine ⟨1, rfl, ?_⟩
      refine ⟨Ke, _, -1, v6, rfl, rfl, SqL.of (s8 _ _ hKe), at_lastX, ?_⟩
      walk_at "w"
      refine w_newLs (Nat.zero_le _) fun p9 H9 np9 s9 h9 => ?_
      have s79 := Same.trans s8 s9
      refine w_neI (m := (f k s).2.map fun r => r.2.2) (n := []) (r6.same s79) (.lstA (M := fun _ => False) (fun z => z) h9 RpA.nil) ?_
      walk_at "w"
      have eb : decide (s ∈ sortX (AB.filter fun s => decide (0 < (f k s).2.length))) = !decide ((f k s).2.map (fun r => r.2.2) = []) := told_key (fun s => (f k s).2) hs
      refine iteN (by rw [eb, decide_eq_true rfl]; rfl) ?_
      walk_at "w"
      exact ⟨f, chs, kn, ls, es, _, _, vss ++ [(f k s).2.map fun r => r.2.2], _, _, _, _, rfl, w8.same s79, s79 _ _ hp6, s79 _ _ hWt, s79 _ _ hHt, s79 _ _ hTo, s79 _ _ hKe, by rw [List.map_append]; exact rt.same s79, by rw [List.map_append]; exact rk.same s79, by rw [List.length_append, vl]; rfl⟩
    rintro σ H1 ⟨f, chs, kn, ls, es, tx, kx, vss, u5, u10, u11, u12, rfl, w8, hp6, hWt, hHt, hTo, hKe, rt, rk, vl⟩
    clear hp6 hHt
    have c1 : chs.length ≤ 100 := by have := w8.ci; have := w8.i9; omega
    walk_at "e"
    refine w_seq ?_
    walk_at "e"
    refine ⟨_, rfl, by omega, by omega, ?_⟩
    refine for_range (fun i σ H' => (∃ u5 u13 u14 u15, σ = [some (.ref b), some (.int n), some (.bl few), some v, some (.ref Kd), u5, some (.ref Wt), some (.ref Ht), some (.ref To), some (.ref Ke), u10, u11, u12, u13, u14, u15]) ∧ Same H1 H') ⟨⟨_, _, _, _, rfl⟩, Same.refl _⟩ ?_ ?_
    · rintro k σ H2 hk ⟨⟨u5, u13, u14, u15, rfl⟩, s12⟩
      have hk : k < n := by omega
      have ei : (0 : Int) + (k : Int) = k := by omega
      rw [ei]
      walk_at "e"
      refine w_seq ?_
      walk_at "e"
      refine w_newLs (Nat.zero_le _) fun Dh H3 nDh s3 hDh => ?_
      walk_at "e"
      refine w_seq ?_
      walk_at "e"
      refine w_newLs (by show 2 ≤ sizeLine; decide) fun pl H4 npl s4 hpl => ?_
      have hDl : pl ≠ Dh := (ne_of_none hDh npl).symm
      have nDh1 : H1 Dh = none := s12.free nDh
      have s14 := Same.trans s12 (Same.trans s3 s4)
      refine ⟨pl, rfl, ⟨_, SqL.of hpl⟩, ?_⟩
      refine for_list (K := K) (xs := [V.str "a", V.str "b"]) (fun j σ H' => (∃ u14 u15, σ = [some (.ref b), some (.int n), some (.bl few), some v, some (.ref Kd), some (.int k), some (.ref Wt), some (.ref Ht), some (.ref To), some (.ref Ke), u10, u11, u12, some (.ref Dh), u14, u15]) ∧ Same H1 H' ∧ H' pl = some (.lst [V.str "a", V.str "b"]) ∧
        H' Dh = some (.lst (((AB.take j).filter fun s => decide (0 < (f k s).2.length)).map V.str))) ⟨⟨_, _, rfl⟩, s14, hpl, s4 _ _ hDh⟩ (fun j σ H' _ ⟨_, _, h, _⟩ => SqL.of h) ?_ ?_
      · rintro j x σ H5 hx ⟨⟨u14, u15, rfl⟩, s15, hpl5, hDh5⟩
        obtain ⟨s, hj, rfl⟩ : ∃ s, AB[j]? = some s ∧ x = .str s := by
          have h : (AB.map V.str)[j]? = some x := hx
          rw [List.getElem?_map] at h
          cases e : AB[j]? with
          | none => rw [e] at h; cases h
          | some s => rw [e] at h; cases h; exact ⟨s, rfl, rfl⟩
        have hs := List.mem_of_getElem? hj
        have w5 := w8.same s15
        obtain ⟨cs, hCl, chA⟩ := w5.cl
        obtain ⟨kvs, hKd, knA⟩ := w5.kd
        obtain ⟨e0, hv0, he0⟩ := knA.2 k hk s hs
        have ok := w5.ok hk s
        walk_at "w"
        refine w_t0 (s15 _ _ hWt) ?_
        walk_at "w"
        refine w_newTs (by show 2 ≤ sizeLine; decide) fun St H6 n6 s6 hSt => ?_
        refine ⟨Kd, _, rfl, dget_t (k := [Sum.inl (k : Int), Sum.inr s]) (s6 _ _ hKd) hSt hv0, ?_⟩
        walk_at "w"
        have w6 := w5.same s6
        refine ⟨Cl, e0, n, cs, chs, kn k s, s, kn, rfl, s6 _ _ hCl, chA.cha.same s6, s6 _ _ he0.at_, w8.gk k hk s hs, w8.wd, c1, w8.sn, n9, fun v7 H7 s7 r7 => ?_⟩
        rw [← w8.fe k hk s hs] at r7
        have w7 := w6.same s7
        walk_at "w"
        refine ⟨M, _, v, v7, ds, n, k, s, f, rfl, w7.fr, w7.S, n9, hk, ok, r7, fun H8 s8 => ?_⟩
        walk_at "w"
        refine iteF ?_
        have r8 := r7.same s8
        walk_at "w"
        refine w_look0 r8 rfl fun v9 r9 => ?_
        walk_at "w"
        refine w_newLs (Nat.zero_le _) fun p9 H9 np9 s9 h9 => ?_
        refine w_neI (m := (f k s).2.map fun r => r.2.2) (n := []) (r9.same s9) (.lstA (M := fun _ => False) (fun z => z) h9 RpA.nil) ?_
        walk_at "w"
        have s59 := Same.trans s6 (Same.trans s7 (Same.trans s8 s9))
        have s19 := Same.trans s15 s59
        have hDh9 := s59 _ _ hDh5
        have et := take_ab (fun s => decide (0 < (f k s).2.length)) hj
        by_cases z : (f k s).2 = []
        · refine iteN (by rw [z]; rfl) ?_
          walk_at "w"
          rw [if_neg (by rw [z]; simp), List.append_nil] at et
          exact ⟨⟨_, _, rfl⟩, s19, s59 _ _ hpl5, by rw [et]; exact hDh9⟩
        · refine iteY (by rw [decide_eq_false fun y => z (List.map_eq_nil_iff.mp y)]; rfl) ?_
          walk_at "w"
          refine ⟨ty_lst (SqL.of hDh9), ?_⟩
          walk_at "w"
          refine w_app hDh9 (by rw [List.length_map]; have := List.length_filter_le (fun s => decide (0 < (f k s).2.length)) (AB.take j); rw [List.length_take] at this; have : AB.length = 2 := rfl; omega) ?_
          walk_at "w"
          rw [if_pos (decide_eq_true (List.length_pos_iff.mpr z))] at et
          exact ⟨⟨_, _, rfl⟩, Same.mut s19 nDh1, by rw [upd_ne hDl]; exact s59 _ _ hpl5, by rw [upd_same, et, List.map_append]; rfl⟩
      rintro σ H5 ⟨⟨u14, u15, rfl⟩, s15, hpl5, hDh5⟩
      have w5 := w8.same s15
      walk_at "w"
      refine w_mthK w5.S (by decide +kernel) (by decide +kernel) ?_
      walk_at "w"
      refine keys_key w5.S n9 rfl hk nd_ab (by decide) (w5.ok hk) fun v6 H6 s6 r6 => ?_
      rw [sortX_ab] at r6
      walk_at "w"
      refine w_neK (M' := fun _ => False) (ls := AB.filter fun s => decide (0 < (f k s).2.length)) r6 (.lstA (fun z => z) (s6 _ _ hDh5) RpA.strs) (ok_ab _) (ok_ab _) ?_
      rw [decide_eq_true rfl]
      walk_at "w"
      refine iteF ?_
      walk_at "w"
      exact ⟨⟨_, _, _, _, rfl⟩, Same.trans s15 s6⟩
    rintro σ H2 ⟨⟨u5, u13, u14, u15, rfl⟩, s12⟩
    walk_at "w"
    have E0 : Ext M (fun _ => False) H2 H2 := Ext.less fun _ z => z.elim
    refine w_eqS (M := fun _ => False) (M' := fun _ => False) (d := .list (vss.map ilD)) (.lstA (fun z => z) (s12 _ _ hTo) ((rt.same s12).ext E0)) (.lstA (fun z => z) (s12 _ _ hKe) ((rk.same s12).ext E0)) (sh_ils vss) (by decide) ?_
    exact q _
end
end Sb

namespace Sb
open PySem L2
set_option maxHeartbeats 16000000
theorem all_mk {l : PySem.W.OpenLaw} {w : World} {K : Frag} {h : Heap} {mg : Str → Option Value} {fa : Addr} (X : K.In h) (G : h.Ns mainGlobals mg) (hfa : mg "law" = some (.ref fa))
    {C_ShelfError C_BadCount C_NoKeeper C_BadMark C f_blank f_need_alike f_joined f_has_seen f_unseen f_put_on f_dropped f_met f_S_init f_S_need_keeper f_S_need_mark f_S_shelf f_S_look f_S_put f_S_drop f_S_letter f_S_take f_S_keys f_l_cell_at f_l_value f_l_both f_l_looked f_l_due f_l_told f_l_changed f_l_asked f_l_deed f_l_cells f_law : Addr}
    {od_blank an_blank od_need_alike an_need_alike od_joined an_joined od_has_seen an_has_seen od_unseen an_unseen od_put_on an_put_on od_dropped an_dropped od_met an_met od_S_init an_S_init od_S_need_keeper an_S_need_keeper od_S_need_mark an_S_need_mark od_S_shelf an_S_shelf od_S_look an_S_look od_S_put an_S_put od_S_drop an_S_drop od_S_letter an_S_letter od_S_take an_S_take od_S_keys an_S_keys od_l_cell_at an_l_cell_at od_l_value an_l_value od_l_both an_l_both od_l_looked an_l_looked od_l_due an_l_due od_l_told an_l_told od_l_changed an_l_changed od_l_asked an_l_asked od_l_deed an_l_deed od_l_cells an_l_cells od_law an_law : Option Addr}
    {sl_blank sl_need_alike sl_joined sl_has_seen sl_unseen sl_put_on sl_dropped sl_met sl_S_init sl_S_need_keeper sl_S_need_mark sl_S_shelf sl_S_look sl_S_put sl_S_drop sl_S_letter sl_S_take sl_S_keys sl_l_cell_at sl_l_value sl_l_both sl_l_looked sl_l_due sl_l_told sl_l_changed sl_l_asked sl_l_deed sl_l_cells sl_law : Array (Option Value)}
    {oc_blank kV_blank dc_blank pm_blank cd_blank ct_blank oc_need_alike kV_need_alike dc_need_alike pm_need_alike cd_need_alike ct_need_alike oc_joined kV_joined dc_joined pm_joined cd_joined ct_joined oc_has_seen kV_has_seen dc_has_seen pm_has_seen cd_has_seen ct_has_seen oc_unseen kV_unseen dc_unseen pm_unseen cd_unseen ct_unseen oc_put_on kV_put_on dc_put_on pm_put_on cd_put_on ct_put_on oc_dropped kV_dropped dc_dropped pm_dropped cd_dropped ct_dropped oc_met kV_met dc_met pm_met cd_met ct_met oc_S_init kV_S_init dc_S_init pm_S_init cd_S_init ct_S_init oc_S_need_keeper kV_S_need_keeper dc_S_need_keeper pm_S_need_keeper cd_S_need_keeper ct_S_need_keeper oc_S_need_mark kV_S_need_mark dc_S_need_mark pm_S_need_mark cd_S_need_mark ct_S_need_mark oc_S_shelf kV_S_shelf dc_S_shelf pm_S_shelf cd_S_shelf ct_S_shelf oc_S_look kV_S_look dc_S_look pm_S_look cd_S_look ct_S_look oc_S_put kV_S_put dc_S_put pm_S_put cd_S_put ct_S_put oc_S_drop kV_S_drop dc_S_drop pm_S_drop cd_S_drop ct_S_drop oc_S_letter kV_S_letter dc_S_letter pm_S_letter cd_S_letter ct_S_letter oc_S_take kV_S_take dc_S_take pm_S_take cd_S_take ct_S_take oc_S_keys kV_S_keys dc_S_keys pm_S_keys cd_S_keys ct_S_keys oc_l_cell_at kV_l_cell_at dc_l_cell_at pm_l_cell_at cd_l_cell_at ct_l_cell_at oc_l_value kV_l_value dc_l_value pm_l_value cd_l_value ct_l_value oc_l_both kV_l_both dc_l_both pm_l_both cd_l_both ct_l_both oc_l_looked kV_l_looked dc_l_looked pm_l_looked cd_l_looked ct_l_looked oc_l_due kV_l_due dc_l_due pm_l_due cd_l_due ct_l_due oc_l_told kV_l_told dc_l_told pm_l_told cd_l_told ct_l_told oc_l_changed kV_l_changed dc_l_changed pm_l_changed cd_l_changed ct_l_changed oc_l_asked kV_l_asked dc_l_asked pm_l_asked cd_l_asked ct_l_asked oc_l_deed kV_l_deed dc_l_deed pm_l_deed cd_l_deed ct_l_deed oc_l_cells kV_l_cells dc_l_cells pm_l_cells cd_l_cells ct_l_cells oc_law kV_law dc_law pm_law cd_law ct_law : Value}
    (z_ValueError : PySem.W.nsIn K mainGlobals "ValueError" = some none)
    (z_bool : PySem.W.nsIn K mainGlobals "bool" = some none)
    (z_dict : PySem.W.nsIn K mainGlobals "dict" = some none)
    (z_enumerate : PySem.W.nsIn K mainGlobals "enumerate" = some none)
    (z_int : PySem.W.nsIn K mainGlobals "int" = some none)
    (z_isinstance : PySem.W.nsIn K mainGlobals "isinstance" = some none)
    (z_len : PySem.W.nsIn K mainGlobals "len" = some none)
    (z_list : PySem.W.nsIn K mainGlobals "list" = some none)
    (z_max : PySem.W.nsIn K mainGlobals "max" = some none)
    (z_range : PySem.W.nsIn K mainGlobals "range" = some none)
    (z_sorted : PySem.W.nsIn K mainGlobals "sorted" = some none)
    (z_tuple : PySem.W.nsIn K mainGlobals "tuple" = some none)
    (c_MOST_KEEPERS : ∃ t, PySem.W.nsIn K mainGlobals "MOST_KEEPERS" = some (some (.int 9 t)))
    (a_ShelfError : PySem.W.nsIn K mainGlobals "ShelfError" = some (some (.ref C_ShelfError)))
    (x_ShelfError : PySem.W.excIn K C_ShelfError [.type "ValueError", .type "Exception", .type "BaseException", .type "object"] "ValueError.__new__" = true)
    (k_ShelfError : PySem.W.keepIn K (.ref C_ShelfError) = true)
    (b_ShelfError : PySem.W.subIn K (.ref C_ShelfError) (.type "BaseException") = some true)
    (t_ShelfError : PySem.W.typeIn K (.ref C_ShelfError) = some (.type "type"))
    (a_BadCount : PySem.W.nsIn K mainGlobals "BadCount" = some (some (.ref C_BadCount)))
    (x_BadCount : PySem.W.excIn K C_BadCount [.type "ValueError", .type "Exception", .type "BaseException", .type "object"] "ValueError.__new__" = true)
    (k_BadCount : PySem.W.keepIn K (.ref C_BadCount) = true)
    (b_BadCount : PySem.W.subIn K (.ref C_BadCount) (.type "BaseException") = some true)
    (t_BadCount : PySem.W.typeIn K (.ref C_BadCount) = some (.type "type"))
    (a_NoKeeper : PySem.W.nsIn K mainGlobals "NoKeeper" = some (some (.ref C_NoKeeper)))
    (x_NoKeeper : PySem.W.excIn K C_NoKeeper [.type "ValueError", .type "Exception", .type "BaseException", .type "object"] "ValueError.__new__" = true)
    (k_NoKeeper : PySem.W.keepIn K (.ref C_NoKeeper) = true)
    (b_NoKeeper : PySem.W.subIn K (.ref C_NoKeeper) (.type "BaseException") = some true)
    (t_NoKeeper : PySem.W.typeIn K (.ref C_NoKeeper) = some (.type "type"))
    (a_BadMark : PySem.W.nsIn K mainGlobals "BadMark" = some (some (.ref C_BadMark)))
    (x_BadMark : PySem.W.excIn K C_BadMark [.type "ValueError", .type "Exception", .type "BaseException", .type "object"] "ValueError.__new__" = true)
    (k_BadMark : PySem.W.keepIn K (.ref C_BadMark) = true)
    (b_BadMark : PySem.W.subIn K (.ref C_BadMark) (.type "BaseException") = some true)
    (t_BadMark : PySem.W.typeIn K (.ref C_BadMark) = some (.type "type"))
    (a_Store : PySem.W.nsIn K mainGlobals "Store" = some (some (.ref C)))
    (a_blank : PySem.W.nsIn K mainGlobals "blank" = some (some (.ref f_blank)))
    (l_blank : K.lookup f_blank = some ⟨oc_blank, od_blank, .func (PySem.W.fnOf "blank" "blank" (defArgs s_blank) (defBody s_blank) (defScope s_blank) .none kV_blank dc_blank pm_blank an_blank cd_blank ct_blank), sl_blank⟩)
    (c_blank : PySem.W.codeIn K cd_blank "blank" = true)
    (k_blank : PySem.W.keepIn K (.ref f_blank) = true)
    (a_need_alike : PySem.W.nsIn K mainGlobals "need_alike" = some (some (.ref f_need_alike)))
    (l_need_alike : K.lookup f_need_alike = some ⟨oc_need_alike, od_need_alike, .func (PySem.W.fnOf "need_alike" "need_alike" (defArgs s_need_alike) (defBody s_need_alike) (defScope s_need_alike) .none kV_need_alike dc_need_alike pm_need_alike an_need_alike cd_need_alike ct_need_alike), sl_need_alike⟩)
    (c_need_alike : PySem.W.codeIn K cd_need_alike "need_alike" = true)
    (k_need_alike : PySem.W.keepIn K (.ref f_need_alike) = true)
    (a_joined : PySem.W.nsIn K mainGlobals "joined" = some (some (.ref f_joined)))
    (l_joined : K.lookup f_joined = some ⟨oc_joined, od_joined, .func (PySem.W.fnOf "joined" "joined" (defArgs s_joined) (defBody s_joined) (defScope s_joined) .none kV_joined dc_joined pm_joined an_joined cd_joined ct_joined), sl_joined⟩)
    (c_joined : PySem.W.codeIn K cd_joined "joined" = true)
    (k_joined : PySem.W.keepIn K (.ref f_joined) = true)
    (a_has_seen : PySem.W.nsIn K mainGlobals "has_seen" = some (some (.ref f_has_seen)))
    (l_has_seen : K.lookup f_has_seen = some ⟨oc_has_seen, od_has_seen, .func (PySem.W.fnOf "has_seen" "has_seen" (defArgs s_has_seen) (defBody s_has_seen) (defScope s_has_seen) .none kV_has_seen dc_has_seen pm_has_seen an_has_seen cd_has_seen ct_has_seen), sl_has_seen⟩)
    (c_has_seen : PySem.W.codeIn K cd_has_seen "has_seen" = true)
    (k_has_seen : PySem.W.keepIn K (.ref f_has_seen) = true)
    (a_unseen : PySem.W.nsIn K mainGlobals "unseen" = some (some (.ref f_unseen)))
    (l_unseen : K.lookup f_unseen = some ⟨oc_unseen, od_unseen, .func (PySem.W.fnOf "unseen" "unseen" (defArgs s_unseen) (defBody s_unseen) (defScope s_unseen) .none kV_unseen dc_unseen pm_unseen an_unseen cd_unseen ct_unseen), sl_unseen⟩)
    (c_unseen : PySem.W.codeIn K cd_unseen "unseen" = true)
    (k_unseen : PySem.W.keepIn K (.ref f_unseen) = true)
    (a_put_on : PySem.W.nsIn K mainGlobals "put_on" = some (some (.ref f_put_on)))
    (l_put_on : K.lookup f_put_on = some ⟨oc_put_on, od_put_on, .func (PySem.W.fnOf "put_on" "put_on" (defArgs s_put_on) (defBody s_put_on) (defScope s_put_on) .none kV_put_on dc_put_on pm_put_on an_put_on cd_put_on ct_put_on), sl_put_on⟩)
    (c_put_on : PySem.W.codeIn K cd_put_on "put_on" = true)
    (k_put_on : PySem.W.keepIn K (.ref f_put_on) = true)
    (a_dropped : PySem.W.nsIn K mainGlobals "dropped" = some (some (.ref f_dropped)))
    (l_dropped : K.lookup f_dropped = some ⟨oc_dropped, od_dropped, .func (PySem.W.fnOf "dropped" "dropped" (defArgs s_dropped) (defBody s_dropped) (defScope s_dropped) .none kV_dropped dc_dropped pm_dropped an_dropped cd_dropped ct_dropped), sl_dropped⟩)
    (c_dropped : PySem.W.codeIn K cd_dropped "dropped" = true)
    (k_dropped : PySem.W.keepIn K (.ref f_dropped) = true)
    (a_met : PySem.W.nsIn K mainGlobals "met" = some (some (.ref f_met)))
    (l_met : K.lookup f_met = some ⟨oc_met, od_met, .func (PySem.W.fnOf "met" "met" (defArgs s_met) (defBody s_met) (defScope s_met) .none kV_met dc_met pm_met an_met cd_met ct_met), sl_met⟩)
    (c_met : PySem.W.codeIn K cd_met "met" = true)
    (k_met : PySem.W.keepIn K (.ref f_met) = true)
    (a_S_init : PySem.W.findIn K (.ref C) "__init__" = some (some (.ref f_S_init)))
    (i_S_init : PySem.W.isFn K (.ref f_S_init) = true)
    (l_S_init : K.lookup f_S_init = some ⟨oc_S_init, od_S_init, .func (PySem.W.fnOf "__init__" "Store.__init__" (defArgs s_S_init) (defBody s_S_init) (defScope s_S_init) .none kV_S_init dc_S_init pm_S_init an_S_init cd_S_init ct_S_init), sl_S_init⟩)
    (c_S_init : PySem.W.codeIn K cd_S_init "Store.__init__" = true)
    (k_S_init : PySem.W.keepIn K (.ref f_S_init) = true)
    (a_S_need_keeper : PySem.W.findIn K (.ref C) "need_keeper" = some (some (.ref f_S_need_keeper)))
    (i_S_need_keeper : PySem.W.isFn K (.ref f_S_need_keeper) = true)
    (l_S_need_keeper : K.lookup f_S_need_keeper = some ⟨oc_S_need_keeper, od_S_need_keeper, .func (PySem.W.fnOf "need_keeper" "Store.need_keeper" (defArgs s_S_need_keeper) (defBody s_S_need_keeper) (defScope s_S_need_keeper) .none kV_S_need_keeper dc_S_need_keeper pm_S_need_keeper an_S_need_keeper cd_S_need_keeper ct_S_need_keeper), sl_S_need_keeper⟩)
    (c_S_need_keeper : PySem.W.codeIn K cd_S_need_keeper "Store.need_keeper" = true)
    (k_S_need_keeper : PySem.W.keepIn K (.ref f_S_need_keeper) = true)
    (a_S_need_mark : PySem.W.findIn K (.ref C) "need_mark" = some (some (.ref f_S_need_mark)))
    (i_S_need_mark : PySem.W.isFn K (.ref f_S_need_mark) = true)
    (l_S_need_mark : K.lookup f_S_need_mark = some ⟨oc_S_need_mark, od_S_need_mark, .func (PySem.W.fnOf "need_mark" "Store.need_mark" (defArgs s_S_need_mark) (defBody s_S_need_mark) (defScope s_S_need_mark) .none kV_S_need_mark dc_S_need_mark pm_S_need_mark an_S_need_mark cd_S_need_mark ct_S_need_mark), sl_S_need_mark⟩)
    (c_S_need_mark : PySem.W.codeIn K cd_S_need_mark "Store.need_mark" = true)
    (k_S_need_mark : PySem.W.keepIn K (.ref f_S_need_mark) = true)
    (a_S_shelf : PySem.W.findIn K (.ref C) "shelf" = some (some (.ref f_S_shelf)))
    (i_S_shelf : PySem.W.isFn K (.ref f_S_shelf) = true)
    (l_S_shelf : K.lookup f_S_shelf = some ⟨oc_S_shelf, od_S_shelf, .func (PySem.W.fnOf "shelf" "Store.shelf" (defArgs s_S_shelf) (defBody s_S_shelf) (defScope s_S_shelf) .none kV_S_shelf dc_S_shelf pm_S_shelf an_S_shelf cd_S_shelf ct_S_shelf), sl_S_shelf⟩)
    (c_S_shelf : PySem.W.codeIn K cd_S_shelf "Store.shelf" = true)
    (k_S_shelf : PySem.W.keepIn K (.ref f_S_shelf) = true)
    (a_S_look : PySem.W.findIn K (.ref C) "look" = some (some (.ref f_S_look)))
    (i_S_look : PySem.W.isFn K (.ref f_S_look) = true)
    (l_S_look : K.lookup f_S_look = some ⟨oc_S_look, od_S_look, .func (PySem.W.fnOf "look" "Store.look" (defArgs s_S_look) (defBody s_S_look) (defScope s_S_look) .none kV_S_look dc_S_look pm_S_look an_S_look cd_S_look ct_S_look), sl_S_look⟩)
    (c_S_look : PySem.W.codeIn K cd_S_look "Store.look" = true)
    (k_S_look : PySem.W.keepIn K (.ref f_S_look) = true)
    (a_S_put : PySem.W.findIn K (.ref C) "put" = some (some (.ref f_S_put)))
    (i_S_put : PySem.W.isFn K (.ref f_S_put) = true)
    (l_S_put : K.lookup f_S_put = some ⟨oc_S_put, od_S_put, .func (PySem.W.fnOf "put" "Store.put" (defArgs s_S_put) (defBody s_S_put) (defScope s_S_put) .none kV_S_put dc_S_put pm_S_put an_S_put cd_S_put ct_S_put), sl_S_put⟩)
    (c_S_put : PySem.W.codeIn K cd_S_put "Store.put" = true)
    (k_S_put : PySem.W.keepIn K (.ref f_S_put) = true)
    (a_S_drop : PySem.W.findIn K (.ref C) "drop" = some (some (.ref f_S_drop)))
    (i_S_drop : PySem.W.isFn K (.ref f_S_drop) = true)
    (l_S_drop : K.lookup f_S_drop = some ⟨oc_S_drop, od_S_drop, .func (PySem.W.fnOf "drop" "Store.drop" (defArgs s_S_drop) (defBody s_S_drop) (defScope s_S_drop) .none kV_S_drop dc_S_drop pm_S_drop an_S_drop cd_S_drop ct_S_drop), sl_S_drop⟩)
    (c_S_drop : PySem.W.codeIn K cd_S_drop "Store.drop" = true)
    (k_S_drop : PySem.W.keepIn K (.ref f_S_drop) = true)
    (a_S_letter : PySem.W.findIn K (.ref C) "letter" = some (some (.ref f_S_letter)))
    (i_S_letter : PySem.W.isFn K (.ref f_S_letter) = true)
    (l_S_letter : K.lookup f_S_letter = some ⟨oc_S_letter, od_S_letter, .func (PySem.W.fnOf "letter" "Store.letter" (defArgs s_S_letter) (defBody s_S_letter) (defScope s_S_letter) .none kV_S_letter dc_S_letter pm_S_letter an_S_letter cd_S_letter ct_S_letter), sl_S_letter⟩)
    (c_S_letter : PySem.W.codeIn K cd_S_letter "Store.letter" = true)
    (k_S_letter : PySem.W.keepIn K (.ref f_S_letter) = true)
    (a_S_take : PySem.W.findIn K (.ref C) "take" = some (some (.ref f_S_take)))
    (i_S_take : PySem.W.isFn K (.ref f_S_take) = true)
    (l_S_take : K.lookup f_S_take = some ⟨oc_S_take, od_S_take, .func (PySem.W.fnOf "take" "Store.take" (defArgs s_S_take) (defBody s_S_take) (defScope s_S_take) .none kV_S_take dc_S_take pm_S_take an_S_take cd_S_take ct_S_take), sl_S_take⟩)
    (c_S_take : PySem.W.codeIn K cd_S_take "Store.take" = true)
    (k_S_take : PySem.W.keepIn K (.ref f_S_take) = true)
    (a_S_keys : PySem.W.findIn K (.ref C) "keys" = some (some (.ref f_S_keys)))
    (i_S_keys : PySem.W.isFn K (.ref f_S_keys) = true)
    (l_S_keys : K.lookup f_S_keys = some ⟨oc_S_keys, od_S_keys, .func (PySem.W.fnOf "keys" "Store.keys" (defArgs s_S_keys) (defBody s_S_keys) (defScope s_S_keys) .none kV_S_keys dc_S_keys pm_S_keys an_S_keys cd_S_keys ct_S_keys), sl_S_keys⟩)
    (c_S_keys : PySem.W.codeIn K cd_S_keys "Store.keys" = true)
    (k_S_keys : PySem.W.keepIn K (.ref f_S_keys) = true)
    (a_l_cell_at : PySem.W.nsIn K mainGlobals "_law_cell_at" = some (some (.ref f_l_cell_at)))
    (l_l_cell_at : K.lookup f_l_cell_at = some ⟨oc_l_cell_at, od_l_cell_at, .func (PySem.W.fnOf "_law_cell_at" "_law_cell_at" (defArgs s_l_cell_at) (defBody s_l_cell_at) (defScope s_l_cell_at) .none kV_l_cell_at dc_l_cell_at pm_l_cell_at an_l_cell_at cd_l_cell_at ct_l_cell_at), sl_l_cell_at⟩)
    (c_l_cell_at : PySem.W.codeIn K cd_l_cell_at "_law_cell_at" = true)
    (k_l_cell_at : PySem.W.keepIn K (.ref f_l_cell_at) = true)
    (a_l_value : PySem.W.nsIn K mainGlobals "_law_value" = some (some (.ref f_l_value)))
    (l_l_value : K.lookup f_l_value = some ⟨oc_l_value, od_l_value, .func (PySem.W.fnOf "_law_value" "_law_value" (defArgs s_l_value) (defBody s_l_value) (defScope s_l_value) .none kV_l_value dc_l_value pm_l_value an_l_value cd_l_value ct_l_value), sl_l_value⟩)
    (c_l_value : PySem.W.codeIn K cd_l_value "_law_value" = true)
    (k_l_value : PySem.W.keepIn K (.ref f_l_value) = true)
    (a_l_both : PySem.W.nsIn K mainGlobals "_law_both" = some (some (.ref f_l_both)))
    (l_l_both : K.lookup f_l_both = some ⟨oc_l_both, od_l_both, .func (PySem.W.fnOf "_law_both" "_law_both" (defArgs s_l_both) (defBody s_l_both) (defScope s_l_both) .none kV_l_both dc_l_both pm_l_both an_l_both cd_l_both ct_l_both), sl_l_both⟩)
    (c_l_both : PySem.W.codeIn K cd_l_both "_law_both" = true)
    (k_l_both : PySem.W.keepIn K (.ref f_l_both) = true)
    (a_l_looked : PySem.W.nsIn K mainGlobals "_law_looked" = some (some (.ref f_l_looked)))
    (l_l_looked : K.lookup f_l_looked = some ⟨oc_l_looked, od_l_looked, .func (PySem.W.fnOf "_law_looked" "_law_looked" (defArgs s_l_looked) (defBody s_l_looked) (defScope s_l_looked) .none kV_l_looked dc_l_looked pm_l_looked an_l_looked cd_l_looked ct_l_looked), sl_l_looked⟩)
    (c_l_looked : PySem.W.codeIn K cd_l_looked "_law_looked" = true)
    (k_l_looked : PySem.W.keepIn K (.ref f_l_looked) = true)
    (a_l_due : PySem.W.nsIn K mainGlobals "_law_due" = some (some (.ref f_l_due)))
    (l_l_due : K.lookup f_l_due = some ⟨oc_l_due, od_l_due, .func (PySem.W.fnOf "_law_due" "_law_due" (defArgs s_l_due) (defBody s_l_due) (defScope s_l_due) .none kV_l_due dc_l_due pm_l_due an_l_due cd_l_due ct_l_due), sl_l_due⟩)
    (c_l_due : PySem.W.codeIn K cd_l_due "_law_due" = true)
    (k_l_due : PySem.W.keepIn K (.ref f_l_due) = true)
    (a_l_told : PySem.W.nsIn K mainGlobals "_law_told" = some (some (.ref f_l_told)))
    (l_l_told : K.lookup f_l_told = some ⟨oc_l_told, od_l_told, .func (PySem.W.fnOf "_law_told" "_law_told" (defArgs s_l_told) (defBody s_l_told) (defScope s_l_told) .none kV_l_told dc_l_told pm_l_told an_l_told cd_l_told ct_l_told), sl_l_told⟩)
    (c_l_told : PySem.W.codeIn K cd_l_told "_law_told" = true)
    (k_l_told : PySem.W.keepIn K (.ref f_l_told) = true)
    (a_l_changed : PySem.W.nsIn K mainGlobals "_law_changed" = some (some (.ref f_l_changed)))
    (l_l_changed : K.lookup f_l_changed = some ⟨oc_l_changed, od_l_changed, .func (PySem.W.fnOf "_law_changed" "_law_changed" (defArgs s_l_changed) (defBody s_l_changed) (defScope s_l_changed) .none kV_l_changed dc_l_changed pm_l_changed an_l_changed cd_l_changed ct_l_changed), sl_l_changed⟩)
    (c_l_changed : PySem.W.codeIn K cd_l_changed "_law_changed" = true)
    (k_l_changed : PySem.W.keepIn K (.ref f_l_changed) = true)
    (a_l_asked : PySem.W.nsIn K mainGlobals "_law_asked" = some (some (.ref f_l_asked)))
    (l_l_asked : K.lookup f_l_asked = some ⟨oc_l_asked, od_l_asked, .func (PySem.W.fnOf "_law_asked" "_law_asked" (defArgs s_l_asked) (defBody s_l_asked) (defScope s_l_asked) .none kV_l_asked dc_l_asked pm_l_asked an_l_asked cd_l_asked ct_l_asked), sl_l_asked⟩)
    (c_l_asked : PySem.W.codeIn K cd_l_asked "_law_asked" = true)
    (k_l_asked : PySem.W.keepIn K (.ref f_l_asked) = true)
    (a_l_deed : PySem.W.nsIn K mainGlobals "_law_deed" = some (some (.ref f_l_deed)))
    (l_l_deed : K.lookup f_l_deed = some ⟨oc_l_deed, od_l_deed, .func (PySem.W.fnOf "_law_deed" "_law_deed" (defArgs s_l_deed) (defBody s_l_deed) (defScope s_l_deed) .none kV_l_deed dc_l_deed pm_l_deed an_l_deed cd_l_deed ct_l_deed), sl_l_deed⟩)
    (c_l_deed : PySem.W.codeIn K cd_l_deed "_law_deed" = true)
    (k_l_deed : PySem.W.keepIn K (.ref f_l_deed) = true)
    (a_l_cells : PySem.W.nsIn K mainGlobals "_law_cells" = some (some (.ref f_l_cells)))
    (l_l_cells : K.lookup f_l_cells = some ⟨oc_l_cells, od_l_cells, .func (PySem.W.fnOf "_law_cells" "_law_cells" (defArgs s_l_cells) (defBody s_l_cells) (defScope s_l_cells) .none kV_l_cells dc_l_cells pm_l_cells an_l_cells cd_l_cells ct_l_cells), sl_l_cells⟩)
    (c_l_cells : PySem.W.codeIn K cd_l_cells "_law_cells" = true)
    (k_l_cells : PySem.W.keepIn K (.ref f_l_cells) = true)
    (a_law : PySem.W.nsIn K mainGlobals "law" = some (some (.ref f_law)))
    (l_law : K.lookup f_law = some ⟨oc_law, od_law, .func (PySem.W.fnOf "law" "law" (defArgs s_law) (defBody s_law) (defScope s_law) .none kV_law dc_law pm_law an_law cd_law ct_law), sl_law⟩)
    (c_law : PySem.W.codeIn K cd_law "law" = true)
    (k_law : PySem.W.keepIn K (.ref f_law) = true)
    (pg : PySem.W.plainGet K C Str.empty = true)
    (hd : PySem.W.hasDictIn K C = true)
    (po : PySem.W.plainOver K C = true)
    (sa : PySem.W.findIn K (.ref C) "__setattr__" = some (some (.builtin "object.__setattr__")))
    (mkk : PySem.W.makesIn K C = true)
    (kc : PySem.W.keepIn K (.ref C) = true)
    (nK : PySem.W.findIn K (.ref C) "kept" = some none)
    (nF : PySem.W.findIn K (.ref C) "first" = some none) :
    ∃ fd : FuncData, (∀ (s : Shared) (v : Value), BindsTo s fd ⟨[v], []⟩ [("_law_script", v)]) ∧ ∀ base : Heap, K.In base → base.Ns mainGlobals mg → FnOk l.prog w K mg base (L2.CX l.prog w) 7 fa fd ["_law_script"] (sp_law K) := by
  have e := hfa.symm.trans (PySem.W.mg_of X G a_law)
  cases e
  have T : Txt K mg ⟨C_ShelfError, C_BadCount, C_NoKeeper, C_BadMark, C, f_blank, PySem.W.fnOf "blank" "blank" (defArgs s_blank) (defBody s_blank) (defScope s_blank) .none kV_blank dc_blank pm_blank an_blank cd_blank ct_blank, f_need_alike, PySem.W.fnOf "need_alike" "need_alike" (defArgs s_need_alike) (defBody s_need_alike) (defScope s_need_alike) .none kV_need_alike dc_need_alike pm_need_alike an_need_alike cd_need_alike ct_need_alike, f_joined, PySem.W.fnOf "joined" "joined" (defArgs s_joined) (defBody s_joined) (defScope s_joined) .none kV_joined dc_joined pm_joined an_joined cd_joined ct_joined, f_has_seen, PySem.W.fnOf "has_seen" "has_seen" (defArgs s_has_seen) (defBody s_has_seen) (defScope s_has_seen) .none kV_has_seen dc_has_seen pm_has_seen an_has_seen cd_has_seen ct_has_seen, f_unseen, PySem.W.fnOf "unseen" "unseen" (defArgs s_unseen) (defBody s_unseen) (defScope s_unseen) .none kV_unseen dc_unseen pm_unseen an_unseen cd_unseen ct_unseen, f_put_on, PySem.W.fnOf "put_on" "put_on" (defArgs s_put_on) (defBody s_put_on) (defScope s_put_on) .none kV_put_on dc_put_on pm_put_on an_put_on cd_put_on ct_put_on, f_dropped, PySem.W.fnOf "dropped" "dropped" (defArgs s_dropped) (defBody s_dropped) (defScope s_dropped) .none kV_dropped dc_dropped pm_dropped an_dropped cd_dropped ct_dropped, f_met, PySem.W.fnOf "met" "met" (defArgs s_met) (defBody s_met) (defScope s_met) .none kV_met dc_met pm_met an_met cd_met ct_met, f_S_init, PySem.W.fnOf "__init__" "Store.__init__" (defArgs s_S_init) (defBody s_S_init) (defScope s_S_init) .none kV_S_init dc_S_init pm_S_init an_S_init cd_S_init ct_S_init, f_S_need_keeper, PySem.W.fnOf "need_keeper" "Store.need_keeper" (defArgs s_S_need_keeper) (defBody s_S_need_keeper) (defScope s_S_need_keeper) .none kV_S_need_keeper dc_S_need_keeper pm_S_need_keeper an_S_need_keeper cd_S_need_keeper ct_S_need_keeper, f_S_need_mark, PySem.W.fnOf "need_mark" "Store.need_mark" (defArgs s_S_need_mark) (defBody s_S_need_mark) (defScope s_S_need_mark) .none kV_S_need_mark dc_S_need_mark pm_S_need_mark an_S_need_mark cd_S_need_mark ct_S_need_mark, f_S_shelf, PySem.W.fnOf "shelf" "Store.shelf" (defArgs s_S_shelf) (defBody s_S_shelf) (defScope s_S_shelf) .none kV_S_shelf dc_S_shelf pm_S_shelf an_S_shelf cd_S_shelf ct_S_shelf, f_S_look, PySem.W.fnOf "look" "Store.look" (defArgs s_S_look) (defBody s_S_look) (defScope s_S_look) .none kV_S_look dc_S_look pm_S_look an_S_look cd_S_look ct_S_look, f_S_put, PySem.W.fnOf "put" "Store.put" (defArgs s_S_put) (defBody s_S_put) (defScope s_S_put) .none kV_S_put dc_S_put pm_S_put an_S_put cd_S_put ct_S_put, f_S_drop, PySem.W.fnOf "drop" "Store.drop" (defArgs s_S_drop) (defBody s_S_drop) (defScope s_S_drop) .none kV_S_drop dc_S_drop pm_S_drop an_S_drop cd_S_drop ct_S_drop, f_S_letter, PySem.W.fnOf "letter" "Store.letter" (defArgs s_S_letter) (defBody s_S_letter) (defScope s_S_letter) .none kV_S_letter dc_S_letter pm_S_letter an_S_letter cd_S_letter ct_S_letter, f_S_take, PySem.W.fnOf "take" "Store.take" (defArgs s_S_take) (defBody s_S_take) (defScope s_S_take) .none kV_S_take dc_S_take pm_S_take an_S_take cd_S_take ct_S_take, f_S_keys, PySem.W.fnOf "keys" "Store.keys" (defArgs s_S_keys) (defBody s_S_keys) (defScope s_S_keys) .none kV_S_keys dc_S_keys pm_S_keys an_S_keys cd_S_keys ct_S_keys, f_l_cell_at, PySem.W.fnOf "_law_cell_at" "_law_cell_at" (defArgs s_l_cell_at) (defBody s_l_cell_at) (defScope s_l_cell_at) .none kV_l_cell_at dc_l_cell_at pm_l_cell_at an_l_cell_at cd_l_cell_at ct_l_cell_at, f_l_value, PySem.W.fnOf "_law_value" "_law_value" (defArgs s_l_value) (defBody s_l_value) (defScope s_l_value) .none kV_l_value dc_l_value pm_l_value an_l_value cd_l_value ct_l_value, f_l_both, PySem.W.fnOf "_law_both" "_law_both" (defArgs s_l_both) (defBody s_l_both) (defScope s_l_both) .none kV_l_both dc_l_both pm_l_both an_l_both cd_l_both ct_l_both, f_l_looked, PySem.W.fnOf "_law_looked" "_law_looked" (defArgs s_l_looked) (defBody s_l_looked) (defScope s_l_looked) .none kV_l_looked dc_l_looked pm_l_looked an_l_looked cd_l_looked ct_l_looked, f_l_due, PySem.W.fnOf "_law_due" "_law_due" (defArgs s_l_due) (defBody s_l_due) (defScope s_l_due) .none kV_l_due dc_l_due pm_l_due an_l_due cd_l_due ct_l_due, f_l_told, PySem.W.fnOf "_law_told" "_law_told" (defArgs s_l_told) (defBody s_l_told) (defScope s_l_told) .none kV_l_told dc_l_told pm_l_told an_l_told cd_l_told ct_l_told, f_l_changed, PySem.W.fnOf "_law_changed" "_law_changed" (defArgs s_l_changed) (defBody s_l_changed) (defScope s_l_changed) .none kV_l_changed dc_l_changed pm_l_changed an_l_changed cd_l_changed ct_l_changed, f_l_asked, PySem.W.fnOf "_law_asked" "_law_asked" (defArgs s_l_asked) (defBody s_l_asked) (defScope s_l_asked) .none kV_l_asked dc_l_asked pm_l_asked an_l_asked cd_l_asked ct_l_asked, f_l_deed, PySem.W.fnOf "_law_deed" "_law_deed" (defArgs s_l_deed) (defBody s_l_deed) (defScope s_l_deed) .none kV_l_deed dc_l_deed pm_l_deed an_l_deed cd_l_deed ct_l_deed, f_l_cells, PySem.W.fnOf "_law_cells" "_law_cells" (defArgs s_l_cells) (defBody s_l_cells) (defScope s_l_cells) .none kV_l_cells dc_l_cells pm_l_cells an_l_cells cd_l_cells ct_l_cells, fa, PySem.W.fnOf "law" "law" (defArgs s_law) (defBody s_law) (defScope s_law) .none kV_law dc_law pm_law an_law cd_law ct_law⟩ := {
    n_ValueError := PySem.W.mg_none_of X G z_ValueError,
    n_bool := PySem.W.mg_none_of X G z_bool,
    n_dict := PySem.W.mg_none_of X G z_dict,
    n_enumerate := PySem.W.mg_none_of X G z_enumerate,
    n_int := PySem.W.mg_none_of X G z_int,
    n_isinstance := PySem.W.mg_none_of X G z_isinstance,
    n_len := PySem.W.mg_none_of X G z_len,
    n_list := PySem.W.mg_none_of X G z_list,
    n_max := PySem.W.mg_none_of X G z_max,
    n_range := PySem.W.mg_none_of X G z_range,
    n_sorted := PySem.W.mg_none_of X G z_sorted,
    n_tuple := PySem.W.mg_none_of X G z_tuple,
    g_MOST_KEEPERS := c_MOST_KEEPERS.elim fun t h => ⟨t, PySem.W.mg_of X G h⟩,
    g_ShelfError := PySem.W.mg_of X G a_ShelfError,
    x_ShelfError := x_ShelfError,
    k_ShelfError := k_ShelfError,
    b_ShelfError := b_ShelfError,
    t_ShelfError := t_ShelfError,
    g_BadCount := PySem.W.mg_of X G a_BadCount,
    x_BadCount := x_BadCount,
    k_BadCount := k_BadCount,
    b_BadCount := b_BadCount,
    t_BadCount := t_BadCount,
    g_NoKeeper := PySem.W.mg_of X G a_NoKeeper,
    x_NoKeeper := x_NoKeeper,
    k_NoKeeper := k_NoKeeper,
    b_NoKeeper := b_NoKeeper,
    t_NoKeeper := t_NoKeeper,
    g_BadMark := PySem.W.mg_of X G a_BadMark,
    x_BadMark := x_BadMark,
    k_BadMark := k_BadMark,
    b_BadMark := b_BadMark,
    t_BadMark := t_BadMark,
    cl := ⟨pg, hd, po, sa⟩,
    mks := ⟨mkk, a_S_init, i_S_init, kc⟩,
    g_Store := PySem.W.mg_of X G a_Store,
    nA_first := nF,
    nA_kept := nK,
    F_blank := fun_mk (st := s_blank) l_blank c_blank k_blank,
    b_blank := (fun_mk (st := s_blank) l_blank c_blank k_blank).binds fun _ _ _ _ _ _ us hl => match us, hl with | [_], _ => rfl,
    k_blank := k_blank,
    g_blank := PySem.W.mg_of X G a_blank,
    F_need_alike := fun_mk (st := s_need_alike) l_need_alike c_need_alike k_need_alike,
    b_need_alike := (fun_mk (st := s_need_alike) l_need_alike c_need_alike k_need_alike).binds fun _ _ _ _ _ _ us hl => match us, hl with | [_, _], _ => rfl,
    k_need_alike := k_need_alike,
    g_need_alike := PySem.W.mg_of X G a_need_alike,
    F_joined := fun_mk (st := s_joined) l_joined c_joined k_joined,
    b_joined := (fun_mk (st := s_joined) l_joined c_joined k_joined).binds fun _ _ _ _ _ _ us hl => match us, hl with | [_, _], _ => rfl,
    k_joined := k_joined,
    g_joined := PySem.W.mg_of X G a_joined,
    F_has_seen := fun_mk (st := s_has_seen) l_has_seen c_has_seen k_has_seen,
    b_has_seen := (fun_mk (st := s_has_seen) l_has_seen c_has_seen k_has_seen).binds fun _ _ _ _ _ _ us hl => match us, hl with | [_, _, _], _ => rfl,
    k_has_seen := k_has_seen,
    g_has_seen := PySem.W.mg_of X G a_has_seen,
    F_unseen := fun_mk (st := s_unseen) l_unseen c_unseen k_unseen,
    b_unseen := (fun_mk (st := s_unseen) l_unseen c_unseen k_unseen).binds fun _ _ _ _ _ _ us hl => match us, hl with | [_, _], _ => rfl,
    k_unseen := k_unseen,
    g_unseen := PySem.W.mg_of X G a_unseen,
    F_put_on := fun_mk (st := s_put_on) l_put_on c_put_on k_put_on,
    b_put_on := (fun_mk (st := s_put_on) l_put_on c_put_on k_put_on).binds fun _ _ _ _ _ _ us hl => match us, hl with | [_, _, _, _], _ => rfl,
    k_put_on := k_put_on,
    g_put_on := PySem.W.mg_of X G a_put_on,
    F_dropped := fun_mk (st := s_dropped) l_dropped c_dropped k_dropped,
    b_dropped := (fun_mk (st := s_dropped) l_dropped c_dropped k_dropped).binds fun _ _ _ _ _ _ us hl => match us, hl with | [_, _], _ => rfl,
    k_dropped := k_dropped,
    g_dropped := PySem.W.mg_of X G a_dropped,
    F_met := fun_mk (st := s_met) l_met c_met k_met,
    b_met := (fun_mk (st := s_met) l_met c_met k_met).binds fun _ _ _ _ _ _ us hl => match us, hl with | [_, _], _ => rfl,
    k_met := k_met,
    g_met := PySem.W.mg_of X G a_met,
    F_S_init := fun_mk (st := s_S_init) l_S_init c_S_init k_S_init,
    b_S_init := (fun_mk (st := s_S_init) l_S_init c_S_init k_S_init).binds fun _ _ _ _ _ _ us hl => match us, hl with | [_, _], _ => rfl,
    k_S_init := k_S_init,
    m_S_init := ⟨a_S_init, i_S_init, k_S_init⟩,
    F_S_need_keeper := fun_mk (st := s_S_need_keeper) l_S_need_keeper c_S_need_keeper k_S_need_keeper,
    b_S_need_keeper := (fun_mk (st := s_S_need_keeper) l_S_need_keeper c_S_need_keeper k_S_need_keeper).binds fun _ _ _ _ _ _ us hl => match us, hl with | [_, _], _ => rfl,
    k_S_need_keeper := k_S_need_keeper,
    m_S_need_keeper := ⟨a_S_need_keeper, i_S_need_keeper, k_S_need_keeper⟩,
    F_S_need_mark := fun_mk (st := s_S_need_mark) l_S_need_mark c_S_need_mark k_S_need_mark,
    b_S_need_mark := (fun_mk (st := s_S_need_mark) l_S_need_mark c_S_need_mark k_S_need_mark).binds fun _ _ _ _ _ _ us hl => match us, hl with | [_, _], _ => rfl,
    k_S_need_mark := k_S_need_mark,
    m_S_need_mark := ⟨a_S_need_mark, i_S_need_mark, k_S_need_mark⟩,
    F_S_shelf := fun_mk (st := s_S_shelf) l_S_shelf c_S_shelf k_S_shelf,
    b_S_shelf := (fun_mk (st := s_S_shelf) l_S_shelf c_S_shelf k_S_shelf).binds fun _ _ _ _ _ _ us hl => match us, hl with | [_, _, _], _ => rfl,
    k_S_shelf := k_S_shelf,
    m_S_shelf := ⟨a_S_shelf, i_S_shelf, k_S_shelf⟩,
    F_S_look := fun_mk (st := s_S_look) l_S_look c_S_look k_S_look,
    b_S_look := (fun_mk (st := s_S_look) l_S_look c_S_look k_S_look).binds fun _ _ _ _ _ _ us hl => match us, hl with | [_, _, _], _ => rfl,
    k_S_look := k_S_look,
    m_S_look := ⟨a_S_look, i_S_look, k_S_look⟩,
    F_S_put := fun_mk (st := s_S_put) l_S_put c_S_put k_S_put,
    b_S_put := (fun_mk (st := s_S_put) l_S_put c_S_put k_S_put).binds fun _ _ _ _ _ _ us hl => match us, hl with | [_, _, _, _, _], _ => rfl,
    k_S_put := k_S_put,
    m_S_put := ⟨a_S_put, i_S_put, k_S_put⟩,
    F_S_drop := fun_mk (st := s_S_drop) l_S_drop c_S_drop k_S_drop,
    b_S_drop := (fun_mk (st := s_S_drop) l_S_drop c_S_drop k_S_drop).binds fun _ _ _ _ _ _ us hl => match us, hl with | [_, _, _, _], _ => rfl,
    k_S_drop := k_S_drop,
    m_S_drop := ⟨a_S_drop, i_S_drop, k_S_drop⟩,
    F_S_letter := fun_mk (st := s_S_letter) l_S_letter c_S_letter k_S_letter,
    b_S_letter := (fun_mk (st := s_S_letter) l_S_letter c_S_letter k_S_letter).binds fun _ _ _ _ _ _ us hl => match us, hl with | [_, _, _], _ => rfl,
    k_S_letter := k_S_letter,
    m_S_letter := ⟨a_S_letter, i_S_letter, k_S_letter⟩,
    F_S_take := fun_mk (st := s_S_take) l_S_take c_S_take k_S_take,
    b_S_take := (fun_mk (st := s_S_take) l_S_take c_S_take k_S_take).binds fun _ _ _ _ _ _ us hl => match us, hl with | [_, _, _], _ => rfl,
    k_S_take := k_S_take,
    m_S_take := ⟨a_S_take, i_S_take, k_S_take⟩,
    F_S_keys := fun_mk (st := s_S_keys) l_S_keys c_S_keys k_S_keys,
    b_S_keys := (fun_mk (st := s_S_keys) l_S_keys c_S_keys k_S_keys).binds fun _ _ _ _ _ _ us hl => match us, hl with | [_, _], _ => rfl,
    k_S_keys := k_S_keys,
    m_S_keys := ⟨a_S_keys, i_S_keys, k_S_keys⟩,
    F_l_cell_at := fun_mk (st := s_l_cell_at) l_l_cell_at c_l_cell_at k_l_cell_at,
    b_l_cell_at := (fun_mk (st := s_l_cell_at) l_l_cell_at c_l_cell_at k_l_cell_at).binds fun _ _ _ _ _ _ us hl => match us, hl with | [_, _], _ => rfl,
    k_l_cell_at := k_l_cell_at,
    g_l_cell_at := PySem.W.mg_of X G a_l_cell_at,
    F_l_value := fun_mk (st := s_l_value) l_l_value c_l_value k_l_value,
    b_l_value := (fun_mk (st := s_l_value) l_l_value c_l_value k_l_value).binds fun _ _ _ _ _ _ us hl => match us, hl with | [_, _], _ => rfl,
    k_l_value := k_l_value,
    g_l_value := PySem.W.mg_of X G a_l_value,
    F_l_both := fun_mk (st := s_l_both) l_l_both c_l_both k_l_both,
    b_l_both := (fun_mk (st := s_l_both) l_l_both c_l_both k_l_both).binds fun _ _ _ _ _ _ us hl => match us, hl with | [_, _], _ => rfl,
    k_l_both := k_l_both,
    g_l_both := PySem.W.mg_of X G a_l_both,
    F_l_looked := fun_mk (st := s_l_looked) l_l_looked c_l_looked k_l_looked,
    b_l_looked := (fun_mk (st := s_l_looked) l_l_looked c_l_looked k_l_looked).binds fun _ _ _ _ _ _ us hl => match us, hl with | [_, _, _, _], _ => rfl,
    k_l_looked := k_l_looked,
    g_l_looked := PySem.W.mg_of X G a_l_looked,
    F_l_due := fun_mk (st := s_l_due) l_l_due c_l_due k_l_due,
    b_l_due := (fun_mk (st := s_l_due) l_l_due c_l_due k_l_due).binds fun _ _ _ _ _ _ us hl => match us, hl with | [_, _, _], _ => rfl,
    k_l_due := k_l_due,
    g_l_due := PySem.W.mg_of X G a_l_due,
    F_l_told := fun_mk (st := s_l_told) l_l_told c_l_told k_l_told,
    b_l_told := (fun_mk (st := s_l_told) l_l_told c_l_told k_l_told).binds fun _ _ _ _ _ _ us hl => match us, hl with | [_, _, _, _], _ => rfl,
    k_l_told := k_l_told,
    g_l_told := PySem.W.mg_of X G a_l_told,
    F_l_changed := fun_mk (st := s_l_changed) l_l_changed c_l_changed k_l_changed,
    b_l_changed := (fun_mk (st := s_l_changed) l_l_changed c_l_changed k_l_changed).binds fun _ _ _ _ _ _ us hl => match us, hl with | [_, _, _, _, _], _ => rfl,
    k_l_changed := k_l_changed,
    g_l_changed := PySem.W.mg_of X G a_l_changed,
    F_l_asked := fun_mk (st := s_l_asked) l_l_asked c_l_asked k_l_asked,
    b_l_asked := (fun_mk (st := s_l_asked) l_l_asked c_l_asked k_l_asked).binds fun _ _ _ _ _ _ us hl => match us, hl with | [_, _, _], _ => rfl,
    k_l_asked := k_l_asked,
    g_l_asked := PySem.W.mg_of X G a_l_asked,
    F_l_deed := fun_mk (st := s_l_deed) l_l_deed c_l_deed k_l_deed,
    b_l_deed := (fun_mk (st := s_l_deed) l_l_deed c_l_deed k_l_deed).binds fun _ _ _ _ _ _ us hl => match us, hl with | [_, _, _, _, _, _], _ => rfl,
    k_l_deed := k_l_deed,
    g_l_deed := PySem.W.mg_of X G a_l_deed,
    F_l_cells := fun_mk (st := s_l_cells) l_l_cells c_l_cells k_l_cells,
    b_l_cells := (fun_mk (st := s_l_cells) l_l_cells c_l_cells k_l_cells).binds fun _ _ _ _ _ _ us hl => match us, hl with | [_, _], _ => rfl,
    k_l_cells := k_l_cells,
    g_l_cells := PySem.W.mg_of X G a_l_cells,
    F_law := fun_mk (st := s_law) l_law c_law k_law,
    b_law := (fun_mk (st := s_law) l_law c_law k_law).binds fun _ _ _ _ _ _ us hl => match us, hl with | [_], _ => rfl,
    k_law := k_law,
    g_law := PySem.W.mg_of X G a_law }
  exact ⟨_, fun s v => .of_eq rfl, fun base _ _ => ok_law T⟩

theorem walk {l : PySem.W.OpenLaw} {q : Program} {loose : List Str} {XP : (Str → Option Value) → Heap → Prop} {YP : World → Heap → Prop} {d : DefRec} {K : Params → Frag} (hn : l.most = some 63) (hdf : d.params.defaults = [])
    (hY : ∀ (w : World) (h : Heap), YP w h → (K w.params).In h)
    (F : ∀ (w : World) (mg : Str → Option Value) (fa : Addr) (h : Heap), (K w.params).In h → h.Ns mainGlobals mg → mg d.name = some (.ref fa) →
      ∃ fd : FuncData, (∀ (s : Shared) (u : Value), BindsTo s fd ⟨[u], []⟩ [("_law_script", u)]) ∧ ∀ base : Heap, (K w.params).In base → base.Ns mainGlobals mg → FnOk l.prog w (K w.params) mg base (L2.CX l.prog w) 7 fa fd ["_law_script"] (sp_law (K w.params))) :
    PySem.W.WalkO q loose XP YP l.row.toRowW d [] (fun f vs => PySem.call f vs) :=
  L2.walk_of (n := 63) (k := 7) (x := "_law_script") (CX := fun w => L2.CX l.prog w) (sp := fun w => sp_law (K w.params)) hn (by decide) hdf ⟨rfl, by decide, by decide⟩ hY F (fun _ _ a ns hl _ hS => ⟨a, ns, rfl, hS, hl, fun _ => rfl⟩) fun _ _ _ _ _ z => by
    obtain ⟨_, _, _, _, _, _, _, _, _, _, _, _, z⟩ := z
    exact z
end Sb
open PySem PySem.W PyProof.Rows
set_option maxRecDepth 100000 in
set_option maxHeartbeats 0 in
theorem PySem.Challenge.cw_siblingshelf_k08_whole_just_the_unseen_holds : PySem.Challenge.rw_siblingshelf_k08_whole_just_the_unseen.Holds := by
  w_on; o_law; k_head; (case hw => w_witness2)
  k_fill
  refine Sb.walk (l := PySem.Challenge.rw_siblingshelf_k08_whole_just_the_unseen) rfl rfl (fun w h Y => PySem.W.kIn_of Y) ?F
  case F =>
    intro w mg fa h KX G hmg
    refine' Sb.all_mk KX G hmg ?z_ValueError ?z_bool ?z_dict ?z_enumerate ?z_int ?z_isinstance ?z_len ?z_list ?z_max ?z_range ?z_sorted ?z_tuple ?c_MOST_KEEPERS ?a_ShelfError ?x_ShelfError ?k_ShelfError ?b_ShelfError ?t_ShelfError ?a_BadCount ?x_BadCount ?k_BadCount ?b_BadCount ?t_BadCount ?a_NoKeeper ?x_NoKeeper ?k_NoKeeper ?b_NoKeeper ?t_NoKeeper ?a_BadMark ?x_BadMark ?k_BadMark ?b_BadMark ?t_BadMark ?a_Store ?a_blank ?l_blank ?c_blank ?k_blank ?a_need_alike ?l_need_alike ?c_need_alike ?k_need_alike ?a_joined ?l_joined ?c_joined ?k_joined ?a_has_seen ?l_has_seen ?c_has_seen ?k_has_seen ?a_unseen ?l_unseen ?c_unseen ?k_unseen ?a_put_on ?l_put_on ?c_put_on ?k_put_on ?a_dropped ?l_dropped ?c_dropped ?k_dropped ?a_met ?l_met ?c_met ?k_met ?a_S_init ?i_S_init ?l_S_init ?c_S_init ?k_S_init ?a_S_need_keeper ?i_S_need_keeper ?l_S_need_keeper ?c_S_need_keeper ?k_S_need_keeper ?a_S_need_mark ?i_S_need_mark ?l_S_need_mark ?c_S_need_mark ?k_S_need_mark ?a_S_shelf ?i_S_shelf ?l_S_shelf ?c_S_shelf ?k_S_shelf ?a_S_look ?i_S_look ?l_S_look ?c_S_look ?k_S_look ?a_S_put ?i_S_put ?l_S_put ?c_S_put ?k_S_put ?a_S_drop ?i_S_drop ?l_S_drop ?c_S_drop ?k_S_drop ?a_S_letter ?i_S_letter ?l_S_letter ?c_S_letter ?k_S_letter ?a_S_take ?i_S_take ?l_S_take ?c_S_take ?k_S_take ?a_S_keys ?i_S_keys ?l_S_keys ?c_S_keys ?k_S_keys ?a_l_cell_at ?l_l_cell_at ?c_l_cell_at ?k_l_cell_at ?a_l_value ?l_l_value ?c_l_value ?k_l_value ?a_l_both ?l_l_both ?c_l_both ?k_l_both ?a_l_looked ?l_l_looked ?c_l_looked ?k_l_looked ?a_l_due ?l_l_due ?c_l_due ?k_l_due ?a_l_told ?l_l_told ?c_l_told ?k_l_told ?a_l_changed ?l_l_changed ?c_l_changed ?k_l_changed ?a_l_asked ?l_l_asked ?c_l_asked ?k_l_asked ?a_l_deed ?l_l_deed ?c_l_deed ?k_l_deed ?a_l_cells ?l_l_cells ?c_l_cells ?k_l_cells ?a_law ?l_law ?c_law ?k_law ?pg ?hd ?po ?sa ?mkk ?kc ?nK ?nF
    (case z_ValueError => k_is)
    (case z_bool => k_is)
    (case z_dict => k_is)
    (case z_enumerate => k_is)
    (case z_int => k_is)
    (case z_isinstance => k_is)
    (case z_len => k_is)
    (case z_list => k_is)
    (case z_max => k_is)
    (case z_range => k_is)
    (case z_sorted => k_is)
    (case z_tuple => k_is)
    (case c_MOST_KEEPERS => exact ⟨_, by k_is⟩)
    (case a_ShelfError => k_is)
    (case x_ShelfError => k_exc)
    (case k_ShelfError => k_is)
    (case b_ShelfError => k_is)
    (case t_ShelfError => k_is)
    (case a_BadCount => k_is)
    (case x_BadCount => k_exc)
    (case k_BadCount => k_is)
    (case b_BadCount => k_is)
    (case t_BadCount => k_is)
    (case a_NoKeeper => k_is)
    (case x_NoKeeper => k_exc)
    (case k_NoKeeper => k_is)
    (case b_NoKeeper => k_is)
    (case t_NoKeeper => k_is)
    (case a_BadMark => k_is)
    (case x_BadMark => k_exc)
    (case k_BadMark => k_is)
    (case b_BadMark => k_is)
    (case t_BadMark => k_is)
    (case a_Store => k_is)
    (case a_blank => k_is)
    (case l_blank => k_is)
    (case c_blank => k_is)
    (case k_blank => k_is)
    (case a_need_alike => k_is)
    (case l_need_alike => k_is)
    (case c_need_alike => k_is)
    (case k_need_alike => k_is)
    (case a_joined => k_is)
    (case l_joined => k_is)
    (case c_joined => k_is)
    (case k_joined => k_is)
    (case a_has_seen => k_is)
    (case l_has_seen => k_is)
    (case c_has_seen => k_is)
    (case k_has_seen => k_is)
    (case a_unseen => k_is)
    (case l_unseen => k_is)
    (case c_unseen => k_is)
    (case k_unseen => k_is)
    (case a_put_on => k_is)
    (case l_put_on => k_is)
    (case c_put_on => k_is)
    (case k_put_on => k_is)
    (case a_dropped => k_is)
    (case l_dropped => k_is)
    (case c_dropped => k_is)
    (case k_dropped => k_is)
    (case a_met => k_is)
    (case l_met => k_is)
    (case c_met => k_is)
    (case k_met => k_is)
    (case a_S_init => k_is)
    (case i_S_init => k_is)
    (case l_S_init => k_is)
    (case c_S_init => k_is)
    (case k_S_init => k_is)
    (case a_S_need_keeper => k_is)
    (case i_S_need_keeper => k_is)
    (case l_S_need_keeper => k_is)
    (case c_S_need_keeper => k_is)
    (case k_S_need_keeper => k_is)
    (case a_S_need_mark => k_is)
    (case i_S_need_mark => k_is)
    (case l_S_need_mark => k_is)
    (case c_S_need_mark => k_is)
    (case k_S_need_mark => k_is)
    (case a_S_shelf => k_is)
    (case i_S_shelf => k_is)
    (case l_S_shelf => k_is)
    (case c_S_shelf => k_is)
    (case k_S_shelf => k_is)
    (case a_S_look => k_is)
    (case i_S_look => k_is)
    (case l_S_look => k_is)
    (case c_S_look => k_is)
    (case k_S_look => k_is)
    (case a_S_put => k_is)
    (case i_S_put => k_is)
    (case l_S_put => k_is)
    (case c_S_put => k_is)
    (case k_S_put => k_is)
    (case a_S_drop => k_is)
    (case i_S_drop => k_is)
    (case l_S_drop => k_is)
    (case c_S_drop => k_is)
    (case k_S_drop => k_is)
    (case a_S_letter => k_is)
    (case i_S_letter => k_is)
    (case l_S_letter => k_is)
    (case c_S_letter => k_is)
    (case k_S_letter => k_is)
    (case a_S_take => k_is)
    (case i_S_take => k_is)
    (case l_S_take => k_is)
    (case c_S_take => k_is)
    (case k_S_take => k_is)
    (case a_S_keys => k_is)
    (case i_S_keys => k_is)
    (case l_S_keys => k_is)
    (case c_S_keys => k_is)
    (case k_S_keys => k_is)
    (case a_l_cell_at => k_is)
    (case l_l_cell_at => k_is)
    (case c_l_cell_at => k_is)
    (case k_l_cell_at => k_is)
    (case a_l_value => k_is)
    (case l_l_value => k_is)
    (case c_l_value => k_is)
    (case k_l_value => k_is)
    (case a_l_both => k_is)
    (case l_l_both => k_is)
    (case c_l_both => k_is)
    (case k_l_both => k_is)
    (case a_l_looked => k_is)
    (case l_l_looked => k_is)
    (case c_l_looked => k_is)
    (case k_l_looked => k_is)
    (case a_l_due => k_is)
    (case l_l_due => k_is)
    (case c_l_due => k_is)
    (case k_l_due => k_is)
    (case a_l_told => k_is)
    (case l_l_told => k_is)
    (case c_l_told => k_is)
    (case k_l_told => k_is)
    (case a_l_changed => k_is)
    (case l_l_changed => k_is)
    (case c_l_changed => k_is)
    (case k_l_changed => k_is)
    (case a_l_asked => k_is)
    (case l_l_asked => k_is)
    (case c_l_asked => k_is)
    (case k_l_asked => k_is)
    (case a_l_deed => k_is)
    (case l_l_deed => k_is)
    (case c_l_deed => k_is)
    (case k_l_deed => k_is)
    (case a_l_cells => k_is)
    (case l_l_cells => k_is)
    (case c_l_cells => k_is)
    (case k_l_cells => k_is)
    (case a_law => k_is)
    (case l_law => k_is)
    (case c_law => k_is)
    (case k_law => k_is)
    (case pg => k_is)
    (case hd => k_is)
    (case po => k_is)
    (case sa => k_is)
    (case mkk => k_is)
    (case kc => k_is)
    (case nK => k_is)
    (case nF => k_is)
#print axioms PySem.Challenge.cw_siblingshelf_k08_whole_just_the_unseen_holds


