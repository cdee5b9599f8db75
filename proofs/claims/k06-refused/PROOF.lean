import PyProof.Rows.All
import Wide.All
import OpenK.AllK
import Wide.FinOn
import HandS.ForMost
import HandS.ForExc
import HandS.Deep
import HandS.IsInst
import HandS.ExcIs
import HandS.SortRule
import HandS.Walk
import HandS.SortInts
import HandS.Style
import HandS.Rev
import HandS.RevTup
import KE.KDictList
import KE.KDictSum
import KE.KDictCopyH
import HandS.HotCalls
import HandS.More
import HandS.TupAny
import PySem.Challenge.RW_siblingshelf_k06_refused
set_option Elab.async false
set_option maxRecDepth 100000
set_option maxHeartbeats 8000000
set_option linter.all false
set_option Elab.async false
set_option maxRecDepth 100000
set_option maxHeartbeats 4000000
/-! Data that stands in the heap: the value v stands for the data d; its lists lie where M does not hold. -/
namespace Sb
open PySem L2
abbrev Frag := PySem.W.Frag

inductive Rp (M : Addr → Prop) (H : Hp) : V → PyData → Prop
  | non : Rp M H .non .none
  | bl (b : Bool) : Rp M H (.bl b) (.bool b)
  | int (i : Int) : Rp M H (.int i) (.int i)
  | str (x : Str) : Rp M H (.str x) (.str x)
  | lst {a : Addr} {xs : List V} {ds : List PyData} : ¬ M a → H a = some (.lst xs) → xs.length = ds.length → (∀ (i : Nat) (x : V) (d : PyData), xs[i]? = some x → ds[i]? = some d → Rp M H x d) → Rp M H (.ref a) (.list ds)
  | tup {a : Addr} {xs : List V} {ds : List PyData} : H a = some (.tup xs) → xs.length = ds.length → (∀ (i : Nat) (x : V) (d : PyData), xs[i]? = some x → ds[i]? = some d → Rp M H x d) → Rp M H (.ref a) (.tuple ds)
/-- item by item -/
def RpA (M : Addr → Prop) (H : Hp) (xs : List V) (ds : List PyData) : Prop := xs.length = ds.length ∧ ∀ (i : Nat) (x : V) (d : PyData), xs[i]? = some x → ds[i]? = some d → Rp M H x d

section
variable {M M' : Addr → Prop} {H H' : Hp} {v x : V} {d : PyData} {xs ys : List V} {ds es : List PyData} {a : Addr}
theorem RpA.nil : RpA M H [] [] := ⟨rfl, fun i x d h => by simp at h⟩
theorem RpA.cons (h : Rp M H x d) (t : RpA M H xs ds) : RpA M H (x :: xs) (d :: ds) := by
  refine ⟨by simp [t.1], fun i y e h1 h2 => ?_⟩
  cases i with
  | zero => simp at h1 h2; subst h1; subst h2; exact h
  | succ i => exact t.2 i y e (by simpa using h1) (by simpa using h2)
theorem RpA.head (h : RpA M H (x :: xs) (d :: ds)) : Rp M H x d := h.2 0 x d rfl rfl
theorem RpA.tail (h : RpA M H (x :: xs) (d :: ds)) : RpA M H xs ds := ⟨by simpa using h.1, fun i y e h1 h2 => h.2 (i + 1) y e (by simpa using h1) (by simpa using h2)⟩
theorem RpA.append (h : RpA M H xs ds) (t : RpA M H ys es) : RpA M H (xs ++ ys) (ds ++ es) := by
  refine ⟨by simp [h.1, t.1], fun i y e h1 h2 => ?_⟩
  by_cases hi : i < xs.length
  · rw [List.getElem?_append_left hi] at h1
    rw [List.getElem?_append_left (by rw [← h.1]; exact hi)] at h2
    exact h.2 i y e h1 h2
  · rw [List.getElem?_append_right (by omega)] at h1
    rw [List.getElem?_append_right (by rw [← h.1]; omega), ← h.1] at h2
    exact t.2 _ y e h1 h2
theorem RpA.snoc (h : RpA M H xs ds) (t : Rp M H x d) : RpA M H (xs ++ [x]) (ds ++ [d]) := h.append (RpA.nil.cons t)
theorem RpA.at (h : RpA M H xs ds) {i : Nat} (e : ds[i]? = some d) : ∃ x, xs[i]? = some x ∧ Rp M H x d := by
  have hi : i < ds.length := (List.getElem?_eq_some_iff.mp e).1
  have hx : i < xs.length := by rw [h.1]; exact hi
  exact ⟨xs[i], List.getElem?_eq_getElem hx, h.2 i _ _ (List.getElem?_eq_getElem hx) e⟩
theorem RpA.atx (h : RpA M H xs ds) {i : Nat} (e : xs[i]? = some x) : ∃ d, ds[i]? = some d ∧ Rp M H x d := by
  have hi : i < xs.length := (List.getElem?_eq_some_iff.mp e).1
  have hx : i < ds.length := by rw [← h.1]; exact hi
  exact ⟨ds[i], List.getElem?_eq_getElem hx, h.2 i _ _ e (List.getElem?_eq_getElem hx)⟩
theorem Rp.lstA (m : ¬ M a) (h : H a = some (.lst xs)) (r : RpA M H xs ds) : Rp M H (.ref a) (.list ds) := .lst m h r.1 r.2
theorem Rp.tupA (h : H a = some (.tup xs)) (r : RpA M H xs ds) : Rp M H (.ref a) (.tuple ds) := .tup h r.1 r.2
theorem Rp.int_inv {i : Int} (h : Rp M H v (.int i)) : v = .int i := by cases h; rfl
theorem Rp.str_inv {i : Str} (h : Rp M H v (.str i)) : v = .str i := by cases h; rfl
theorem Rp.bool_inv {i : Bool} (h : Rp M H v (.bool i)) : v = .bl i := by cases h; rfl
theorem Rp.none_inv (h : Rp M H v .none) : v = .non := by cases h; rfl
theorem Rp.tup_inv (h : Rp M H v (.tuple ds)) : ∃ a xs, v = .ref a ∧ H a = some (.tup xs) ∧ RpA M H xs ds := by
  cases h with
  | tup h1 h2 h3 => exact ⟨_, _, rfl, h1, h2, h3⟩
theorem Rp.lst_inv (h : Rp M H v (.list ds)) : ∃ a xs, v = .ref a ∧ ¬ M a ∧ H a = some (.lst xs) ∧ RpA M H xs ds := by
  cases h with
  | lst h0 h1 h2 h3 => exact ⟨_, _, rfl, h0, h1, h2, h3⟩
/-- what lists and tuples of H there are stand in H' too -/
structure Ext (M M' : Addr → Prop) (H H' : Hp) : Prop where
  tup : ∀ a xs, H a = some (.tup xs) → H' a = some (.tup xs)
  lst : ∀ a xs, ¬ M a → H a = some (.lst xs) → ¬ M' a ∧ H' a = some (.lst xs)
theorem Rp.ext (h : Rp M H v d) (e : Ext M M' H H') : Rp M' H' v d := by
  induction h with
  | non => exact .non
  | bl b => exact .bl b
  | int i => exact .int i
  | str x => exact .str x
  | lst h0 h1 h2 h3 ih => exact .lst (e.lst _ _ h0 h1).1 (e.lst _ _ h0 h1).2 h2 ih
  | tup h1 h2 h3 ih => exact .tup (e.tup _ _ h1) h2 ih
theorem Ext.same (s : Same H H') : Ext M M H H' := ⟨fun a xs h => s a _ h, fun a xs m h => ⟨m, s a _ h⟩⟩
theorem Rp.same (h : Rp M H v d) (s : Same H H') : Rp M H' v d := h.ext (.same s)
theorem RpA.ext (h : RpA M H xs ds) (e : Ext M M' H H') : RpA M' H' xs ds := ⟨h.1, fun i x d h1 h2 => (h.2 i x d h1 h2).ext e⟩
theorem RpA.same (h : RpA M H xs ds) (s : Same H H') : RpA M H' xs ds := h.ext (.same s)
/-- .. as the layer's own data -/
theorem dpAll_of {K : Frag} : ∀ {xs : List V} {ds : List PyData}, xs.length = ds.length → (∀ (i : Nat) (x : V) (d : PyData), xs[i]? = some x → ds[i]? = some d → Dp K H x d) → DpAll K H xs ds
  | [], [], _, _ => .nil
  | x :: xs, d :: ds, h, k => .cons (k 0 x d rfl rfl) (dpAll_of (by simpa using h) fun i y e h1 h2 => k (i + 1) y e (by simpa using h1) (by simpa using h2))
  | [], _ :: _, h, _ => by simp at h
  | _ :: _, [], h, _ => by simp at h
theorem Rp.dp {K : Frag} (h : Rp M H v d) : Dp K H v d := by
  induction h with
  | non => exact .non
  | bl b => exact .bl b
  | int i => exact .int i
  | str x => exact .str x
  | lst h0 h1 h2 h3 ih => exact .lst (SqL.of h1) (dpAll_of h2 ih)
  | tup h1 h2 h3 ih => exact .tup (SqT.of h1) (dpAll_of h2 ih)
/-- data of ints -/
theorem RpA.ints : ∀ {ns : List Int}, RpA M H (ns.map V.int) (ns.map PyData.int)
  | [] => RpA.nil
  | n :: ns => RpA.cons (.int n) RpA.ints
theorem RpA.ints_inv : ∀ {ns : List Int} {xs : List V}, RpA M H xs (ns.map PyData.int) → xs = ns.map V.int
  | [], [], _ => rfl
  | [], x :: xs, h => by have := h.1; simp at this
  | n :: ns, [], h => by have := h.1; simp at this
  | n :: ns, x :: xs, h => by
    have h1 := h.head.int_inv
    have h2 := RpA.ints_inv h.tail
    rw [h1, h2, List.map_cons]
end
end Sb

set_option Elab.async false
set_option maxRecDepth 100000
set_option maxHeartbeats 4000000
set_option linter.all false
/-! Steps of a reading, one a rule. -/
namespace Sb
open PySem L2
section
variable {K : Frag} {σ : L2.St} {H : Hp} {Q : VK} {QT : Bool → Hp → Prop} {QA : List V → Hp → Prop} {D : Ends} {ta tb te : TE} {tt t1 t2 : TT} {tr : TA} {ts tu : TS} {i : Nat} {v x y : V} {b : Bool}
theorem w_var (h : σ[i]? = some (some v)) (q : Q v H) : tVar i σ H Q := ⟨v, h, q⟩
theorem w_c (q : Q v H) : tC v σ H Q := q
theorem w_nil (q : QA [] H) : tNil σ H QA := q
theorem w_cons (q : ta σ H fun x H1 => tr σ H1 fun xs H2 => QA (x :: xs) H2) : tCons ta tr σ H QA := q
theorem w_op {r : R2} (q : ta σ H fun x H1 => tb σ H1 fun y H2 => r x y H2 Q) : tOp r ta tb σ H Q := q
theorem w_un {r : V → Hp → VK → Prop} (q : ta σ H fun x H1 => r x H1 Q) : tUn r ta σ H Q := q
theorem w_test (q : te σ H fun x H1 => ∃ k, x = .bl k ∧ QT k H1) : tTest te σ H QT := q
theorem w_tB (q : te σ H fun x H1 => ∃ k, x = .bl k ∧ QT k H1) : tB te σ H QT := q
theorem w_bl {R : Bool → Prop} (q : R b) : ∃ k, V.bl b = V.bl k ∧ R k := ⟨b, rfl, q⟩
theorem w_and (q : t1 σ H fun c H1 => if c = true then t2 σ H1 QT else QT false H1) : tAnd t1 t2 σ H QT := q
theorem w_or (q : t1 σ H fun c H1 => if c = true then QT true H1 else t2 σ H1 QT) : tOr t1 t2 σ H QT := q
theorem w_not (q : tt σ H fun c H1 => QT (!c) H1) : tNot tt σ H QT := q
theorem w_andV (q : ta σ H fun x H1 => ∃ c, x = .bl c ∧ if c = true then tb σ H1 Q else Q (.bl false) H1) : tAndV ta tb σ H Q := q
theorem w_orV (q : ta σ H fun x H1 => ∃ c, x = .bl c ∧ if c = true then Q (.bl true) H1 else tb σ H1 Q) : tOrV ta tb σ H Q := q
theorem w_notV (q : ta σ H fun x H1 => ∃ c, x = .bl c ∧ Q (.bl (!c)) H1) : tNotV ta σ H Q := q
theorem w_if (q : tt σ H fun c H1 => if c = true then ta σ H1 Q else tb σ H1 Q) : tIf tt ta tb σ H Q := q
theorem w_ifS (q : tt σ H fun c H1 => if c = true then ts D σ H1 else tu D σ H1) : tIfS tt ts tu D σ H := q
theorem w_seq (q : ts { D with nx := tu D } σ H) : tSeq ts tu D σ H := q
theorem w_set (q : te σ H fun x H1 => D.nx (σ.set i (some x)) H1) : tAsg te (gName i) D σ H := q
theorem w_asg {g : TG} (q : te σ H fun x H1 => g x σ H1 D.nx) : tAsg te g D σ H := q
theorem w_ret (q : te σ H D.rt) : tRet te D σ H := q
theorem w_retN (q : D.rt .non H) : tRetN D σ H := q
theorem w_drop (q : te σ H fun _ H1 => D.nx σ H1) : tDrop te D σ H := q
theorem w_next (q : D.nx σ H) : tNext D σ H := q
theorem w_gName {Qs : L2.St → Hp → Prop} (q : Qs (σ.set i (some v)) H) : gName i v σ H Qs := q
theorem w_I0 {g : Int → Int → V} {i j : Int} (q : Q (g i j) H) : rI0 g (.int i) (.int j) H Q := ⟨i, j, rfl, rfl, q⟩
theorem w_I {C : Int → Int → Prop} {g : Int → Int → V} {i j : Int} (c : C i j) (q : Q (g i j) H) : rI C g (.int i) (.int j) H Q := ⟨i, j, rfl, rfl, c, q⟩
theorem w_eq (h : scal x y = true) (q : Q (.bl (decide (x = y))) H) : rEq x y H Q := ⟨h, q⟩
theorem w_ne (h : scal x y = true) (q : Q (.bl (!decide (x = y))) H) : rNe x y H Q := ⟨h, q⟩
theorem w_CB {r : List V → Hp → VK → Prop} (q : tr σ H fun vs H1 => r vs H1 Q) : tCB r tr σ H Q := q
theorem w_call {sp : Sp} {dvs : List V} {E : XK} (q : tr σ H fun vs H1 => sp (vs ++ dvs) H1 Q E) : tCall sp dvs E tr σ H Q := q
theorem w_callS {sp : Sp} {E : L2.St → XK} (q : tr σ H fun vs H1 => sp vs H1 Q (E σ)) : tCallS sp E tr σ H Q := q
end
end Sb

set_option Elab.async false
set_option maxRecDepth 100000
set_option maxHeartbeats 4000000
set_option linter.all false
/-! Comprehensions whose turns only add to the heap: the new list's data, item by item. -/
namespace Sb
open PySem L2
/-- a new address is not among the changing ones -/
def Fr (M : Addr → Prop) (H : Hp) : Prop := ∀ a, H a = none → ¬ M a
theorem Fr.same {M : Addr → Prop} {H H' : Hp} (f : Fr M H) (s : Same H H') : Fr M H' := fun a h => f a (s.free h)
section
variable {M M' M'' : Addr → Prop} {H H' H'' : Hp} {v x : V} {d : PyData} {xs ys : List V} {ds es : List PyData} {a p : Addr} {o : HO}
theorem Ext.trans (e : Ext M M' H H') (e' : Ext M' M'' H' H'') : Ext M M'' H H'' :=
  ⟨fun a xs h => e'.tup a xs (e.tup a xs h), fun a xs m h => e'.lst a xs (e.lst a xs m h).1 (e.lst a xs m h).2⟩
/-- one address more changes: it was new -/
theorem Ext.fresh (s : Same H H') (h : H p = none) : Ext M (fun a => M a ∨ a = p) H H' :=
  ⟨fun a xs e => s a _ e, fun a xs m e => ⟨fun z => z.elim m fun z => (by subst z; rw [h] at e; cases e), s a _ e⟩⟩
/-- fewer change -/
theorem Ext.less (k : ∀ a, M' a → M a) : Ext M M' H H := ⟨fun _ _ e => e, fun a xs m e => ⟨fun z => m (k a z), e⟩⟩
/-- the changing one is written -/
theorem Ext.write (m : M p) (hp : ∀ xs, H p ≠ some (.tup xs)) : Ext M M H (upd H p o) := by
  refine ⟨fun a xs e => ?_, fun a xs n e => ⟨n, ?_⟩⟩
  · rw [upd_ne (fun z => by subst z; exact hp xs e)]; exact e
  · rw [upd_ne (fun z => by subst z; exact n m)]; exact e
theorem Same.new (h : H p = none) : Same H (upd H p o) := fun b u e => by rw [upd_ne (ne_of_none e h)]; exact e
theorem Same.mut (s : Same H H') (h : H p = none) : Same H (upd H' p o) := fun b u e => by rw [upd_ne (ne_of_none e h)]; exact s b u e
/-- one turn of a comprehension -/
abbrev LcItem (g : TG) (tt : TT) (te : TE) (vs : List Nat) (σ : L2.St) (x : V) (H : Hp) (Yes : V → Hp → Prop) (No : Hp → Prop) : Prop :=
  g x (wipe σ vs) H fun σ2 H2 => wipe σ2 vs = wipe σ vs ∧ tt σ2 H2 fun b H3 => if b = true then te σ2 H3 Yes else No H3
/-- what stands between two turns -/
def LcInv (M : Addr → Prop) (H1 : Hp) (D : Addr) (es : List PyData) (H : Hp) : Prop := Same H1 H ∧ ∃ ys, H D = some (.lst ys) ∧ RpA (fun a => M a ∨ a = D) H ys es
variable {g : TG} {tt : TT} {te : TE} {vs : List Nat} {σ : L2.St} {H1 : Hp} {D : Addr} {Qd : Addr → Hp → Prop}
theorem LcInv.start (hD : H1 D = none) : LcInv M H1 D [] (upd H1 D (.lst [])) := ⟨Same.new hD, [], upd_same, RpA.nil⟩
theorem LcInv.more {Hx H4 : Hp} {y : V} {e : PyData} (hD : H1 D = none) (w : LcInv M H1 D es Hx) (s : Same Hx H4) (r : Rp (fun a => M a ∨ a = D) H4 y e) (hl : es.length < sizeLine) :
    ∃ acc, H4 D = some (.lst acc) ∧ acc.length < sizeLine ∧ LcInv M H1 D (es ++ [e]) (upd H4 D (.lst (acc ++ [y]))) := by
  obtain ⟨s1, ys, hy, ra⟩ := w
  have h4 := s D _ hy
  have ex : Ext (fun a => M a ∨ a = D) (fun a => M a ∨ a = D) H4 (upd H4 D (.lst (ys ++ [y]))) := Ext.write (.inr rfl) fun xs z => by rw [h4] at z; cases z
  refine ⟨ys, h4, by rw [ra.1]; exact hl, Same.mut (Same.trans s1 s) hD, _, upd_same, ?_⟩
  exact ((ra.same s).snoc r).ext ex
theorem LcInv.out (fr : Fr M H1) (hD : H1 D = none) (w : LcInv M H1 D es H) : Same H1 H ∧ Rp M H (.ref D) (.list es) := by
  obtain ⟨s, ys, hy, ra⟩ := w
  exact ⟨s, .lstA (fr D hD) hy (ra.ext (Ext.less fun a z => .inl z))⟩
theorem LcInv.ext (hD : H1 D = none) (w : LcInv M H1 D es H) : Ext M (fun a => M a ∨ a = D) H1 H := Ext.fresh w.1 hD
theorem LcInv.fr (fr : Fr M H1) (w : LcInv M H1 D es H) : Fr (fun a => M a ∨ a = D) H := fun a h z => by
  rcases z with z | z
  · exact fr a (w.1.free h) z
  · obtain ⟨_, ys, hy, _⟩ := w
    rw [z, hy] at h; cases h
theorem fm_take {δ : Type} {f : δ → Option PyData} {ds : List δ} {i : Nat} {d : δ} (h : ds[i]? = some d) : (ds.take (i + 1)).filterMap f = (ds.take i).filterMap f ++ (f d).toList := by
  have hi := (List.getElem?_eq_some_iff.mp h).1
  have e : ds.take (i + 1) = ds.take i ++ [d] := by
    rw [List.take_succ, h]; rfl
  rw [e, List.filterMap_append]
  cases q : f d <;> simp [q]
/-- over a list -/
theorem lcL {K : Frag} {δ : Type} {a : Addr} {xs : List V} (ds : List δ) (f : δ → Option PyData) (M : Addr → Prop) (fr : Fr M H1) (hl : SqL K H1 a xs) (hlen : xs.length = ds.length) (hz : ds.length ≤ sizeLine)
    (hs : ∀ (i : Nat) (x : V) (d : δ) (H2 : Hp) (M' : Addr → Prop) (Yes : V → Hp → Prop) (No : Hp → Prop), xs[i]? = some x → ds[i]? = some d → Same H1 H2 → Ext M M' H1 H2 → Fr M' H2 → (∀ y H4 e, f d = some e → Same H2 H4 → Rp M' H4 y e → Yes y H4) → (∀ H4, f d = none → Same H2 H4 → No H4) → LcItem g tt te vs σ x H2 Yes No)
    (hd : ∀ D H', H1 D = none → Same H1 H' → Rp M H' (.ref D) (.list (ds.filterMap f)) → Qd D H') :
    ∀ D, H1 D = none → ∃ W : Nat → Nat → Hp → Prop, (∃ m, W 0 m (upd H1 D (.lst []))) ∧ ∀ i m H, W i m H →
      ((Itl K a).stop i H ∧ Qd D H) ∨ ((Itl K a).go i H ∧ ∃ Nx : Hp → Prop, (∀ H', Nx H' → ∃ m', m' < m ∧ W (i + 1) m' H') ∧ ∀ x H', (Itl K a).yld i H x H' → g x (wipe σ vs) H' fun σ2 H2 => wipe σ2 vs = wipe σ vs ∧ tt σ2 H2 fun b H3 =>
        if b = true then te σ2 H3 fun y H4 => ∃ acc, H4 D = some (.lst acc) ∧ acc.length < sizeLine ∧ Nx (upd H4 D (.lst (acc ++ [y]))) else Nx H3) := by
  intro D hD
  refine lc_list (K := K) (a := a) (xs := xs) (fun i H => LcInv M H1 D ((ds.take i).filterMap f) H) (by simpa using LcInv.start hD) (fun i H _ w => w.1.seq hl) (fun i x H hx w => ?_) (fun H w => ?_)
  · obtain ⟨d, hdd⟩ : ∃ d, ds[i]? = some d := by
      have := (List.getElem?_eq_some_iff.mp hx).1
      exact ⟨_, List.getElem?_eq_getElem (by omega)⟩
    have hi := (List.getElem?_eq_some_iff.mp hdd).1
    refine hs i x d H _ (fun y H4 => _) (fun H4 => _) hx hdd w.1 (w.ext hD) (w.fr fr) (fun y H4 e he s r => ?_) (fun H4 he s => ?_)
    · obtain ⟨acc, h1, h2, h3⟩ := w.more hD s r (Nat.lt_of_le_of_lt (List.length_filterMap_le f (ds.take i)) (by rw [List.length_take]; omega))
      refine ⟨acc, h1, h2, ?_⟩
      rw [fm_take hdd, he]; exact h3
    · rw [fm_take hdd, he]
      obtain ⟨s1, ys, hy, ra⟩ := w
      exact ⟨Same.trans s1 s, ys, s _ _ hy, by simpa using ra.same s⟩
  · rw [hlen, List.take_length] at w
    obtain ⟨s, r⟩ := w.out fr hD
    exact hd D H hD s r
/-- over a tuple -/
theorem lcT {K : Frag} {δ : Type} {a : Addr} {xs : List V} (ds : List δ) (f : δ → Option PyData) (M : Addr → Prop) (fr : Fr M H1) (hl : H1 a = some (.tup xs)) (hlen : xs.length = ds.length) (hz : ds.length ≤ sizeLine)
    (hs : ∀ (i : Nat) (x : V) (d : δ) (H2 : Hp) (M' : Addr → Prop) (Yes : V → Hp → Prop) (No : Hp → Prop), xs[i]? = some x → ds[i]? = some d → Same H1 H2 → Ext M M' H1 H2 → Fr M' H2 → (∀ y H4 e, f d = some e → Same H2 H4 → Rp M' H4 y e → Yes y H4) → (∀ H4, f d = none → Same H2 H4 → No H4) → LcItem g tt te vs σ x H2 Yes No)
    (hd : ∀ D H', H1 D = none → Same H1 H' → Rp M H' (.ref D) (.list (ds.filterMap f)) → Qd D H') :
    ∀ D, H1 D = none → ∃ W : Nat → Nat → Hp → Prop, (∃ m, W 0 m (upd H1 D (.lst []))) ∧ ∀ i m H, W i m H →
      ((Itt K a).stop i H ∧ Qd D H) ∨ ((Itt K a).go i H ∧ ∃ Nx : Hp → Prop, (∀ H', Nx H' → ∃ m', m' < m ∧ W (i + 1) m' H') ∧ ∀ x H', (Itt K a).yld i H x H' → g x (wipe σ vs) H' fun σ2 H2 => wipe σ2 vs = wipe σ vs ∧ tt σ2 H2 fun b H3 =>
        if b = true then te σ2 H3 fun y H4 => ∃ acc, H4 D = some (.lst acc) ∧ acc.length < sizeLine ∧ Nx (upd H4 D (.lst (acc ++ [y]))) else Nx H3) := by
  intro D hD
  refine lc_tup (K := K) (a := a) (xs := xs) (fun i H => LcInv M H1 D ((ds.take i).filterMap f) H) (by simpa using LcInv.start hD) (fun i H _ w => SqT.of (w.1 a _ hl)) (fun i x H hx w => ?_) (fun H w => ?_)
  · obtain ⟨d, hdd⟩ : ∃ d, ds[i]? = some d := by
      have := (List.getElem?_eq_some_iff.mp hx).1
      exact ⟨_, List.getElem?_eq_getElem (by omega)⟩
    have hi := (List.getElem?_eq_some_iff.mp hdd).1
    refine hs i x d H _ (fun y H4 => _) (fun H4 => _) hx hdd w.1 (w.ext hD) (w.fr fr) (fun y H4 e he s r => ?_) (fun H4 he s => ?_)
    · obtain ⟨acc, h1, h2, h3⟩ := w.more hD s r (Nat.lt_of_le_of_lt (List.length_filterMap_le f (ds.take i)) (by rw [List.length_take]; omega))
      refine ⟨acc, h1, h2, ?_⟩
      rw [fm_take hdd, he]; exact h3
    · rw [fm_take hdd, he]
      obtain ⟨s1, ys, hy, ra⟩ := w
      exact ⟨Same.trans s1 s, ys, s _ _ hy, by simpa using ra.same s⟩
  · rw [hlen, List.take_length] at w
    obtain ⟨s, r⟩ := w.out fr hD
    exact hd D H hD s r
/-- over a range -/
theorem lcR {lo : Int} (n : Nat) (f : Nat → Option PyData) (M : Addr → Prop) (fr : Fr M H1) (hz : n ≤ sizeLine)
    (hs : ∀ (i : Nat) (H2 : Hp) (M' : Addr → Prop) (Yes : V → Hp → Prop) (No : Hp → Prop), i < n → Same H1 H2 → Ext M M' H1 H2 → Fr M' H2 → (∀ y H4 e, f i = some e → Same H2 H4 → Rp M' H4 y e → Yes y H4) → (∀ H4, f i = none → Same H2 H4 → No H4) → LcItem g tt te vs σ (.int (lo + i)) H2 Yes No)
    (hd : ∀ D H', H1 D = none → Same H1 H' → Rp M H' (.ref D) (.list ((List.range n).filterMap f)) → Qd D H') :
    ∀ D, H1 D = none → ∃ W : Nat → Nat → Hp → Prop, (∃ m, W 0 m (upd H1 D (.lst []))) ∧ ∀ i m H, W i m H →
      ((Itr lo n).stop i H ∧ Qd D H) ∨ ((Itr lo n).go i H ∧ ∃ Nx : Hp → Prop, (∀ H', Nx H' → ∃ m', m' < m ∧ W (i + 1) m' H') ∧ ∀ x H', (Itr lo n).yld i H x H' → g x (wipe σ vs) H' fun σ2 H2 => wipe σ2 vs = wipe σ vs ∧ tt σ2 H2 fun b H3 =>
        if b = true then te σ2 H3 fun y H4 => ∃ acc, H4 D = some (.lst acc) ∧ acc.length < sizeLine ∧ Nx (upd H4 D (.lst (acc ++ [y]))) else Nx H3) := by
  intro D hD
  refine lc_range (fun i H => LcInv M H1 D ((List.range i).filterMap f) H) (by simpa using LcInv.start hD) (fun i H hi w => ?_) (fun H w => ?_)
  · have er : (List.range (i + 1)).filterMap f = (List.range i).filterMap f ++ (f i).toList := by
      rw [List.range_succ, List.filterMap_append]
      cases q : f i <;> simp [q]
    refine hs i H _ (fun y H4 => _) (fun H4 => _) hi w.1 (w.ext hD) (w.fr fr) (fun y H4 e he s r => ?_) (fun H4 he s => ?_)
    · obtain ⟨acc, h1, h2, h3⟩ := w.more hD s r (Nat.lt_of_le_of_lt (List.length_filterMap_le f (List.range i)) (by rw [List.length_range]; omega))
      refine ⟨acc, h1, h2, ?_⟩
      rw [er, he]; exact h3
    · rw [er, he]
      obtain ⟨s1, ys, hy, ra⟩ := w
      exact ⟨Same.trans s1 s, ys, s _ _ hy, by simpa using ra.same s⟩
  · obtain ⟨s, r⟩ := w.out fr hD
    exact hd D H hD s r
end
end Sb

set_option Elab.async false
set_option maxRecDepth 100000
set_option maxHeartbeats 4000000
set_option linter.all false
/-! Marks as data; places; steps that want a fact of the data. -/
namespace Sb
open PySem L2
def markD (m : List Int) : PyData := .tuple (m.map PyData.int)
def joinM (a b : List Int) : List Int := List.zipWith max a b
section
variable {K : Frag} {M : Addr → Prop} {H : Hp} {v x y : V} {d : PyData} {xs : List V} {ds : List PyData} {a : Addr} {Q : VK} {i : Int} {m : List Int}
theorem ixN_nat {n : Nat} {i : Int} {j : Nat} (e : i = (j : Int)) (h : j < n) : ixN n i = some j := by
  unfold ixN
  subst e
  rw [if_pos (by omega), if_pos (by omega)]
  simp
theorem Rp.mark {M' : Addr → Prop} (h : Rp M H v (markD m)) : Rp M' H v (markD m) := by
  obtain ⟨a, xs, rfl, ha, r⟩ := Rp.tup_inv (ds := m.map PyData.int) h
  rw [r.ints_inv] at ha
  exact .tupA ha RpA.ints
/-- what stood already -/
def Old (H : Hp) : Addr → Prop := fun a => H a ≠ none
theorem fr_old (H : Hp) : Fr (Old H) H := fun a h z => z h
theorem Rp.old {M : Addr → Prop} {H H' : Hp} {v : V} {d : PyData} (fr : Fr M H) (h : Rp (Old H) H' v d) : Rp M H' v d := h.ext (Ext.less fun a m z => fr a z m)
theorem Rp.older {H0 H H' : Hp} {v : V} {d : PyData} (s : Same H0 H) (h : Rp (Old H) H' v d) : Rp (Old H0) H' v d := h.ext (Ext.less fun a m z => m (s.free z))
/-- t[i] of data -/
theorem w_ixT (j : Nat) (h : Rp M H x (.tuple ds)) (ei : i = (j : Int)) (e : ds[j]? = some d) (q : ∀ v, Rp M H v d → Q v H) : rIxT K x (.int i) H Q := by
  obtain ⟨a, xs, rfl, ha, r⟩ := h.tup_inv
  obtain ⟨v, hv, rv⟩ := r.at e
  exact ⟨a, xs, i, v, rfl, rfl, SqT.of ha, by rw [ei]; exact atI_nat hv, q v rv⟩
theorem w_ixL (j : Nat) (h : Rp M H x (.list ds)) (ei : i = (j : Int)) (e : ds[j]? = some d) (q : ∀ v, Rp M H v d → Q v H) : rIxL K x (.int i) H Q := by
  obtain ⟨a, xs, rfl, _, ha, r⟩ := h.lst_inv
  obtain ⟨v, hv, rv⟩ := r.at e
  exact ⟨a, xs, i, v, rfl, rfl, SqL.of ha, by rw [ei]; exact atI_nat hv, q v rv⟩
theorem w_ixM (j : Nat) (h : Rp M H x (markD m)) (ei : i = (j : Int)) (hj : j < m.length) (q : Q (.int (m.getD j 0)) H) : rIxT K x (.int i) H Q := by
  refine w_ixT j h ei (d := .int (m.getD j 0)) ?_ fun v r => ?_
  · rw [List.getElem?_map, List.getD_eq_getElem?_getD, List.getElem?_eq_getElem hj]; rfl
  · rw [r.int_inv]; exact q
/-- a display -/
def rNewT (xs : List V) (H : Hp) (Q : VK) : Prop := xs.length ≤ sizeLine ∧ ∀ p, H p = none → Q (.ref p) (upd H p (.tup xs))
def rNewL (xs : List V) (H : Hp) (Q : VK) : Prop := xs.length ≤ sizeLine ∧ ∀ p, H p = none → Q (.ref p) (upd H p (.lst xs))
theorem w_tTup {t : TA} {σ : L2.St} (q : t σ H fun xs H1 => rNewT xs H1 Q) : tTup t σ H Q := q
theorem w_tLst {t : TA} {σ : L2.St} (q : t σ H fun xs H1 => rNewL xs H1 Q) : tLst t σ H Q := q
theorem w_newT (r : RpA M H xs ds) (hl : xs.length ≤ sizeLine) (q : ∀ v H2, Same H H2 → Rp M H2 v (.tuple ds) → Q v H2) : rNewT xs H Q :=
  ⟨hl, fun p hp => q _ _ (Same.new hp) (.tupA upd_same (r.same (Same.new hp)))⟩
theorem w_newL (fr : Fr M H) (r : RpA M H xs ds) (hl : xs.length ≤ sizeLine) (q : ∀ v H2, Same H H2 → Rp M H2 v (.list ds) → Q v H2) : rNewL xs H Q :=
  ⟨hl, fun p hp => q _ _ (Same.new hp) (.lstA (fr p hp) upd_same (r.same (Same.new hp)))⟩
theorem sz_small {n : Nat} (h : n ≤ 100000) : n ≤ sizeLine := Nat.le_trans h (by decide)
theorem sz_smallL {n : Nat} (h : n < 100000) : n < sizeLine := Nat.lt_of_lt_of_le h (by decide)
/-! named readings of calls -/
def rTup (K : Frag) : List V → Hp → VK → Prop := fun xs H Q => ∃ p ys, xs = [.ref p] ∧ ((SqL K H p ys ∧ ∀ l, H l = none → Q (.ref l) (upd H l (.tup ys))) ∨ (SqT K H p ys ∧ Q (.ref p) H))
theorem cl_tup {X : Cx} : CallR X (.type "tuple") (rTup X.K) := call_tuple_of
def rLst (K : Frag) : List V → Hp → VK → Prop := fun xs H Q => ∃ p ys, xs = [.ref p] ∧ (SqL K H p ys ∨ SqT K H p ys) ∧ ∀ l, H l = none → Q (.ref l) (upd H l (.lst ys))
theorem cl_lst {X : Cx} : CallR X (.type "list") (rLst X.K) := call_list_of
def rLen (K : Frag) : List V → Hp → VK → Prop := fun xs H Q => ∃ p ys, xs = [.ref p] ∧ (SqL K H p ys ∨ SqT K H p ys) ∧ Q (.int ys.length) H
theorem cl_len {X : Cx} : CallR X (.builtin "len") (rLen X.K) := call_len_seq
def rMx : List V → Hp → VK → Prop := fun xs H Q => ∃ i j, xs = [.int i, .int j] ∧ Q (.int (if j > i then j else i)) H
theorem cl_max {X : Cx} (hc : X.calm = true) : CallR X (.builtin "max") rMx := call_max2 hc
/-- tuple(x), list(x) of new lists and tuples -/
theorem w_tupleL (h : Rp M H x (.list ds)) (q : ∀ v H2, Same H H2 → Rp M H2 v (.tuple ds) → Q v H2) : rTup K [x] H Q := by
  obtain ⟨a, xs, rfl, m, ha, r⟩ := h.lst_inv
  exact ⟨a, xs, rfl, .inl ⟨SqL.of ha, fun l hl => q _ _ (Same.new hl) (.tupA upd_same (r.same (Same.new hl)))⟩⟩
theorem w_listT (fr : Fr M H) (h : Rp M H x (.tuple ds)) (q : ∀ v H2, Same H H2 → Rp M H2 v (.list ds) → Q v H2) : rLst K [x] H Q := by
  obtain ⟨a, xs, rfl, ha, r⟩ := h.tup_inv
  exact ⟨a, xs, rfl, .inr (SqT.of ha), fun l hl => q _ _ (Same.new hl) (.lstA (fr l hl) upd_same (r.same (Same.new hl)))⟩
theorem w_listL (fr : Fr M H) (h : Rp M H x (.list ds)) (q : ∀ v H2, Same H H2 → Rp M H2 v (.list ds) → Q v H2) : rLst K [x] H Q := by
  obtain ⟨a, xs, rfl, m, ha, r⟩ := h.lst_inv
  exact ⟨a, xs, rfl, .inl (SqL.of ha), fun l hl => q _ _ (Same.new hl) (.lstA (fr l hl) upd_same (r.same (Same.new hl)))⟩
/-- len -/
theorem w_lenT (h : Rp M H x (.tuple ds)) (q : Q (.int ds.length) H) : rLen K [x] H Q := by
  obtain ⟨a, xs, rfl, ha, r⟩ := h.tup_inv
  exact ⟨a, xs, rfl, .inr (SqT.of ha), by rw [r.1]; exact q⟩
theorem w_lenL (h : Rp M H x (.list ds)) (q : Q (.int ds.length) H) : rLen K [x] H Q := by
  obtain ⟨a, xs, rfl, m, ha, r⟩ := h.lst_inv
  exact ⟨a, xs, rfl, .inl (SqL.of ha), by rw [r.1]; exact q⟩
theorem w_lenM (h : Rp M H x (markD m)) (q : Q (.int m.length) H) : rLen K [x] H Q := w_lenT h (by rw [List.length_map]; exact q)
theorem w_lenS (h : SqL K H a xs) (q : Q (.int xs.length) H) : rLen K [.ref a] H Q := ⟨a, xs, rfl, .inl h, q⟩
theorem w_max {i j : Int} (q : Q (.int (max i j)) H) : rMx [.int i, .int j] H Q := by
  refine ⟨i, j, rfl, ?_⟩
  have e : (if j > i then j else i) = max i j := by
    rw [Int.max_def]; split <;> split <;> omega
  rw [e]; exact q
/-- a comprehension's beginning -/
theorem w_lc {wi : TI} {g : TG} {tt : TT} {te : TE} {vs : List Nat} {σ : L2.St} (q : wi σ H fun J H1 => ∀ D, H1 D = none → ∃ W : Nat → Nat → Hp → Prop, (∃ m, W 0 m (upd H1 D (.lst []))) ∧ ∀ i m H, W i m H →
  (J.stop i H ∧ Q (.ref D) H) ∨ (J.go i H ∧ ∃ Nx : Hp → Prop, (∀ H', Nx H' → ∃ m', m' < m ∧ W (i + 1) m' H') ∧ ∀ x H', J.yld i H x H' → g x (wipe σ vs) H' fun σ2 H2 => wipe σ2 vs = wipe σ vs ∧ tt σ2 H2 fun b H3 =>
    if b = true then te σ2 H3 fun y H4 => ∃ acc, H4 D = some (.lst acc) ∧ acc.length < sizeLine ∧ Nx (upd H4 D (.lst (acc ++ [y]))) else Nx H3)) : tLc wi g tt te vs σ H Q := q
/-- a turn without a test, with one -/
theorem w_it0 {te : TE} {vs : List Nat} {σ : L2.St} {i : Nat} {Yes : V → Hp → Prop} {No : Hp → Prop} (hw : wipe ((wipe σ vs).set i (some x)) vs = wipe σ vs) (q : te ((wipe σ vs).set i (some x)) H Yes) : LcItem (gName i) tYes te vs σ x H Yes No :=
  ⟨hw, iteT (B := No H) q⟩
theorem w_it1 {te : TE} {tt : TT} {vs : List Nat} {σ : L2.St} {i : Nat} {Yes : V → Hp → Prop} {No : Hp → Prop} (hw : wipe ((wipe σ vs).set i (some x)) vs = wipe σ vs)
    (q : tt ((wipe σ vs).set i (some x)) H fun b H3 => if b = true then te ((wipe σ vs).set i (some x)) H3 Yes else No H3) : LcItem (gName i) tt te vs σ x H Yes No := ⟨hw, q⟩
section
variable {R : It → Hp → Prop} {ta : TA} {te : TE} {σ : L2.St}
theorem w_iRng1 (q : ta σ H fun vs H1 => ∃ j : Int, vs = [.int j] ∧ -(2 ^ 62) ≤ j ∧ j < 2 ^ 62 ∧ R (Itr 0 j.toNat) H1) : iRng1 ta σ H R := q
theorem w_iRng2 (q : ta σ H fun vs H1 => ∃ i j : Int, vs = [.int i, .int j] ∧ (-(2 ^ 62) ≤ i ∧ i < 2 ^ 62 ∧ -(2 ^ 62) ≤ j ∧ j < 2 ^ 62) ∧ R (Itr i (j - i).toNat) H1) : iRng2 ta σ H R := q
theorem w_iList (q : te σ H fun x H1 => ∃ a, x = .ref a ∧ (∃ xs, SqL K H1 a xs) ∧ R (Itl K a) H1) : iList K te σ H R := q
theorem w_iTup (q : te σ H fun x H1 => ∃ a, x = .ref a ∧ (∃ xs, SqT K H1 a xs) ∧ R (Itt K a) H1) : iTup K te σ H R := q
end
theorem joinM_get {m n : List Int} (e : m.length = n.length) {i : Nat} (hi : i < m.length) : (joinM m n)[i]? = some (max (m.getD i 0) (n.getD i 0)) := by
  unfold joinM
  rw [List.getElem?_zipWith, List.getElem?_eq_getElem hi, List.getElem?_eq_getElem (by omega), List.getD_eq_getElem?_getD, List.getD_eq_getElem?_getD, List.getElem?_eq_getElem hi, List.getElem?_eq_getElem (by omega)]
  rfl
theorem joinM_len {m n : List Int} (e : m.length = n.length) : (joinM m n).length = m.length := by
  unfold joinM
  rw [List.length_zipWith]; omega
theorem fm_some {f : Nat → PyData} (n : Nat) : (List.range n).filterMap (fun i => some (f i)) = (List.range n).map f := by
  rw [List.filterMap_eq_map']
theorem range_map_eq {α : Type} {f : Nat → α} {l : List α} {n : Nat} (hn : l.length = n) (h : ∀ i, i < n → l[i]? = some (f i)) : (List.range n).map f = l := by
  refine List.ext_getElem? fun i => ?_
  by_cases hi : i < n
  · rw [List.getElem?_map, List.getElem?_range hi, h i hi]; rfl
  · rw [List.getElem?_eq_none (by simp; omega), List.getElem?_eq_none (by omega)]
theorem fm_join {m n : List Int} (e : m.length = n.length) : (List.range ((m.length : Int)).toNat).filterMap (fun i => some (PyData.int (max (m.getD i 0) (n.getD i 0)))) = (joinM m n).map PyData.int := by
  rw [fm_some]
  refine range_map_eq (by rw [List.length_map, joinM_len e]; omega) fun i hi => ?_
  rw [List.getElem?_map, joinM_get e (by omega)]; rfl
/-- isinstance -/
theorem isi_of {t c : String} {b : Bool} (h : TyX K H x (.type t)) (k : kitB t c = some b) (q : Q (.bl b) H) : rIsi K [x, .ty c] H Q :=
  ⟨x, .ty c, .type t, .type c, b, rfl, .ty c, h, kit_ty k, q⟩
theorem Rp.tyT (h : Rp M H x (.tuple ds)) : TyX K H x (.type "tuple") := by
  obtain ⟨a, xs, rfl, ha, r⟩ := h.tup_inv
  exact .base (.tup ha)
theorem Rp.tyL (h : Rp M H x (.list ds)) : TyX K H x (.type "list") := by
  obtain ⟨a, xs, rfl, m, ha, r⟩ := h.lst_inv
  exact .base (.lst ha)
theorem w_isiTT (h : Rp M H x (.tuple ds)) (q : Q (.bl true) H) : rIsi K [x, .ty "tuple"] H Q := isi_of h.tyT (by decide +kernel) q
theorem w_isiLL (h : Rp M H x (.list ds)) (q : Q (.bl true) H) : rIsi K [x, .ty "list"] H Q := isi_of h.tyL (by decide +kernel) q
theorem w_isiLT (h : Rp M H x (.list ds)) (q : Q (.bl false) H) : rIsi K [x, .ty "tuple"] H Q := isi_of h.tyL (by decide +kernel) q
theorem w_isiII (q : Q (.bl true) H) : rIsi K [.int i, .ty "int"] H Q := isi_of (.base (.int i)) (by decide +kernel) q
theorem w_isiIB (q : Q (.bl false) H) : rIsi K [.int i, .ty "bool"] H Q := isi_of (.base (.int i)) (by decide +kernel) q
theorem w_isiBB {b : Bool} (q : Q (.bl true) H) : rIsi K [.bl b, .ty "bool"] H Q := isi_of (.base (.bl b)) (by decide +kernel) q
theorem w_isiBI {b : Bool} (q : Q (.bl true) H) : rIsi K [.bl b, .ty "int"] H Q := isi_of (.base (.bl b)) (by decide +kernel) q
theorem w_isiSI {b : Str} (q : Q (.bl false) H) : rIsi K [.str b, .ty "int"] H Q := isi_of (.base (.str b)) (by decide +kernel) q
theorem w_isiNI (q : Q (.bl false) H) : rIsi K [.non, .ty "int"] H Q := isi_of (.base .non) (by decide +kernel) q
theorem w_isiSS {b : Str} (q : Q (.bl true) H) : rIsi K [.str b, .ty "str"] H Q := isi_of (.base (.str b)) (by decide +kernel) q
/-- for -/
theorem w_for {wi : TI} {g : TG} {tb : TS} {D : Ends} {σ : L2.St} (q : wi σ H fun J H1 => ∃ W : Nat → Nat → L2.St → Hp → Prop, (∃ m, W 0 m σ H1) ∧ ∀ i m σ H, W i m σ H →
  (J.stop i H ∧ D.nx σ H) ∨ (J.go i H ∧ ∃ N : L2.St → Hp → Prop, (∀ σ' H', N σ' H' → ∃ m', m' < m ∧ W (i + 1) m' σ' H') ∧ ∀ x H', J.yld i H x H' → g x σ H' fun σ2 H2 => tb { D with nx := N, ct := N, bk := D.nx } σ2 H2)) : tFor wi g tb D σ H := q
/-- s[i] of a list as it stands -/
theorem w_ixS (j : Nat) (h : SqL K H a xs) (ei : i = (j : Int)) (e : xs[j]? = some v) (q : Q v H) : rIxL K (.ref a) (.int i) H Q := ⟨a, xs, i, v, rfl, rfl, h, by rw [ei]; exact atI_nat e, q⟩
end
theorem w_bm {K : Frag} {T : String} {r : V → List V → Hp → VK → Prop} {to : TE} {t : TA} {σ : L2.St} {H : Hp} {Q : VK} (q : to σ H fun x H1 => tyV K T x H1 ∧ t σ H1 fun xs H2 => r x xs H2 Q) : tBM K T r to t σ H Q := q
theorem ty_lst {K : Frag} {H : Hp} {a : Addr} {xs : List V} (h : SqL K H a xs) : tyV K "list" (.ref a) H := .inl ⟨rfl, xs, h⟩
/-- if c: x = e (and no else): both ways meet with a value of which P holds -/
theorem w_ifJoin {c : Prop} [Decidable c] {ts : TS} {D : Ends} {σ : L2.St} {H : Hp} (i : Nat) (old : V) (P : V → Prop) (hold : σ.set i (some old) = σ) (po : ¬ c → P old) (key : ∀ x, P x → D.nx (σ.set i (some x)) H)
    (hA : ∀ N : L2.St → Hp → Prop, (∀ x, P x → N (σ.set i (some x)) H) → c → ts { D with nx := N } σ H) : if c then ts D σ H else tNext D σ H := by
  by_cases h : c
  · rw [if_pos h]; exact hA D.nx key h
  · rw [if_neg h]
    show D.nx σ H
    have := key old (po h)
    rw [hold] at this
    exact this
theorem w_projn {f bk ct : L2.St → Hp → Prop} {rt : VK} {σ : L2.St} {H : Hp} (q : f σ H) : (Ends.mk f rt bk ct).nx σ H := q
theorem w_projr {f bk ct : L2.St → Hp → Prop} {rt : VK} {v : V} {H : Hp} (q : rt v H) : (Ends.mk f rt bk ct).rt v H := q
/-- a cut behind a statement -/
theorem w_cut {ts tu : TS} {D : Ends} {σ : L2.St} {H : Hp} (mid : L2.St → Hp → Prop) (h1 : ∀ N : L2.St → Hp → Prop, (∀ σ' H', mid σ' H' → N σ' H') → ts { D with nx := N } σ H) (h2 : ∀ σ' H', mid σ' H' → tu D σ' H') : tSeq ts tu D σ H := h1 (tu D) h2
theorem iteD {c : Prop} [Decidable c] {A B : Prop} (h : c) (q : A) : if decide c = true then A else B := by rw [if_pos (decide_eq_true h)]; exact q
theorem iteDn {c : Prop} [Decidable c] {A B : Prop} (h : ¬ c) (q : B) : if decide c = true then A else B := by rw [if_neg (fun z => h (of_decide_eq_true z))]; exact q
theorem iteN {b : Bool} {A B : Prop} (h : b = false) (q : B) : if b = true then A else B := by rw [h]; exact iteF q
theorem iteY {b : Bool} {A B : Prop} (h : b = true) (q : A) : if b = true then A else B := by rw [h]; exact iteT q
/-! equal data -/
theorem eqvAll_ints : ∀ m n : List Int, PyData.eqvAll (m.map PyData.int) (n.map PyData.int) = decide (m = n)
  | [], [] => rfl
  | [], _ :: _ => rfl
  | _ :: _, [] => rfl
  | a :: m, b :: n => by
    rw [List.map_cons, List.map_cons]
    unfold PyData.eqvAll
    rw [eqvAll_ints m n]
    unfold PyData.eqv
    by_cases h : a = b <;> by_cases h' : m = n <;> simp [h, h']
theorem eqv_mark (m n : List Int) : PyData.eqv (markD m) (markD n) = decide (m = n) := by
  unfold markD PyData.eqv
  exact eqvAll_ints m n
theorem lay_ints : ∀ m : List Int, PyData.canLayAll0 (m.map PyData.int) = true
  | [] => by simp [PyData.canLayAll0]
  | a :: m => by simp [PyData.canLayAll0, PyData.canLay0, lay_ints m]
theorem depth_ints : ∀ m : List Int, PyData.depthAll (m.map PyData.int) = 0
  | [] => by simp [PyData.depthAll]
  | a :: m => by simp [PyData.depthAll, PyData.depth, depth_ints m]
theorem shaped_mark (m : List Int) : SeqAt.shaped (markD m) = true := by
  unfold SeqAt.shaped markD
  simp [PyData.canLay0, lay_ints, PyData.depth, depth_ints]
section
variable {K : Frag} {M M' : Addr → Prop} {H : Hp} {x y : V} {m n : List Int} {Q : VK}
theorem w_eqM (h : Rp M H x (markD m)) (h' : Rp M' H y (markD n)) (q : Q (.bl (decide (m = n))) H) : rEqD K x y H Q :=
  ⟨_, _, h.dp, h'.dp, shaped_mark m, shaped_mark n, by rw [eqv_mark]; exact q⟩
theorem w_neM (h : Rp M H x (markD m)) (h' : Rp M' H y (markD n)) (q : Q (.bl (!decide (m = n))) H) : rNeD K x y H Q :=
  ⟨_, _, h.dp, h'.dp, shaped_mark m, shaped_mark n, by rw [eqv_mark]; exact q⟩
end
theorem w_chain {r r' : R2} {ta tb tc : TE} {σ : L2.St} {H : Hp} {Q : VK} (q : ta σ H fun x H1 => tb σ H1 fun y H2 => r x y H2 fun z H3 => ∃ k, z = .bl k ∧ (if k = true then tc σ H3 fun w' H4 => r' y w' H4 Q else Q (.bl false) H3)) : tChain r r' ta tb tc σ H Q := q
/-- the law's promise -/
def sp_law (K : Frag) : Sp := fun vs H Q _ => ∃ (b : Addr) (ns : List Int), vs = [.ref b] ∧ SqL K H b (ns.map V.int) ∧ ns.length ≤ 63 ∧ ∀ H', Q (.bl true) H'
section
variable {K : Frag} {σ : L2.St} {H H' : Hp} {Q : VK} {te tv ty td : TE} {tl th : TO} {a d p : Addr} {xs : List V} {lo hi : Option Int} {D : Ends} {M : Addr → Prop}
theorem w_sl {r : V → Option Int → Option Int → Hp → VK → Prop} (q : te σ H fun x H1 => tl σ H1 fun l H2 => th σ H2 fun u H3 => r x l u H3 Q) : tSl r te tl th σ H Q := q
theorem w_part {QO : Option Int → Hp → Prop} (q : te σ H fun x H1 => ∃ i, x = .int i ∧ QO (some i) H1) : tPart te σ H QO := q
theorem w_nopart {QO : Option Int → Hp → Prop} (q : QO none H) : tNoPart σ H QO := q
theorem w_exint {R : Int → Prop} {i : Int} (q : R i) : ∃ j, V.int i = V.int j ∧ R j := ⟨i, rfl, q⟩
theorem w_slL (h : SqL K H a xs) (q : ∀ ys p, cutV xs lo hi = ys → H p = none → Q (.ref p) (upd H p (.lst ys))) : rSlL K (.ref a) lo hi H Q := ⟨a, xs, rfl, h, fun p => q _ p rfl⟩
theorem w_dput (q : tv σ H fun v H1 => td σ H1 fun x H2 => ty σ H2 fun y H3 => ∃ a H4, x = .ref a ∧ DPut H3 a y v H4 ∧ D.nx σ H4) : sDPut td ty tv D σ H := q
theorem w_sFld {K : Frag} {ta tv : TE} {f : Str} (q : tv σ H fun y H1 => ta σ H1 fun x H2 => ∃ a C dx fs, x = .ref a ∧ H2 a = some (.ins C dx fs) ∧ Cls K C ∧ NoAttr K C f ∧ fs.length < 1000 ∧ D.nx σ (upd H2 a (.ins C dx (putF f y fs)))) : sFld K ta tv f D σ H := q
theorem w_dget2 {tx : TE} (q : td σ H fun x H1 => ∃ a, x = .ref a ∧ IsD H1 a ∧ ty σ H1 fun y H2 => tx σ H2 fun z H3 => ∃ o, DGet H3 a y o ∧ Q (o.getD z) H3) : tDGet2 td ty tx σ H Q := q
theorem w_dget (q : td σ H fun x H1 => ty σ H1 fun y H2 => ∃ a v, x = .ref a ∧ DGet H2 a y (some v) ∧ Q v H2) : tDGet td ty σ H Q := q
theorem w_gSub {to ti : TE} {ts : TSet} {v : V} {Qs : L2.St → Hp → Prop} (q : to σ H fun o H1 => ti σ H1 fun i H2 => ts o i v H2 fun H3 => Qs σ H3) : gSub to ti ts v σ H Qs := q
/-- all but d stands as before -/
def But (d : Addr) (H H' : Hp) : Prop := ∀ a o, a ≠ d → H a = some o → H' a = some o
theorem But.ext (b : But d H H') (hd : ∀ xs, H d ≠ some (.tup xs) ∧ (¬ M d → H d ≠ some (.lst xs))) : Ext M M H H' :=
  ⟨fun a xs e => b a _ (fun z => by subst z; exact (hd xs).1 e) e, fun a xs m e => ⟨m, b a _ (fun z => by subst z; exact (hd xs).2 m e) e⟩⟩
theorem But.trans {H'' : Hp} (b : But d H H') (b' : But d H' H'') : But d H H'' := fun a o n e => b' a o n (b a o n e)
theorem But.same (s : Same H H') : But d H H' := fun a o _ e => s a o e
theorem But.upd (o : HO) : But d H (upd H d o) := fun a u n e => by rw [upd_ne n]; exact e
theorem But.new (h : H d = none) (b : But d H H') : Same H H' := fun a o e => b a o (ne_of_none e h) e
end
section
variable {X : Cx} {o e : Expr} {es : List Expr} {to : TE} {t : TA} {name : Str} {apos cpos pos : Pos} {T id : String} {r : V → List V → Hp → VK → Prop}
theorem pe_bm0K (K : Frag) (hK : X.K = K) (pa : PlainAttrs T) (slot : Slot T name id) (hty : typeOf (.builtin id) = pure (.type "method_descriptor")) (hm : MtR X id r) (ho : PE X o to)
    (hbase : attributeBase o name X.env (eval o X.env) = eval o X.env := by rfl) (hline : (apos.endLine == cpos.line) = true := by rfl) : PE X (.Call (.Attribute o name apos) [] [] cpos) (tBM0 K T r to) :=
  hK ▸ pe_bm0 pa slot hty hm ho hbase hline
theorem pe_bmK (K : Frag) (hK : X.K = K) (pa : PlainAttrs T) (slot : Slot T name id) (hty : typeOf (.builtin id) = pure (.type "method_descriptor")) (hm : MtR X id r) (ho : PE X o to) (ha : PA X (e :: es) t)
    (hbase : attributeBase o name X.env (eval o X.env) = eval o X.env := by rfl)
    (hfew : ((backTo cpos (starEach (e :: es) X.env)).all (fun x => !x.1) && (backToKw cpos (keywordEach [] X.env)).all (fun x => x.1.isSome)
      && decide ((e :: es).length + ([] : List Keyword).length + (if ([] : List Keyword).isEmpty then 0 else 1) < 30)) = true := by rfl)
    (hline : (apos.endLine == cpos.line) = true := by rfl) (hs : starEach (e :: es) X.env = (false, eval e X.env) :: starEach es X.env := by rfl) (hplain : (backTo cpos (starEach es X.env)).any (·.1) = false := by rfl) :
    PE X (.Call (.Attribute o name apos) (e :: es) [] cpos) (tBM K T r to t) := hK ▸ pe_bm pa slot hty hm ho ha hbase hfew hline hs hplain
theorem pe_fldK (K : Frag) (hK : X.K = K) {ta : TE} {f : Str} (he : PE X e ta) (hb : attributeBase e f X.env (eval e X.env) = eval e X.env) : PE X (.Attribute e f pos) (tFld K ta f) := hK ▸ pe_fld he hb
end
end Sb

set_option Elab.async false
set_option maxRecDepth 100000
set_option maxHeartbeats 4000000
set_option linter.all false
/-! sorted of tuples of ints, any number of them, by the tuples' order. -/
namespace Sb
open PySem L2 PyProof.Rows
/-! ### the order -/
theorem lex_irr : ∀ x : List Int, HT.lexLt x x = false
  | [] => rfl
  | a :: x => by rw [HT.lexLt_cons, if_pos rfl, lex_irr x]
theorem lex_asym : ∀ x y : List Int, HT.lexLt x y = true → HT.lexLt y x = false
  | [], [], h => by cases h
  | [], b :: y, _ => HT.lexLt_cons_nil _ _
  | a :: x, [], h => by cases h
  | a :: x, b :: y, h => by
    rw [HT.lexLt_cons] at h ⊢
    by_cases e : a = b
    · subst e
      rw [if_pos rfl] at h ⊢
      exact lex_asym x y h
    · rw [if_neg e] at h
      rw [if_neg (fun z => e z.symm)]
      have := of_decide_eq_true h
      exact decide_eq_false (by omega)
theorem lex_ntr : ∀ x y z : List Int, HT.lexLt y x = false → HT.lexLt z y = false → HT.lexLt z x = false
  | [], y, z, _, _ => by cases z <;> rfl
  | a :: x, [], z, h, _ => by rw [HT.lexLt_nil_cons] at h; cases h
  | a :: x, b :: y, [], _, h => by rw [HT.lexLt_nil_cons] at h; cases h
  | a :: x, b :: y, c :: z, h1, h2 => by
    rw [HT.lexLt_cons] at h1 h2 ⊢
    by_cases e1 : b = a
    · subst e1
      rw [if_pos rfl] at h1
      by_cases e2 : c = b
      · subst e2
        rw [if_pos rfl] at h2 ⊢
        exact lex_ntr x y z h1 h2
      · rw [if_neg e2] at h2 ⊢
        exact h2
    · rw [if_neg e1] at h1
      have := of_decide_eq_false h1
      by_cases e2 : c = b
      · subst e2
        rw [if_neg e1]
        exact h1
      · rw [if_neg e2] at h2
        have := of_decide_eq_false h2
        rw [if_neg (by omega)]
        exact decide_eq_false (by omega)
theorem lex_anti : ∀ x y : List Int, HT.lexLt x y = false → HT.lexLt y x = false → x = y
  | [], [], _, _ => rfl
  | [], b :: y, h, _ => by rw [HT.lexLt_nil_cons] at h; cases h
  | a :: x, [], _, h => by rw [HT.lexLt_nil_cons] at h; cases h
  | a :: x, b :: y, h1, h2 => by
    rw [HT.lexLt_cons] at h1 h2
    by_cases e : a = b
    · subst e
      rw [if_pos rfl] at h1 h2
      rw [lex_anti x y h1 h2]
    · rw [if_neg e] at h1
      rw [if_neg (fun z => e z.symm)] at h2
      have := of_decide_eq_false h1
      have := of_decide_eq_false h2
      omega
theorem swo_lexL {α : Type} (k : α → List Int) : SrtO.Swo fun v u => HT.lexLt (k v) (k u) := ⟨fun _ _ h => lex_asym _ _ h, fun _ _ _ h1 h2 => lex_ntr _ _ _ h1 h2⟩
/-! ### the machine's comparisons -/
def TupI (h : Heap) (v : Value) (ns : List Int) : Prop := ∃ a o xs n, v = .ref a ∧ h.get? a = some o ∧ o.cls = .type "tuple" ∧ o.data = .seq xs n ∧ IntsAre xs.toList ns
theorem TupI.keeps {h h' : Heap} {v : Value} {ns : List Int} (p : TupI h v ns) (k : ∀ b o, h.get? b = some o → o.cls = .type "tuple" → h'.get? b = some o) : TupI h' v ns := by
  obtain ⟨a, o, xs, n, e, ho, hc, hd, hi⟩ := p
  exact ⟨a, o, xs, n, e, k _ _ ho hc, hc, hd, hi⟩
section
variable {prog : Program} {w : World} {A : Around} {E : Value → Shared → Prop} {s : Shared}
theorem lex_walk {fin : Bool} {Q : Bool → Shared → Prop} : ∀ {xs ys : List Value} {ns ms : List Int} (i : Nat), IntsAre xs ns → IntsAre ys ms → fin = decide (ns.length < ms.length) → Q (HT.lexLt ns ms) s →
    PySem.W.KatLex prog w A true fin Q (xs.zip ys) i s
  | _, _, _, _, i, .nil, .nil, hf, q => by subst hf; exact q
  | _, _, _, _, i, .nil, .cons b u r, hf, q => by subst hf; exact q
  | _, _, _, _, i, .cons a t r, .nil, hf, q => by subst hf; exact q
  | _, _, _, _, i, .cons a t rx, .cons b u ry, hf, q => by
    rw [HT.lexLt_cons] at q
    show PySem.W.KatLex prog w A true fin Q ((_, _) :: _) i s
    refine PySem.W.kat_cons (SeqAt.EqAt.int_int a t b u prog w _ _ ?_)
    refine PySem.W.kat_go (fun e1 => ?_) (fun e1 => ?_)
    · have ex : a = b := by simpa using e1
      rw [if_pos ex] at q
      refine PySem.W.kat_yes (lex_walk (i + 1) rx ry ?_ q)
      rw [hf]
      simp
    · have ex : ¬ a = b := by simpa using e1
      rw [if_neg ex] at q
      exact PySem.W.kat_no (TS.oneLt_ints _ q)
theorem tupI_cmp {vs : List Value} {k : Value → List Int} (hp : ∀ v ∈ vs, TupI s.heap v (k v)) : SrtO.Cmp prog w A s (tuples' true) (fun p => p.1 ∈ vs) (SrtO.lt2 fun v u => HT.lexLt (k v) (k u)) := by
  intro p q hm hm'
  have h1 := hp _ hm
  have h2 := hp _ hm'
  show wpAny (model prog w) A (PyProof.Rows.keyLt' (PyProof.Rows.tuples' true) p.1 q.1) (fun r s' => s' = s ∧ r = HT.lexLt (k p.1) (k q.1)) (fun _ _ => False) s
  generalize k p.1 = x at h1 ⊢
  generalize k q.1 = y at h2 ⊢
  obtain ⟨a, o, xs, n, e, ho, hc, hd, hi⟩ := h1
  obtain ⟨a', o', ys, n', e', ho', hc', hd', hi'⟩ := h2
  rw [e, e']
  refine PySem.W.kat_lt ho hd ho' hd' ?_
  refine lex_walk 0 hi hi' ?_ ⟨rfl, rfl⟩
  have l1 := hi.length
  have l2 := hi'.length
  rw [← l1, ← l2, Array.length_toList, Array.length_toList]
theorem tupI_firsts {h : Heap} {k : Value → List Int} : ∀ {vs : List Value}, (∀ v ∈ vs, TupI h v (k v) ∧ k v ≠ []) → ∃ fs : List Value, PySem.W.KatTups h vs fs ∧ fs.length = vs.length ∧ ∀ f ∈ fs, ∃ x t, f = Value.int x t
  | [], _ => ⟨[], PySem.W.KatTups.nil, rfl, fun _ hm => by simp at hm⟩
  | v :: vs, hp => by
    obtain ⟨fs, h1, h2, h3⟩ := tupI_firsts (vs := vs) fun v' hm => hp v' (List.mem_cons_of_mem _ hm)
    obtain ⟨⟨a, o, xs, n, e, ho, hc, hd, hi⟩, hne⟩ := hp v (List.mem_cons_self ..)
    subst e
    obtain ⟨x, t, r, ex⟩ : ∃ x t r, xs.toList = Value.int x t :: r := by
      generalize k (Value.ref a) = ns at hi hne
      cases q : xs.toList with
      | nil => rw [q] at hi; cases hi; exact absurd rfl hne
      | cons y ys => rw [q] at hi; cases hi; exact ⟨_, _, _, rfl⟩
    refine ⟨.int x t :: fs, PySem.W.KatTups.cons ho hc hd ?_ h1, by rw [List.length_cons, List.length_cons, h2], fun f hm => ?_⟩
    · rw [← Array.getElem?_toList, ex]; rfl
    · rcases List.mem_cons.mp hm with rfl | hm
      · exact ⟨x, t, rfl⟩
      · exact h3 f hm
theorem tupI_sortable {a : Addr} {vs : List Value} {k : Value → List Int} (h0 : 0 < vs.length) (hp : ∀ v ∈ vs, TupI s.heap v (k v) ∧ k v ≠ []) (ha : ∀ o, s.heap.get? a = some o → o.cls ≠ .type "tuple") :
    SrtO.SortableO prog w A s a vs fun v u => HT.lexLt (k v) (k u) := by
  intro h' keep
  have hp' : ∀ v ∈ vs, TupI h' v (k v) ∧ k v ≠ [] := fun v hm => ⟨(hp v hm).1.keeps fun b o e c => keep b o (fun z => by subst z; exact ha o e c) e, (hp v hm).2⟩
  obtain ⟨fs, h1, h2, h3⟩ := tupI_firsts hp'
  refine ⟨PyProof.Rows.tuples' true, fun Q E hq => ?_, tupI_cmp fun v hm => (hp' v hm).1⟩
  refine PySem.W.kat_kind (T := .type "int") h1 (by omega) (fun f hm => ?_) (by rfl) ?_
  · obtain ⟨x, t, rfl⟩ := h3 f hm
    exact PySem.W.Looks.now
  · have e : (Value.type "int" != Value.type "tuple") = true := by first | decide +kernel | rfl | decide
    rw [e]
    exact hq
end
end Sb

set_option Elab.async false
set_option maxRecDepth 100000
set_option maxHeartbeats 4000000
set_option linter.all false
/-! sorted(..) as rules: a list of tuples of ints, a dict whose keys are such. -/
namespace Sb
open PySem L2 PyProof.Rows
def tupD (l : List Int) : PyData := .tuple (l.map PyData.int)
def intOf : V → Int
  | .int i => i
  | _ => 0
/-- the ints of the tuple that stands at a value -/
def ktup (H : Hp) : V → List Int
  | .ref t => match H t with
    | some (.tup xs) => xs.map intOf
    | _ => []
  | _ => []
theorem ktup_at {H : Hp} {t : Addr} {ns : List Int} (h : H t = some (.tup (ns.map V.int))) : ktup H (.ref t) = ns := by
  show (match H t with
    | some (.tup xs) => xs.map intOf
    | _ => []) = ns
  rw [h]
  show (ns.map V.int).map intOf = ns
  rw [List.map_map]
  have e : (intOf ∘ V.int) = id := funext fun i => rfl
  rw [e, List.map_id]
def sortL (ls : List (List Int)) : List (List Int) := ls.mergeSort fun a b => !HT.lexLt b a
theorem le_trans_lex (a b c : List Int) (h1 : (!HT.lexLt b a) = true) (h2 : (!HT.lexLt c b) = true) : (!HT.lexLt c a) = true := by
  simp only [Bool.not_eq_true'] at h1 h2 ⊢
  exact lex_ntr a b c h1 h2
theorem le_total_lex (a b : List Int) : ((!HT.lexLt b a) || (!HT.lexLt a b)) = true := by
  cases h : HT.lexLt b a with
  | false => rfl
  | true => rw [lex_asym _ _ h]; rfl
theorem sortL_perm (ls : List (List Int)) : (sortL ls).Perm ls := List.mergeSort_perm _ _
theorem sortL_srt (ls : List (List Int)) : (sortL ls).Pairwise fun a b => HT.lexLt b a = false :=
  (List.pairwise_mergeSort le_trans_lex le_total_lex ls).imp fun h => by simpa using h
theorem sortL_uniq {ls ys : List (List Int)} (p : ys.Perm ls) (h : ys.Pairwise fun a b => HT.lexLt b a = false) : ys = sortL ls :=
  List.Perm.eq_of_pairwise (le := fun a b => HT.lexLt b a = false) (fun a b _ _ h1 h2 => (lex_anti b a h1 h2).symm) h (sortL_srt ls) (p.trans (sortL_perm ls).symm)
section
variable {M : Addr → Prop} {H : Hp} {x : V} {xs ys zs : List V} {ls : List (List Int)}
theorem Rp.ktup {l : List Int} (h : Rp M H x (tupD l)) : ∃ t, x = .ref t ∧ H t = some (.tup (l.map V.int)) ∧ ktup H x = l := by
  obtain ⟨a, xs, rfl, ha, r⟩ := Rp.tup_inv (ds := l.map PyData.int) h
  rw [r.ints_inv] at ha
  exact ⟨a, rfl, ha, ktup_at ha⟩
theorem RpA.ktups (h : RpA M H zs (ls.map tupD)) : zs.map (Sb.ktup H) = ls := by
  refine List.ext_getElem? fun i => ?_
  rw [List.getElem?_map]
  cases e : ls[i]? with
  | none =>
    have := List.getElem?_eq_none_iff.mp e
    have := h.1
    rw [List.getElem?_eq_none (by rw [List.length_map] at this; omega)]
    rfl
  | some l =>
    obtain ⟨x, hx, r⟩ := h.at (i := i) (d := tupD l) (by rw [List.getElem?_map, e]; rfl)
    obtain ⟨t, _, _, ek⟩ := r.ktup
    rw [hx, Option.map_some, ek]
/-- sorted, as data -/
theorem RpA.sorted (h : RpA M H zs (ls.map tupD)) (p : ys.Perm zs) (s : ys.Pairwise fun a b => HT.lexLt (Sb.ktup H b) (Sb.ktup H a) = false) : RpA M H ys ((sortL ls).map tupD) := by
  have e1 := h.ktups
  have e2 : ys.map (Sb.ktup H) = sortL ls := sortL_uniq (by rw [← e1]; exact p.map _) (List.pairwise_map.mpr s)
  rw [← e2]
  refine ⟨by rw [List.length_map, List.length_map], fun i x d hx hd => ?_⟩
  rw [List.map_map, List.getElem?_map, hx] at hd
  have hd : tupD (Sb.ktup H x) = d := Option.some.inj hd
  subst hd
  have hm : x ∈ zs := p.mem_iff.mp (List.mem_of_getElem? hx)
  obtain ⟨j, hj⟩ := List.mem_iff_getElem?.mp hm
  obtain ⟨d, hd, r⟩ := h.atx hj
  rw [List.getElem?_map] at hd
  cases e : ls[j]? with
  | none => rw [e] at hd; cases hd
  | some l =>
    rw [e] at hd
    have hd : tupD l = d := Option.some.inj hd
    subst hd
    obtain ⟨t, _, _, ek⟩ := r.ktup
    rw [ek]
    exact r
end
theorem RpA.tups {M M' : Addr → Prop} {H : Hp} {xs : List V} {ls : List (List Int)} (h : RpA M H xs (ls.map tupD)) : RpA M' H xs (ls.map tupD) := by
  refine ⟨h.1, fun i x d hx hd => ?_⟩
  have r := h.2 i x d hx hd
  rw [List.getElem?_map] at hd
  cases e : ls[i]? with
  | none => rw [e] at hd; cases hd
  | some l =>
    rw [e] at hd
    have hd : tupD l = d := Option.some.inj hd
    subst hd
    exact Rp.mark r
theorem paired_get {α β : Type} {F : α → β → Prop} : ∀ {l₁ : List α} {l₂ : List β} {i : Nat} {b : β}, Paired F l₁ l₂ → l₂[i]? = some b → ∃ a, l₁[i]? = some a ∧ F a b
  | _, _, _, _, .nil, e => by simp at e
  | _, _, 0, _, .cons r _, e => by simp at e; subst e; exact ⟨_, rfl, r⟩
  | _, _, i + 1, b, .cons _ t, e => by
    obtain ⟨a, h1, h2⟩ := paired_get (i := i) (b := b) t (by simpa using e)
    exact ⟨a, by simpa using h1, h2⟩
def rSortedT (K : Frag) : List V → Hp → VK → Prop := fun vs H Q => ∃ (a : Addr) (xs : List V), vs = [V.ref a] ∧ SqL K H a xs ∧ (∀ x ∈ xs, ∃ t ns, x = V.ref t ∧ H t = some (.tup (ns.map V.int)) ∧ ns ≠ []) ∧
  ∀ ys p, (ys.Pairwise fun a b => HT.lexLt (ktup H b) (ktup H a) = false) → ys.Perm xs → H p = none → Q (.ref p) (upd H p (.lst ys))
/-- sorted(d), d a dict whose keys are tuples of ints -/
def rSortedDT : List V → Hp → VK → Prop := fun vs H Q => ∃ (a : Addr) (kvs : List (List Key × V)) (ks : List (List Int)), vs = [V.ref a] ∧ H a = some (.dT kvs) ∧ kvs.map (·.1) = ks.map (fun l => l.map Sum.inl) ∧ (∀ l ∈ ks, l ≠ []) ∧
  ∀ ys p, H p = none → (∀ M, RpA M H ys ((sortL ks).map tupD)) → Q (.ref p) (upd H p (.lst ys))
section
variable {X : Cx}
theorem tupI_of {P : Program} {w : World} {H : Hp} {h : Heap} {t : Addr} {ns : List Int} (hok : HOk P w H h) (e : H t = some (.tup (ns.map V.int))) : TupI h (.ref t) ns := by
  obtain ⟨_, its, r, o, ho, hc, n, hd⟩ := hok _ _ e
  exact ⟨t, o, its.toArray, n, rfl, ho, hc, hd, r.ints⟩
theorem cr_sortedT {X : Cx} : CallR X (.builtin "sorted") (rSortedT X.K) := by
  intro pins s σ H vs us Q I r h
  obtain ⟨a, xs, rfl, hs, hx, q⟩ := h
  obtain ⟨its, rv, hl, hz⟩ := I.list hs
  obtain ⟨u, rfl, ru⟩ := vals1 r
  obtain rfl : u = Value.ref a := ru
  obtain ⟨e1, e2⟩ := refs_back rv fun x m => by
    obtain ⟨t, ns, e, _⟩ := hx x m
    exact ⟨t, e⟩
  have hp : ∀ v ∈ its, TupI s.heap v (ktup H (backV v)) ∧ ktup H (backV v) ≠ [] := fun v hv => by
    obtain ⟨t, rfl⟩ := e2 v hv
    have hm : V.ref t ∈ xs := by rw [e1]; exact List.mem_map.mpr ⟨_, hv, rfl⟩
    obtain ⟨t', ns, e, ht, hne⟩ := hx _ hm
    cases e
    have ek : ktup H (backV (Value.ref t)) = ns := ktup_at ht
    rw [ek]
    exact ⟨tupI_of I.hok ht, hne⟩
  refine SrtO.sorted_ord (swo_lexL fun u => ktup H (backV u)) hl.isList (by rw [← rv.length]; exact hz) (fun h2 h₁ a' ha' kk => tupI_sortable (s := { s with heap := h₁ }) (by omega) (fun v hv => ⟨(hp v hv).1.keeps fun b o e _ => (kk b o e).2, (hp v hv).2⟩) fun o e => ?_) fun out h1 h2 => ?_
  · have e' : some o = some (PyProof.Rows.seqObj "list" its.toArray 0) := e.symm.trans ha'
    cases e'
    intro c
    exact absurd (Value.type.inj c) (by decide)
  · obtain ⟨ep, he'⟩ := PyProof.Rows.sortedAll_at s.heap its out.toArray
    have h3 : ∀ u ∈ out, ∃ a, u = Value.ref a := fun u hu => e2 u (h2.perm.mem_iff.mp hu)
    have hperm : (out.map backV).Perm xs := by rw [e1]; exact h2.perm.map _
    have hlen : (out.map backV).length ≤ sizeLine := by rw [hperm.length_eq]; exact hz
    exact ⟨.ref _, upd H (s.heap.objs.size + 1) (.lst (out.map backV)), I.laid (t' := s.toks) (fun _ _ => PyProof.Rows.sortedAll_old) (Nat.le_succ _) ⟨hlen, out, ep, vals_back h3, he'⟩, rfl,
      q _ _ (List.pairwise_map.mpr h1) hperm (I.hok.fresh (Nat.le_succ _))⟩
theorem cr_sortedDT {X : Cx} (hcalm : X.calm = true) : CallR X (.builtin "sorted") rSortedDT := by
  intro pins s σ H vs us Q I r h
  obtain ⟨a, kvs, ks, rfl, hd, hks, hne, q⟩ := h
  obtain ⟨u, rfl, ru⟩ := vals1 r
  obtain rfl : u = Value.ref a := ru
  obtain ⟨hz, lo, xs, rel, o, es, ep, ho, hex, hdat, hes, hnd⟩ := I.hok a _ hd
  have raw : s.heap.DictRaw a es ep := ⟨o, ho, hex, hdat⟩
  have hlen : es.size = kvs.length := by
    have := congrArg List.length hes
    rw [Array.length_toList, List.length_map] at this
    rw [this, ← Paired.length rel]
  have hkl : kvs.length = ks.length := by
    have := congrArg List.length hks
    rwa [List.length_map, List.length_map] at this
  refine Calls.call_function_entry PyProof.Rows.kind_sorted PyProof.Rows.plain_sorted PyProof.Rows.entry_sorted (PyProof.Rows.args_sorted1 _) ?_
  unfold Builtin.«sorted»
  refine wpAny_bind (m := checkCount "sorted" 1 1 _) (wpAny_pure ?_)
  refine wpAny_bind (PySem.W.kdu_collect (A := X.A.in1) (KdlSrc.rawDict lo) (I.ok.hd hcalm) raw (by rw [hlen]; exact hz) fun h' tk acc hk hacc => ?_)
  have hal : acc.toList = (xs.map fun y => Value.ref y.2.1) := by
    refine List.ext_getElem? fun i => ?_
    cases e : acc.toList[i]? with
    | none =>
      have := List.getElem?_eq_none_iff.mp e
      rw [Array.length_toList, hacc.1, hlen, Paired.length rel] at this
      rw [List.getElem?_eq_none (by rw [List.length_map]; exact this)]
    | some v =>
      obtain ⟨hi, ev⟩ := hacc.2 i v (by rw [← Array.getElem?_toList]; exact e)
      have h1 : es.toList[i]? = some es[i] := by rw [Array.getElem?_toList]; exact Array.getElem?_eq_getElem hi
      rw [hes, List.getElem?_map] at h1
      cases h2 : xs[i]? with
      | none => rw [h2] at h1; cases h1
      | some y =>
        rw [h2] at h1
        have h1 := Option.some.inj h1
        rw [List.getElem?_map, h2, ev, ← h1]
        rfl
  have hxk : RpA (fun _ => False) H (xs.map fun y => V.ref y.2.1) (ks.map tupD) := by
    refine ⟨by rw [List.length_map, List.length_map, ← hkl, Paired.length rel], fun i x d hx hd' => ?_⟩
    rw [List.getElem?_map] at hx hd'
    cases e1 : xs[i]? with
    | none => rw [e1] at hx; cases hx
    | some y =>
      cases e2 : ks[i]? with
      | none => rw [e2] at hd'; cases hd'
      | some l =>
        rw [e1] at hx
        rw [e2] at hd'
        have hx : V.ref y.2.1 = x := Option.some.inj hx
        have hd' : tupD l = d := Option.some.inj hd'
        subst hx hd'
        obtain ⟨kv, hkv, rk⟩ := paired_get rel e1
        have e3 : (kvs.map (·.1))[i]? = some (l.map Sum.inl) := by rw [hks, List.getElem?_map, e2]; rfl
        rw [List.getElem?_map, hkv] at e3
        have e3 : kv.1 = l.map Sum.inl := Option.some.inj e3
        have ht := rk.2.1
        rw [e3, List.map_map] at ht
        have e4 : (kV ∘ Sum.inl : Int → V) = V.int := funext fun i => rfl
        rw [e4] at ht
        exact .tupA ht RpA.ints
  have hitem : ∀ v ∈ acc.toList, TupI s.heap v (ktup H (backV v)) ∧ ktup H (backV v) ≠ [] := fun v hv => by
    rw [hal] at hv
    obtain ⟨y, hy, rfl⟩ := List.mem_map.mp hv
    obtain ⟨i, hi⟩ := List.mem_iff_getElem?.mp hy
    obtain ⟨d, hdd, r⟩ := hxk.atx (i := i) (x := V.ref y.2.1) (by rw [List.getElem?_map, hi]; rfl)
    rw [List.getElem?_map] at hdd
    cases e2 : ks[i]? with
    | none => rw [e2] at hdd; cases hdd
    | some l =>
      rw [e2] at hdd
      have hdd : tupD l = d := Option.some.inj hdd
      subst hdd
      obtain ⟨t, et, ht, ek⟩ := r.ktup
      have ek' : ktup H (backV (Value.ref y.2.1)) = l := ek
      rw [ek']
      cases et
      exact ⟨tupI_of I.hok ht, hne l (List.mem_of_getElem? e2)⟩
  have I1 : Inv X pins σ H { s with heap := h', toks := tk } := I.kept hk
  have hsz : acc.toList.length ≤ sizeLine := by rw [Array.length_toList, hacc.1, hlen]; exact hz
  refine wpAny_bind (wpAny_newList ?_ hsz)
  have hoL : (h'.push (PyProof.Rows.seqObj "list" acc.toList.toArray 0)).get? h'.objs.size = some (PyProof.Rows.seqObj "list" acc.toList.toArray 0) := Heap.get?_push_size _ rfl
  show wpAny _ _ _ _ _ { s with heap := h'.push (PyProof.Rows.seqObj "list" acc.toList.toArray 0), toks := tk }
  refine wpAny_bind (wpAny_holding (wpAny_call_entry PyProof.Rows.slot_list_sort ⟨_, hoL, rfl⟩ PyProof.Rows.entry_list_sort
    (SrtO.list_sort_ord (s := { s with heap := h'.push (PyProof.Rows.seqObj "list" acc.toList.toArray 0), toks := tk }) (swo_lexL fun u => ktup H (backV u)) hoL hsz
      (fun h2 => tupI_sortable (by omega) (fun v hv => ⟨(hitem v hv).1.keeps fun b o e _ => Heap.get?_push_of_some _ (hk b o e), (hitem v hv).2⟩) fun o e => ?_) fun out h1 h2 => ⟨_, rfl, ?_⟩)
    (PyProof.Rows.args_list_sort _)))
  · have e' : some o = some (PyProof.Rows.seqObj "list" acc.toList.toArray 0) := e.symm.trans hoL
    cases e'
    intro c
    exact absurd (Value.type.inj c) (by decide)
  · obtain ⟨e', he'⟩ := PyProof.Rows.sortedHeap_at (vs := acc.toList) (out := out.toArray) hoL
    have h3 : ∀ u ∈ out, ∃ a, u = Value.ref a := fun u hu => by
      have := h2.perm.mem_iff.mp hu
      rw [hal] at this
      obtain ⟨y, _, rfl⟩ := List.mem_map.mp this
      exact ⟨_, rfl⟩
    have hperm : (out.map backV).Perm (xs.map fun y => V.ref y.2.1) := by
      have := h2.perm.map backV
      rw [hal, List.map_map] at this
      exact this
    have hlen' : (out.map backV).length ≤ sizeLine := by rw [hperm.length_eq, List.length_map, ← Paired.length rel]; exact hz
    have hsrt := hxk.sorted hperm (List.pairwise_map.mpr h1)
    refine wpAny_pure ⟨_, rfl, .ref h'.objs.size, upd H h'.objs.size (.lst (out.map backV)), I1.laid (t' := tk) (fun b u e => ?_) (Nat.le_refl _) ⟨hlen', out, e', vals_back h3, he'⟩, rfl,
      q _ _ (I1.hok.fresh (Nat.le_refl _)) fun M => hsrt.tups⟩
    have hb : b < h'.objs.size := Heap.lt_size e
    rw [PyProof.Rows.sortedHeap_old (Nat.ne_of_lt hb) (by rw [PyProof.Rows.size_push']; exact Nat.lt_succ_of_lt hb)]
    exact Heap.get?_push_of_some _ e
end
section
variable {M : Addr → Prop} {H : Hp} {x : V} {Q : VK} {ls : List (List Int)} {K : Frag} {ds : List PyData} {rs : List (Int × Int × Int)}
theorem w_sortT (fr : Fr M H) (h : Rp M H x (.list (ls.map tupD))) (hne : ∀ l ∈ ls, l ≠ []) (q : ∀ p H2, H p = none → Same H H2 → Rp M H2 (.ref p) (.list ((sortL ls).map tupD)) → Q (.ref p) H2) : rSortedT K [x] H Q := by
  obtain ⟨a, xs, rfl, m, ha, r⟩ := h.lst_inv
  refine ⟨a, xs, rfl, SqL.of ha, fun x hx => ?_, fun ys p hs hp hn => ?_⟩
  · obtain ⟨i, hi⟩ := List.mem_iff_getElem?.mp hx
    obtain ⟨d, hd, rd⟩ := r.atx hi
    rw [List.getElem?_map] at hd
    cases e : ls[i]? with
    | none => rw [e] at hd; cases hd
    | some l =>
      rw [e] at hd
      have hd : tupD l = d := Option.some.inj hd
      subst hd
      obtain ⟨t, et, ht, _⟩ := rd.ktup
      exact ⟨t, l, et, ht, hne l (List.mem_of_getElem? e)⟩
  · exact q _ _ hn (Same.new hn) (.lstA (fr p hn) upd_same ((r.sorted hp hs).same (Same.new hn)))
end
end Sb

set_option Elab.async false
set_option maxRecDepth 100000
set_option maxHeartbeats 4000000
set_option linter.all false
/-! Rows and shelves as data; what their defs reckon. -/
namespace Sb
open PySem L2 PyProof.Rows
abbrev Row := Int × Int × Int
abbrev Shelf := List Int × List Row
def rowL (r : Row) : List Int := [r.1, r.2.1, r.2.2]
def rowD (r : Row) : PyData := tupD (rowL r)
def rowsD (rs : List Row) : PyData := .list (rs.map rowD)
def shelfD (s : Shelf) : PyData := .tuple [markD s.1, rowsD s.2]
theorem rowL_inj {a b : Row} (h : rowL a = rowL b) : a = b := by
  obtain ⟨a1, a2, a3⟩ := a
  obtain ⟨b1, b2, b3⟩ := b
  simp only [rowL, List.cons.injEq] at h
  obtain ⟨rfl, rfl, rfl, _⟩ := h
  rfl
def rowLe (a b : Row) : Prop := HT.lexLt (rowL b) (rowL a) = false
def sortR (rs : List Row) : List Row := rs.mergeSort fun a b => !HT.lexLt (rowL b) (rowL a)
theorem sortR_perm (rs : List Row) : (sortR rs).Perm rs := List.mergeSort_perm _ _
theorem sortR_srt (rs : List Row) : (sortR rs).Pairwise rowLe :=
  (List.pairwise_mergeSort (le := fun a b => !HT.lexLt (rowL b) (rowL a)) (fun a b c h1 h2 => le_trans_lex (rowL a) (rowL b) (rowL c) h1 h2) (fun a b => le_total_lex (rowL a) (rowL b)) rs).imp fun h => by simpa [rowLe] using h
theorem rowLe_anti {a b : Row} (h1 : rowLe a b) (h2 : rowLe b a) : a = b := rowL_inj (lex_anti _ _ h2 h1)
theorem sortR_uniq {rs ys : List Row} (p : ys.Perm rs) (h : ys.Pairwise rowLe) : ys = sortR rs :=
  List.Perm.eq_of_pairwise (le := rowLe) (fun a b _ _ h1 h2 => rowLe_anti h1 h2) h (sortR_srt rs) (p.trans (sortR_perm rs).symm)
theorem sortL_rows (rs : List Row) : sortL (rs.map rowL) = (sortR rs).map rowL :=
  (sortL_uniq ((sortR_perm rs).map _) (List.pairwise_map.mpr (sortR_srt rs))).symm
theorem sortR_len (rs : List Row) : (sortR rs).length = rs.length := (sortR_perm rs).length_eq
theorem mem_sortR {r : Row} {rs : List Row} : r ∈ sortR rs ↔ r ∈ rs := (sortR_perm rs).mem_iff
def seen (m : List Int) (r : Row) : Bool := decide (r.2.1 ≤ m.getD r.1.toNat 0)
def unseen (rs : List Row) (m : List Int) : List Row := rs.filter fun r => !seen m r
def putOn (s : Shelf) (k : Nat) (v : Int) (m : List Int) : Shelf :=
  ((joinM s.1 m).set k (s.1.getD k 0 + 1), sortR (unseen s.2 m ++ [((k : Int), s.1.getD k 0 + 1, v)]))
def droppedS (s : Shelf) (m : List Int) : Shelf := (joinM s.1 m, unseen s.2 m)
def metRows (s t : Shelf) : List Row := s.2.filter (fun r => decide (r ∈ t.2)) ++ unseen s.2 t.1 ++ unseen t.2 s.1
def metS (s t : Shelf) : Shelf := (joinM s.1 t.1, sortR (metRows s t))
/-- every row's keeper is there -/
def Rin (n : Nat) (rs : List Row) : Prop := ∀ r ∈ rs, 0 ≤ r.1 ∧ r.1 < n
theorem Rin.unseen {n : Nat} {rs : List Row} {m : List Int} (h : Rin n rs) : Rin n (unseen rs m) := fun r hr => h r (List.mem_filter.mp hr).1
theorem Rin.sort {n : Nat} {rs : List Row} (h : Rin n rs) : Rin n (sortR rs) := fun r hr => h r (mem_sortR.mp hr)
theorem Rin.app {n : Nat} {rs qs : List Row} (h : Rin n rs) (h' : Rin n qs) : Rin n (rs ++ qs) := fun r hr => (List.mem_append.mp hr).elim (h r) (h' r)
/-! equal rows -/
theorem eqv_row (a b : Row) : PyData.eqv (rowD a) (rowD b) = decide (a = b) := by
  have e : PyData.eqv (rowD a) (rowD b) = decide (rowL a = rowL b) := eqv_mark (rowL a) (rowL b)
  rw [e]
  by_cases h : a = b
  · subst h; simp
  · rw [decide_eq_false h, decide_eq_false fun z => h (rowL_inj z)]
theorem eqvAll_rows : ∀ a b : List Row, PyData.eqvAll (a.map rowD) (b.map rowD) = decide (a = b)
  | [], [] => rfl
  | [], _ :: _ => rfl
  | _ :: _, [] => rfl
  | r :: a, q :: b => by
    rw [List.map_cons, List.map_cons]
    unfold PyData.eqvAll
    rw [eqvAll_rows a b, eqv_row]
    by_cases h : r = q <;> by_cases h' : a = b <;> simp [h, h']
theorem eqv_rows (a b : List Row) : PyData.eqv (rowsD a) (rowsD b) = decide (a = b) := by
  unfold rowsD PyData.eqv
  exact eqvAll_rows a b
theorem lay_row (r : Row) : PyData.canLay0 (rowD r) = true := by
  show PyData.canLayAll0 ((rowL r).map PyData.int) = true
  exact lay_ints _
theorem lay_rows : ∀ rs : List Row, PyData.canLayAll0 (rs.map rowD) = true
  | [] => by simp [PyData.canLayAll0]
  | r :: rs => by
    rw [List.map_cons]
    unfold PyData.canLayAll0
    rw [lay_row, lay_rows rs]; rfl
theorem depth_row (r : Row) : (rowD r).depth = 1 := by
  unfold rowD tupD PyData.depth
  rw [depth_ints]
theorem depth_rows : ∀ rs : List Row, PyData.depthAll (rs.map rowD) ≤ 1
  | [] => by simp [PyData.depthAll]
  | r :: rs => by
    have h := depth_rows rs
    rw [List.map_cons]
    unfold PyData.depthAll
    rw [depth_row]; omega
theorem shaped_row (r : Row) : SeqAt.shaped (rowD r) = true := shaped_mark (rowL r)
theorem shaped_rows (rs : List Row) : SeqAt.shaped (rowsD rs) = true := by
  unfold SeqAt.shaped rowsD
  have h := depth_rows rs
  rw [Bool.and_eq_true]
  refine ⟨?_, decide_eq_true ?_⟩
  · unfold PyData.canLay0; exact lay_rows rs
  · unfold PyData.depth; omega
section
variable {M M' : Addr → Prop} {H : Hp} {x y : V} {p : Addr} {Q : VK} {K : Frag} {rs qs : List Row} {r : Row} {s : Shelf} {i : Int}
theorem rows_map (rs : List Row) : rs.map rowD = (rs.map rowL).map tupD := by rw [List.map_map]; rfl
theorem w_sortR (fr : Fr M H) (h : Rp M H x (rowsD rs)) (q : ∀ p H2, H p = none → Same H H2 → Rp M H2 (.ref p) (rowsD (sortR rs)) → Q (.ref p) H2) : rSortedT K [x] H Q := by
  unfold rowsD at h
  rw [rows_map] at h
  refine w_sortT fr h (fun l hl => ?_) fun p H2 n s r => q p H2 n s ?_
  · obtain ⟨r, _, rfl⟩ := List.mem_map.mp hl
    intro z; cases z
  · unfold rowsD
    rw [rows_map, ← sortL_rows]
    exact r
theorem any_row (r : Row) : ∀ rs : List Row, ((rs.map rowD).any fun z => PyData.eqv z (rowD r)) = decide (r ∈ rs)
  | [] => rfl
  | q :: rs => by
    rw [List.map_cons, List.any_cons, any_row r rs, eqv_row]
    by_cases h : q = r <;> by_cases h' : r ∈ rs
    · subst h; simp
    · subst h; simp
    · simp [h, h']
    · have h2 : ¬ r = q := fun z => h z.symm
      simp [h, h', h2]
theorem w_inR (h : Rp M H x (rowD r)) (h' : Rp M' H y (rowsD rs)) (q : Q (.bl (decide (r ∈ rs))) H) : rInD K x y H Q :=
  ⟨_, _, h.dp, h'.dp, shaped_row r, shaped_rows rs, by rw [any_row]; exact q⟩
theorem w_ninR (h : Rp M H x (rowD r)) (h' : Rp M' H y (rowsD rs)) (q : Q (.bl (!decide (r ∈ rs))) H) : rNotInD K x y H Q :=
  ⟨_, _, h.dp, h'.dp, shaped_row r, shaped_rows rs, by rw [any_row]; exact q⟩
theorem w_eqR (h : Rp M H x (rowsD rs)) (h' : Rp M' H y (rowsD qs)) (q : Q (.bl (decide (rs = qs))) H) : rEqD K x y H Q :=
  ⟨_, _, h.dp, h'.dp, shaped_rows rs, shaped_rows qs, by rw [eqv_rows]; exact q⟩
theorem w_neR (h : Rp M H x (rowsD rs)) (h' : Rp M' H y (rowsD qs)) (q : Q (.bl (!decide (rs = qs))) H) : rNeD K x y H Q :=
  ⟨_, _, h.dp, h'.dp, shaped_rows rs, shaped_rows qs, by rw [eqv_rows]; exact q⟩
/-- the parts of a row, of a shelf -/
theorem w_row0 (h : Rp M H x (rowD r)) (q : Q (.int r.1) H) : rIxT K x (.int 0) H Q := w_ixT 0 h rfl (d := .int r.1) rfl fun v e => by rw [e.int_inv]; exact q
theorem w_row1 (h : Rp M H x (rowD r)) (q : Q (.int r.2.1) H) : rIxT K x (.int 1) H Q := w_ixT 1 h rfl (d := .int r.2.1) rfl fun v e => by rw [e.int_inv]; exact q
theorem w_row2 (h : Rp M H x (rowD r)) (q : Q (.int r.2.2) H) : rIxT K x (.int 2) H Q := w_ixT 2 h rfl (d := .int r.2.2) rfl fun v e => by rw [e.int_inv]; exact q
theorem w_shelf0 (h : Rp M H x (shelfD s)) (q : ∀ v, Rp M H v (markD s.1) → Q v H) : rIxT K x (.int 0) H Q := w_ixT 0 h rfl (d := markD s.1) rfl q
theorem w_shelf1 (h : Rp M H x (shelfD s)) (q : ∀ v, Rp M H v (rowsD s.2) → Q v H) : rIxT K x (.int 1) H Q := w_ixT 1 h rfl (d := rowsD s.2) rfl q
theorem Rp.shelf {a b : V} (h1 : Rp M H a (markD s.1)) (h2 : Rp M H b (rowsD s.2)) : RpA M H [a, b] [markD s.1, rowsD s.2] := RpA.nil.cons h2 |>.cons h1
theorem fm_filter {rs : List Row} (p : Row → Bool) : rs.filterMap (fun r => if p r = true then some (rowD r) else none) = (rs.filter p).map rowD := by
  induction rs with
  | nil => rfl
  | cons r rs ih =>
    rw [List.filterMap_cons, List.filter_cons]
    by_cases h : p r = true
    · simp only [h, if_true, List.map_cons, ih]
    · simp only [h, if_false, ih]; simp
/-- a list of rows, by its address -/
theorem Rp.rows_at (h : Rp M H (.ref p) (rowsD rs)) (m : ¬ M' p) : Rp M' H (.ref p) (rowsD rs) := by
  obtain ⟨a, xs, e, _, ha, r⟩ := Rp.lst_inv (ds := rs.map rowD) h
  cases e
  rw [rows_map] at r
  have r' : RpA M' H xs ((rs.map rowL).map tupD) := r.tups
  rw [← rows_map] at r'
  exact .lstA m ha r'
end
end Sb

set_option Elab.async false
set_option maxRecDepth 100000
set_option maxHeartbeats 4000000
set_option linter.all false
/-! Shelves: what meets, in plain Lean. -/
namespace Sb
open PySem L2 PyProof.Rows
theorem joinM_getD {a b : List Int} (e : a.length = b.length) {i : Nat} (hi : i < a.length) : (joinM a b).getD i 0 = max (a.getD i 0) (b.getD i 0) := by
  rw [List.getD_eq_getElem?_getD, joinM_get e hi]; rfl
theorem joinM_comm (a b : List Int) : joinM a b = joinM b a := by
  unfold joinM
  rw [List.zipWith_comm]
  congr 1
  funext x y
  exact Int.max_comm y x
theorem joinM_self : ∀ a : List Int, joinM a a = a
  | [] => rfl
  | x :: a => by
    show max x x :: joinM a a = x :: a
    rw [joinM_self a, Int.max_self]
theorem ext_getD {a b : List Int} (e : a.length = b.length) (h : ∀ i, i < a.length → a.getD i 0 = b.getD i 0) : a = b := by
  refine List.ext_getElem e fun i h1 h2 => ?_
  have := h i h1
  rwa [List.getD_eq_getElem?_getD, List.getD_eq_getElem?_getD, List.getElem?_eq_getElem h1, List.getElem?_eq_getElem h2] at this
theorem joinM_abs {a b : List Int} (e : a.length = b.length) : joinM (joinM a b) a = joinM a b := by
  have l := joinM_len e
  refine ext_getD (by rw [joinM_len (by omega)]) fun i hi => ?_
  rw [joinM_len (by omega)] at hi
  rw [joinM_getD (by omega) hi, joinM_getD e (by omega)]
  omega
theorem seen_join {a b : List Int} (e : a.length = b.length) {r : Row} (h0 : 0 ≤ r.1) (h : r.1 < a.length) : seen (joinM a b) r = (seen a r || seen b r) := by
  unfold seen
  rw [joinM_getD e (by omega)]
  generalize a.getD r.1.toNat 0 = x
  generalize b.getD r.1.toNat 0 = y
  rw [← Bool.decide_or]
  exact decide_eq_decide.mpr (by omega)
theorem mem_unseen {r : Row} {rs : List Row} {m : List Int} : r ∈ unseen rs m ↔ r ∈ rs ∧ seen m r = false := by
  unfold unseen
  rw [List.mem_filter]
  simp
/-- a shelf as it may be: of n keepers; its rows in order, none twice, all seen by its mark -/
structure WF (n : Nat) (s : Shelf) : Prop where
  len : s.1.length = n
  rin : Rin n s.2
  saw : ∀ r ∈ s.2, seen s.1 r = true
  srt : s.2.Pairwise rowLe
  nod : s.2.Nodup
theorem sort_same {rs : List Row} (h : rs.Pairwise rowLe) : sortR rs = rs := (sortR_uniq (List.Perm.refl _) h).symm
theorem sort_ext {rs qs : List Row} (h1 : rs.Nodup) (h2 : qs.Nodup) (h : ∀ r, r ∈ rs ↔ r ∈ qs) : sortR rs = sortR qs :=
  sortR_uniq ((sortR_perm rs).trans ((List.perm_ext_iff_of_nodup h1 h2).mpr h)) (sortR_srt rs)
theorem rows_ext {rs qs : List Row} (h1 : rs.Nodup) (h2 : qs.Nodup) (s1 : rs.Pairwise rowLe) (s2 : qs.Pairwise rowLe) (h : ∀ r, r ∈ rs ↔ r ∈ qs) : rs = qs := by
  rw [← sort_same s1, ← sort_same s2]
  exact sort_ext h1 h2 h
theorem sortR_nod {rs : List Row} (h : rs.Nodup) : (sortR rs).Nodup := (sortR_perm rs).nodup_iff.mpr h
theorem mem_metRows {s t : Shelf} {r : Row} : r ∈ metRows s t ↔ (r ∈ s.2 ∧ r ∈ t.2) ∨ (r ∈ s.2 ∧ seen t.1 r = false) ∨ (r ∈ t.2 ∧ seen s.1 r = false) := by
  unfold metRows
  rw [List.mem_append, List.mem_append, mem_unseen, mem_unseen, List.mem_filter, decide_eq_true_eq, or_assoc]
theorem metRows_nod {n : Nat} {s t : Shelf} (hs : WF n s) (ht : WF n t) : (metRows s t).Nodup := by
  unfold metRows
  refine List.nodup_append.mpr ⟨List.nodup_append.mpr ⟨hs.nod.filter _, hs.nod.filter _, fun a ha b hb e => ?_⟩, ht.nod.filter _, fun a ha b hb e => ?_⟩
  · subst e
    have h1 := (List.mem_filter.mp ha).2
    have h2 := (mem_unseen.mp hb).2
    have := ht.saw a (of_decide_eq_true h1)
    rw [h2] at this; cases this
  · subst e
    have h2 := mem_unseen.mp hb
    have h1 : a ∈ s.2 := by
      rcases List.mem_append.mp ha with h | h
      · exact (List.mem_filter.mp h).1
      · exact (mem_unseen.mp h).1
    have := hs.saw a h1
    rw [h2.2] at this; cases this
theorem WF.met {n : Nat} {s t : Shelf} (hs : WF n s) (ht : WF n t) : WF n (metS s t) := by
  have e : s.1.length = t.1.length := by rw [hs.len, ht.len]
  have hin : Rin n (metRows s t) := fun r hr => by
    rcases mem_metRows.mp hr with h | h | h
    · exact hs.rin r h.1
    · exact hs.rin r h.1
    · exact ht.rin r h.1
  refine ⟨by show (joinM s.1 t.1).length = n; rw [joinM_len e, hs.len], hin.sort, fun r hr => ?_, sortR_srt _, sortR_nod (metRows_nod hs ht)⟩
  have hr := mem_sortR.mp hr
  obtain ⟨h0, h1⟩ := hin r hr
  show seen (joinM s.1 t.1) r = true
  rw [seen_join e h0 (by rw [hs.len]; exact h1)]
  rcases mem_metRows.mp hr with h | h | h
  · rw [hs.saw r h.1]; rfl
  · rw [hs.saw r h.1]; rfl
  · rw [ht.saw r h.1, Bool.or_true]
theorem mem_met {s t : Shelf} {r : Row} : r ∈ (metS s t).2 ↔ (r ∈ s.2 ∧ r ∈ t.2) ∨ (r ∈ s.2 ∧ seen t.1 r = false) ∨ (r ∈ t.2 ∧ seen s.1 r = false) := mem_sortR.trans mem_metRows
theorem met_comm {n : Nat} {s t : Shelf} (hs : WF n s) (ht : WF n t) : metS s t = metS t s := by
  refine Prod.ext (joinM_comm _ _) ?_
  refine sort_ext (metRows_nod hs ht) (metRows_nod ht hs) fun r => ?_
  rw [mem_metRows, mem_metRows]
  constructor
  · rintro (⟨a, b⟩ | h | h)
    · exact .inl ⟨b, a⟩
    · exact .inr (.inr h)
    · exact .inr (.inl h)
  · rintro (⟨a, b⟩ | h | h)
    · exact .inl ⟨b, a⟩
    · exact .inr (.inr h)
    · exact .inr (.inl h)
/-- s lies in t: what t knows is what s knew, and more -/
structure Lies (s t : Shelf) : Prop where
  mark : joinM t.1 s.1 = t.1
  row : ∀ r ∈ t.2, seen s.1 r = true → r ∈ s.2
  saw : ∀ r ∈ s.2, seen t.1 r = true
theorem met_lies {n : Nat} {s t : Shelf} (hs : WF n s) (ht : WF n t) (h : Lies s t) : metS t s = t := by
  refine Prod.ext h.mark ?_
  refine rows_ext (sortR_nod (metRows_nod ht hs)) ht.nod (sortR_srt _) ht.srt fun r => ?_
  rw [mem_met]
  constructor
  · rintro (⟨a, _⟩ | ⟨a, _⟩ | ⟨a, b⟩)
    · exact a
    · exact a
    · rw [h.saw r a] at b; cases b
  · intro hr
    by_cases q : seen s.1 r = true
    · exact .inl ⟨hr, h.row r hr q⟩
    · exact .inr (.inl ⟨hr, by simpa using q⟩)
theorem lies_self {n : Nat} {s : Shelf} (hs : WF n s) : Lies s s := ⟨joinM_self _, fun _ h _ => h, hs.saw⟩
theorem lies_met {n : Nat} {s t : Shelf} (hs : WF n s) (ht : WF n t) : Lies s (metS s t) := by
  have e : s.1.length = t.1.length := by rw [hs.len, ht.len]
  refine ⟨joinM_abs e, fun r hr q => ?_, fun r hr => ?_⟩
  · rcases mem_met.mp hr with h | h | h
    · exact h.1
    · exact h.1
    · rw [h.2] at q; cases q
  · obtain ⟨h0, h1⟩ := hs.rin r hr
    show seen (joinM s.1 t.1) r = true
    rw [seen_join e h0 (by rw [hs.len]; exact h1), hs.saw r hr]; rfl
theorem met_self {n : Nat} {s : Shelf} (hs : WF n s) : metS s s = s := met_lies hs hs (lies_self hs)
theorem met_abs {n : Nat} {s t : Shelf} (hs : WF n s) (ht : WF n t) : metS (metS s t) s = metS s t := met_lies hs (hs.met ht) (lies_met hs ht)
theorem metRows_len {s t : Shelf} : (metRows s t).length ≤ s.2.length + s.2.length + t.2.length := by
  unfold metRows
  rw [List.length_append, List.length_append]
  have h1 := List.length_filter_le (fun r => decide (r ∈ t.2)) s.2
  have h2 := List.length_filter_le (fun r => !seen t.1 r) s.2
  have h3 := List.length_filter_le (fun r => !seen s.1 r) t.2
  unfold unseen
  omega
end Sb

set_option Elab.async false
set_option maxRecDepth 100000
set_option maxHeartbeats 4000000
set_option linter.all false
/-! A store as it stands: its instance, its list of dicts, the shelves in them. -/
namespace Sb
open PySem L2 PyProof.Rows
abbrev KV1 := List (Str × Shelf)
abbrev Kept := List KV1
def aGet (kv : KV1) (s : Str) : Option Shelf := (kv.find? fun p => decide (p.1 = s)).map (·.2)
def aPut (kv : KV1) (s : Str) (sh : Shelf) : KV1 :=
  if (kv.any fun p => decide (p.1 = s)) = true then kv.map (fun p => if p.1 = s then (p.1, sh) else p) else kv ++ [(s, sh)]
theorem aGet_nil {s : Str} : aGet [] s = none := rfl
theorem aGet_cons {p : Str × Shelf} {kv : KV1} {s : Str} : aGet (p :: kv) s = if p.1 = s then some p.2 else aGet kv s := by
  unfold aGet
  by_cases h : p.1 = s
  · rw [List.find?_cons_of_pos (by simpa using h), if_pos h]; rfl
  · rw [List.find?_cons_of_neg (by simpa using h), if_neg h]
theorem aGet_any (s : Str) : ∀ kv : KV1, (kv.any fun p => decide (p.1 = s)) = (aGet kv s).isSome
  | [] => rfl
  | p :: kv => by
    rw [List.any_cons, aGet_cons, aGet_any s kv]
    by_cases h : p.1 = s <;> simp [h]
theorem aGet_map (s s' : Str) (sh : Shelf) : ∀ kv : KV1, aGet (kv.map fun p => if p.1 = s then (p.1, sh) else p) s' = (aGet kv s').map fun x => if s' = s then sh else x
  | [] => rfl
  | p :: kv => by
    rw [List.map_cons, aGet_cons, aGet_cons, aGet_map s s' sh kv]
    by_cases h : p.1 = s
    · rw [if_pos h]
      by_cases h' : p.1 = s'
      · have h2 : s' = s := h'.symm.trans h
        rw [if_pos h', if_pos h', Option.map_some, if_pos h2]
      · rw [if_neg h', if_neg h']
    · rw [if_neg h]
      by_cases h' : p.1 = s'
      · have h2 : ¬ s' = s := fun z => h (h'.trans z)
        rw [if_pos h', if_pos h', Option.map_some, if_neg h2]
      · rw [if_neg h', if_neg h']
theorem aGet_app (s s' : Str) (sh : Shelf) : ∀ kv : KV1, aGet kv s = none → aGet (kv ++ [(s, sh)]) s' = if s' = s then some sh else aGet kv s'
  | [], _ => by
    show aGet [(s, sh)] s' = _
    rw [aGet_cons]
    by_cases h : s = s'
    · rw [if_pos h, if_pos h.symm]
    · rw [if_neg h, if_neg fun z => h z.symm]
  | p :: kv, h => by
    rw [aGet_cons] at h
    by_cases e : p.1 = s
    · rw [if_pos e] at h; cases h
    · rw [if_neg e] at h
      rw [List.cons_append, aGet_cons, aGet_cons, aGet_app s s' sh kv h]
      by_cases e' : p.1 = s'
      · rw [if_pos e', if_pos e', if_neg fun z => e (e'.trans z)]
      · rw [if_neg e', if_neg e']
theorem aGet_put (kv : KV1) (s s' : Str) (sh : Shelf) : aGet (aPut kv s sh) s' = if s' = s then some sh else aGet kv s' := by
  unfold aPut
  rw [aGet_any]
  cases h : aGet kv s with
  | none => exact aGet_app s s' sh kv h
  | some x =>
    show aGet (kv.map fun p => if p.1 = s then (p.1, sh) else p) s' = _
    rw [aGet_map]
    by_cases e : s' = s
    · subst e; rw [h, if_pos rfl, Option.map_some, if_pos rfl]
    · rw [if_neg e]
      cases aGet kv s' with
      | none => rfl
      | some y => rw [Option.map_some, if_neg e]
theorem aPut_keys (kv : KV1) (s : Str) (sh : Shelf) : (aPut kv s sh).map (·.1) = kv.map (·.1) ∨ (s ∉ kv.map (·.1) ∧ (aPut kv s sh).map (·.1) = kv.map (·.1) ++ [s]) := by
  unfold aPut
  by_cases h : (kv.any fun p => decide (p.1 = s)) = true
  · rw [if_pos h]
    refine .inl ?_
    rw [List.map_map]
    refine List.map_congr_left fun p _ => ?_
    show (if p.1 = s then (p.1, sh) else p).1 = p.1
    split <;> rfl
  · rw [if_neg h]
    refine .inr ⟨fun z => h ?_, by rw [List.map_append]; rfl⟩
    obtain ⟨p, hp, e⟩ := List.mem_map.mp z
    exact List.any_eq_true.mpr ⟨p, hp, decide_eq_true e⟩
theorem aPut_nod {kv : KV1} {s : Str} {sh : Shelf} (h : (kv.map (·.1)).Nodup) : ((aPut kv s sh).map (·.1)).Nodup := by
  rcases aPut_keys kv s sh with e | ⟨n, e⟩
  · rw [e]; exact h
  · rw [e]; exact nd_snoc h n
theorem aPut_len (kv : KV1) (s : Str) (sh : Shelf) : (aPut kv s sh).length ≤ kv.length + 1 := by
  unfold aPut
  split
  · rw [List.length_map]; omega
  · rw [List.length_append]; exact Nat.le_refl _
theorem aGet_mem {kv : KV1} {s : Str} {sh : Shelf} (h : aGet kv s = some sh) : (s, sh) ∈ kv := by
  unfold aGet at h
  cases e : kv.find? (fun p => decide (p.1 = s)) with
  | none => rw [e] at h; cases h
  | some p =>
    rw [e] at h
    have h1 := List.find?_some e
    have h2 := List.mem_of_find?_eq_some e
    have h3 : p.2 = sh := Option.some.inj h
    have h4 : p.1 = s := of_decide_eq_true h1
    rw [← h3, ← h4]; exact h2
/-- the shelf of a key at a keeper -/
def shelfOf (n : Nat) (kv : KV1) (s : Str) : Shelf := (aGet kv s).getD (List.replicate n 0, [])
theorem shelfOf_put (n : Nat) (kv : KV1) (s s' : Str) (sh : Shelf) : shelfOf n (aPut kv s sh) s' = if s' = s then sh else shelfOf n kv s' := by
  unfold shelfOf
  rw [aGet_put]
  split <;> rfl
/-- a dict's pairs and their shelves -/
def DRel (M : Addr → Prop) (H : Hp) (kvs : List (Key × V)) (kv : KV1) : Prop := Paired (fun (p : Key × V) (q : Str × Shelf) => p.1 = Sum.inr q.1 ∧ Rp M H p.2 (shelfD q.2)) kvs kv
section
variable {M M' : Addr → Prop} {H H' : Hp} {kvs : List (Key × V)} {kv : KV1} {s : Str} {x : V} {sh : Shelf}
theorem DRel.ext (h : DRel M H kvs kv) (e : Ext M M' H H') : DRel M' H' kvs kv := Paired.mapP h fun p q r => ⟨r.1, r.2.ext e⟩
theorem DRel.get : ∀ {kvs : List (Key × V)} {kv : KV1}, DRel M H kvs kv → (valV kvs (Sum.inr s : Key) = none ∧ aGet kv s = none) ∨ ∃ x sh, valV kvs (Sum.inr s : Key) = some x ∧ aGet kv s = some sh ∧ Rp M H x (shelfD sh)
  | _, _, .nil => .inl ⟨rfl, rfl⟩
  | p :: kvs, q :: kv, .cons r t => by
    by_cases e : q.1 = s
    · have e' : p.1 = Sum.inr s := by rw [r.1, e]
      exact .inr ⟨p.2, q.2, valV_pos e', by rw [aGet_cons, if_pos e], r.2⟩
    · have e' : ¬ p.1 = Sum.inr s := fun z => e (Sum.inr.inj (r.1.symm.trans z))
      rcases DRel.get t with ⟨h1, h2⟩ | ⟨x, sh, h1, h2, h3⟩
      · exact .inl ⟨by rw [valV_neg e']; exact h1, by rw [aGet_cons, if_neg e]; exact h2⟩
      · exact .inr ⟨x, sh, by rw [valV_neg e']; exact h1, by rw [aGet_cons, if_neg e]; exact h2, h3⟩
theorem DRel.map (rx : Rp M H x (shelfD sh)) : ∀ {kvs : List (Key × V)} {kv : KV1}, DRel M H kvs kv → DRel M H (kvs.map fun p => if p.1 = (Sum.inr s : Key) then (p.1, x) else p) (kv.map fun q => if q.1 = s then (q.1, sh) else q)
  | _, _, .nil => .nil
  | p :: kvs, q :: kv, .cons r t => by
    refine .cons ?_ (DRel.map rx t)
    by_cases e : q.1 = s
    · have e' : p.1 = Sum.inr s := by rw [r.1, e]
      dsimp only
      rw [if_pos e, if_pos e']
      exact ⟨r.1, rx⟩
    · have e' : ¬ p.1 = Sum.inr s := fun z => e (Sum.inr.inj (r.1.symm.trans z))
      dsimp only
      rw [if_neg e, if_neg e']
      exact r
theorem paired_app {α β : Type} {F : α → β → Prop} : ∀ {l₁ : List α} {l₂ : List β} {a : α} {b : β}, Paired F l₁ l₂ → F a b → Paired F (l₁ ++ [a]) (l₂ ++ [b])
  | _, _, _, _, .nil, h => .cons h .nil
  | _, _, _, _, .cons r t, h => .cons r (paired_app t h)
theorem DRel.put (h : DRel M H kvs kv) (rx : Rp M H x (shelfD sh)) : DRel M H (putK kvs (Sum.inr s : Key) x) (aPut kv s sh) := by
  unfold putK aPut
  rw [valV_any, aGet_any]
  rcases h.get (s := s) with ⟨h1, h2⟩ | ⟨y, sh', h1, h2, _⟩
  · rw [h1, h2]
    exact paired_app h ⟨rfl, rx⟩
  · rw [h1, h2]
    exact h.map rx
theorem DRel.len (h : DRel M H kvs kv) : kvs.length = kv.length := Paired.length h
theorem DRel.at : ∀ {kvs : List (Key × V)} {kv : KV1} {i : Nat} {q : Str × Shelf}, DRel M H kvs kv → kv[i]? = some q → ∃ x, kvs[i]? = some (Sum.inr q.1, x) ∧ Rp M H x (shelfD q.2)
  | _, _, _, _, .nil, e => by simp at e
  | p :: kvs, _, 0, q, .cons r _, e => by
    simp at e; subst e
    refine ⟨p.2, ?_, r.2⟩
    show some p = _
    rw [← r.1]
  | _, _, i + 1, q, .cons _ t, e => by
    obtain ⟨x, h1, h2⟩ := DRel.at (i := i) (q := q) t (by simpa using e)
    exact ⟨x, by simpa using h1, h2⟩
end
/-! ### the instance -/
theorem kfs : ¬ (("first" : Str) = "kept") := by decide +kernel
def sflds (vf : V) (l : Addr) : List (Str × V) := putF "kept" (.ref l) (putF "first" vf [])
theorem sflds_first (vf : V) (l : Addr) : (sflds vf l).lookup ("first" : Str) = some vf := by
  unfold sflds
  rw [lookup_putF, if_neg kfs, lookup_putF, if_pos rfl]
theorem sflds_kept (vf : V) (l : Addr) : (sflds vf l).lookup ("kept" : Str) = some (.ref l) := by
  unfold sflds
  rw [lookup_putF, if_pos rfl]
theorem sflds_no (vf : V) (l : Addr) {m : Str} (h1 : ¬ m = "first") (h2 : ¬ m = "kept") : (sflds vf l).lookup m = none := by
  unfold sflds
  rw [lookup_putF, if_neg h2, lookup_putF, if_neg h1]
  rfl
/-- a store of n keepers stands at v: its dicts at ds hold the shelves st -/
structure StoreAt (M : Addr → Prop) (H : Hp) (C : Addr) (v : V) (ds : List Addr) (n : Nat) (st : Kept) : Prop where
  obj : ∃ p dx l vf, v = .ref p ∧ H p = some (.ins C dx (sflds vf l)) ∧ Rp M H vf (markD (List.replicate n 0)) ∧ ¬ M l ∧ H l = some (.lst (ds.map V.ref))
  dl : ds.length = n
  sl : st.length = n
  nd : ds.Nodup
  dic : ∀ (k : Nat) (d : Addr) (kv : KV1), ds[k]? = some d → st[k]? = some kv → ∃ kvs, H d = some (.dK kvs) ∧ DRel M H kvs kv
section
variable {M M' : Addr → Prop} {H H' : Hp} {C : Addr} {v : V} {ds : List Addr} {n : Nat} {st : Kept} {K : Frag} {Q : VK}
theorem StoreAt.occ (S : StoreAt M H C v ds n st) {d : Addr} (h : d ∈ ds) : ∃ kvs, H d = some (.dK kvs) := by
  obtain ⟨k, hk⟩ := List.mem_iff_getElem?.mp h
  have h1 := (List.getElem?_eq_some_iff.mp hk).1
  have h2 : k < st.length := by rw [S.sl, ← S.dl]; exact h1
  obtain ⟨kvs, h3, _⟩ := S.dic k d st[k] hk (List.getElem?_eq_getElem h2)
  exact ⟨kvs, h3⟩
theorem StoreAt.same (S : StoreAt M H C v ds n st) (s : Same H H') : StoreAt M H' C v ds n st := by
  obtain ⟨p, dx, l, vf, e, h1, h2, h3, h4⟩ := S.obj
  refine ⟨⟨p, dx, l, vf, e, s _ _ h1, h2.same s, h3, s _ _ h4⟩, S.dl, S.sl, S.nd, fun k d kv hd hk => ?_⟩
  obtain ⟨kvs, a, b⟩ := S.dic k d kv hd hk
  exact ⟨kvs, s _ _ a, b.ext (.same s)⟩
/-- a thing of the law's own is written: a list among the changing ones, or a dict that is none of the store's -/
theorem StoreAt.but {q : Addr} (S : StoreAt M H C v ds n st) (b : But q H H') (hl : ∀ xs, H q ≠ some (.tup xs) ∧ (¬ M q → H q ≠ some (.lst xs))) (hi : ∀ D dx fs, H q ≠ some (.ins D dx fs)) (hq : q ∉ ds) : StoreAt M H' C v ds n st := by
  obtain ⟨p, dx, l, vf, e, h1, h2, h3, h4⟩ := S.obj
  have ex : Ext M M H H' := b.ext hl
  refine ⟨⟨p, dx, l, vf, e, b _ _ (fun z => by subst z; exact hi _ _ _ h1) h1, h2.ext ex, h3, (ex.lst _ _ h3 h4).2⟩, S.dl, S.sl, S.nd, fun k d kv hd hk => ?_⟩
  obtain ⟨kvs, a, r⟩ := S.dic k d kv hd hk
  exact ⟨kvs, b _ _ (fun z => hq (by rw [← z]; exact List.mem_of_getElem? hd)) a, r.ext ex⟩
/-- one more address changes: it was new -/
theorem StoreAt.fresh {q : Addr} (S : StoreAt M H C v ds n st) (s : Same H H') (hq : H q = none) : StoreAt (fun a => M a ∨ a = q) H' C v ds n st := by
  obtain ⟨p, dx, l, vf, e, h1, h2, h3, h4⟩ := S.obj
  have ex : Ext M (fun a => M a ∨ a = q) H H' := Ext.fresh s hq
  refine ⟨⟨p, dx, l, vf, e, s _ _ h1, h2.ext ex, (ex.lst _ _ h3 h4).1, s _ _ h4⟩, S.dl, S.sl, S.nd, fun k d kv hd hk => ?_⟩
  obtain ⟨kvs, a, r⟩ := S.dic k d kv hd hk
  exact ⟨kvs, s _ _ a, r.ext ex⟩
theorem StoreAt.less (S : StoreAt M H C v ds n st) (k : ∀ a, M' a → M a) : StoreAt M' H C v ds n st := by
  obtain ⟨p, dx, l, vf, e, h1, h2, h3, h4⟩ := S.obj
  have ex : Ext M M' H H := Ext.less k
  refine ⟨⟨p, dx, l, vf, e, h1, h2.ext ex, fun z => h3 (k _ z), h4⟩, S.dl, S.sl, S.nd, fun i d kv hd hk => ?_⟩
  obtain ⟨kvs, a, r⟩ := S.dic i d kv hd hk
  exact ⟨kvs, a, r.ext ex⟩
/-- a shelf is laid in the dict of keeper k -/
theorem StoreAt.put {k : Nat} {d : Addr} {kv : KV1} {kvs : List (Key × V)} {key : Str} {x : V} {sh : Shelf} (S : StoreAt M H C v ds n st) (hd : ds[k]? = some d) (hk : st[k]? = some kv) (hx : Rp M H x (shelfD sh))
    (hkv : H d = some (.dK kvs)) (hr : DRel M H kvs kv) : StoreAt M (upd H d (.dK (putK kvs (Sum.inr key : Key) x))) C v ds n (st.set k (aPut kv key sh)) := by
  obtain ⟨p, dx, l, vf, e, h1, h2, h3, h4⟩ := S.obj
  have bt : But d H (upd H d (.dK (putK kvs (Sum.inr key : Key) x))) := But.upd _
  have ex : Ext M M H (upd H d (.dK (putK kvs (Sum.inr key : Key) x))) := bt.ext fun xs => ⟨fun z => (by rw [hkv] at z; cases z), fun _ z => (by rw [hkv] at z; cases z)⟩
  refine ⟨⟨p, dx, l, vf, e, bt _ _ (fun z => by subst z; rw [hkv] at h1; cases h1) h1, h2.ext ex, h3, (ex.lst _ _ h3 h4).2⟩, S.dl, by rw [List.length_set]; exact S.sl, S.nd, fun i d' kv' hd' hk' => ?_⟩
  by_cases ei : i = k
  · subst ei
    rw [hd] at hd'
    cases hd'
    have hl : i < st.length := (List.getElem?_eq_some_iff.mp hk).1
    rw [List.getElem?_set_self hl] at hk'
    cases hk'
    exact ⟨_, upd_same, (hr.put hx).ext ex⟩
  · rw [List.getElem?_set_ne (fun z => ei z.symm)] at hk'
    obtain ⟨kvs', a, r⟩ := S.dic i d' kv' hd' hk'
    have hne : d' ≠ d := fun z => ei (nd_ix S.nd (by rw [← z]; exact hd') hd)
    exact ⟨kvs', by rw [upd_ne hne]; exact a, r.ext ex⟩
end
/-! ### fields and methods, named -/
def rFld (K : Frag) (f : Str) (x : V) (H : Hp) (Q : VK) : Prop := ∃ a C dx fs v, x = .ref a ∧ H a = some (.ins C dx fs) ∧ Cls K C ∧ NoAttr K C f ∧ fs.lookup f = some v ∧ Q v H
def rMth (C : Addr) (m : Str) (x : V) (H : Hp) (R : Prop) : Prop := ∃ a dx fs, x = .ref a ∧ H a = some (.ins C dx fs) ∧ fs.lookup m = none ∧ R
section
variable {M : Addr → Prop} {H : Hp} {C : Addr} {v x : V} {ds : List Addr} {n : Nat} {st : Kept} {K : Frag} {Q : VK} {ta : TE} {f m : Str} {σ : L2.St} {sp : Sp} {dvs : List V} {E : XK} {t : TA} {R : Prop}
theorem w_tFld (q : ta σ H fun x H1 => rFld K f x H1 Q) : tFld K ta f σ H Q := q
theorem w_tMeth (q : ta σ H fun x H1 => rMth C m x H1 (t σ H1 fun vs H2 => sp (x :: (vs ++ dvs)) H2 Q E)) : tMeth C m sp dvs E ta t σ H Q := q
theorem w_kept (S : StoreAt M H C v ds n st) (c : Cls K C) (na : NoAttr K C "kept") (q : ∀ l, ¬ M l → H l = some (.lst (ds.map V.ref)) → Q (.ref l) H) : rFld K "kept" v H Q := by
  obtain ⟨p, dx, l, vf, e, h1, h2, h3, h4⟩ := S.obj
  exact ⟨p, C, dx, _, _, e, h1, c, na, sflds_kept _ _, q l h3 h4⟩
theorem w_first (S : StoreAt M H C v ds n st) (c : Cls K C) (na : NoAttr K C "first") (q : ∀ vf, Rp M H vf (markD (List.replicate n 0)) → Q vf H) : rFld K "first" v H Q := by
  obtain ⟨p, dx, l, vf, e, h1, h2, h3, h4⟩ := S.obj
  exact ⟨p, C, dx, _, _, e, h1, c, na, sflds_first _ _, q vf h2⟩
theorem w_mth (S : StoreAt M H C v ds n st) (h1 : ¬ m = "first") (h2 : ¬ m = "kept") (q : R) : rMth C m v H R := by
  obtain ⟨p, dx, l, vf, e, h3, _⟩ := S.obj
  exact ⟨p, dx, _, e, h3, sflds_no _ _ h1 h2, q⟩
/-- kept[k] -/
theorem w_dictAt {l : Addr} {k : Nat} (S : StoreAt M H C v ds n st) (hl : H l = some (.lst (ds.map V.ref))) (hk : k < n) (q : ∀ d kv kvs, ds[k]? = some d → st[k]? = some kv → H d = some (.dK kvs) → DRel M H kvs kv → Q (.ref d) H) : rIxL K (.ref l) (.int k) H Q := by
  have h1 : k < ds.length := by rw [S.dl]; exact hk
  have h2 : k < st.length := by rw [S.sl]; exact hk
  obtain ⟨kvs, a, r⟩ := S.dic k ds[k] st[k] (List.getElem?_eq_getElem h1) (List.getElem?_eq_getElem h2)
  exact w_ixS k (SqL.of hl) rfl (by rw [List.getElem?_map, List.getElem?_eq_getElem h1]; rfl) (q _ _ kvs (List.getElem?_eq_getElem h1) (List.getElem?_eq_getElem h2) a r)
end
end Sb

set_option Elab.async false
set_option maxRecDepth 100000
set_option maxHeartbeats 4000000
set_option linter.all false
/-! What is a mark, told by data; looks and letters as data; texts in order. -/
namespace Sb
open PySem L2 PyProof.Rows
def goodI : PyData → Bool
  | .int i => decide (0 ≤ i)
  | _ => false
def isMk (n : Nat) : PyData → Bool
  | .tuple ds => decide (ds.length = n) && ds.all goodI
  | _ => false
def flatD : PyData → Bool
  | .none => true
  | .bool _ => true
  | .int _ => true
  | .str _ => true
  | _ => false
def okMk : PyData → Bool
  | .tuple ds => ds.all flatD
  | .dict _ => false
  | _ => true
theorem isMk_mark {n : Nat} {m : List Int} (h : m.length = n) (p : ∀ i ∈ m, 0 ≤ i) : isMk n (markD m) = true := by
  show (decide ((m.map PyData.int).length = n) && (m.map PyData.int).all goodI) = true
  rw [List.length_map, decide_eq_true h, Bool.true_and, List.all_map, List.all_eq_true]
  exact fun i hi => decide_eq_true (p i hi)
theorem okMk_mark (m : List Int) : okMk (markD m) = true := by
  show (m.map PyData.int).all flatD = true
  rw [List.all_map, List.all_eq_true]
  exact fun _ _ => rfl
theorem goods_ints : ∀ {ds : List PyData}, ds.all goodI = true → ∃ m : List Int, ds = m.map PyData.int ∧ ∀ i ∈ m, 0 ≤ i
  | [], _ => ⟨[], rfl, fun _ z => nomatch z⟩
  | d :: ds, h => by
    rw [List.all_cons, Bool.and_eq_true] at h
    obtain ⟨m, e, p⟩ := goods_ints h.2
    cases d with
    | int i =>
      refine ⟨i :: m, by rw [e]; rfl, fun j hj => ?_⟩
      rcases List.mem_cons.mp hj with rfl | hj
      · exact of_decide_eq_true h.1
      · exact p j hj
    | _ => cases h.1
theorem mark_of_isMk {n : Nat} {d : PyData} (h : isMk n d = true) : ∃ m, d = markD m ∧ m.length = n ∧ ∀ i ∈ m, 0 ≤ i := by
  cases d with
  | tuple ds =>
    have h : (decide (ds.length = n) && ds.all goodI) = true := h
    rw [Bool.and_eq_true] at h
    obtain ⟨m, e, p⟩ := goods_ints h.2
    have h1 := of_decide_eq_true h.1
    exact ⟨m, by rw [e]; rfl, by rw [← h1, e, List.length_map], p⟩
  | _ => cases h
def isTupD : PyData → Bool
  | .tuple _ => true
  | _ => false
def isIntD : PyData → Bool
  | .int _ => true
  | .bool _ => true
  | _ => false
def isBoolD : PyData → Bool
  | .bool _ => true
  | _ => false
section
variable {K : Frag} {M : Addr → Prop} {H : Hp} {x : V} {d : PyData} {Q : VK}
theorem w_isiTany (h : Rp M H x d) (q : Q (.bl (isTupD d)) H) : rIsi K [x, .ty "tuple"] H Q := by
  cases h with
  | non => exact isi_of (b := false) (.base .non) (by decide +kernel) q
  | bl b => exact isi_of (b := false) (.base (.bl b)) (by decide +kernel) q
  | int i => exact isi_of (b := false) (.base (.int i)) (by decide +kernel) q
  | str s => exact isi_of (b := false) (.base (.str s)) (by decide +kernel) q
  | lst m ha _ _ => exact isi_of (b := false) (.base (.lst ha)) (by decide +kernel) q
  | tup ha _ _ => exact isi_of (b := true) (.base (.tup ha)) (by decide +kernel) q
theorem w_isiIany (h : Rp M H x d) (q : Q (.bl (isIntD d)) H) : rIsi K [x, .ty "int"] H Q := by
  cases h with
  | non => exact isi_of (b := false) (.base .non) (by decide +kernel) q
  | bl b => exact isi_of (b := true) (.base (.bl b)) (by decide +kernel) q
  | int i => exact isi_of (b := true) (.base (.int i)) (by decide +kernel) q
  | str s => exact isi_of (b := false) (.base (.str s)) (by decide +kernel) q
  | lst m ha _ _ => exact isi_of (b := false) (.base (.lst ha)) (by decide +kernel) q
  | tup ha _ _ => exact isi_of (b := false) (.base (.tup ha)) (by decide +kernel) q
theorem w_isiBany (h : Rp M H x d) (q : Q (.bl (isBoolD d)) H) : rIsi K [x, .ty "bool"] H Q := by
  cases h with
  | non => exact isi_of (b := false) (.base .non) (by decide +kernel) q
  | bl b => exact isi_of (b := true) (.base (.bl b)) (by decide +kernel) q
  | int i => exact isi_of (b := false) (.base (.int i)) (by decide +kernel) q
  | str s => exact isi_of (b := false) (.base (.str s)) (by decide +kernel) q
  | lst m ha _ _ => exact isi_of (b := false) (.base (.lst ha)) (by decide +kernel) q
  | tup ha _ _ => exact isi_of (b := false) (.base (.tup ha)) (by decide +kernel) q
end
/-- what a shelf must be that its defs may work at it -/
structure ShOk (n : Nat) (s : Shelf) : Prop where
  len : s.1.length = n
  rin : Rin n s.2
  few : s.2.length ≤ 3000
theorem ShOk.start (n : Nat) : ShOk n (List.replicate n 0, []) := ⟨List.length_replicate, fun _ z => (nomatch z), Nat.zero_le _⟩
def valsD (rs : List Row) : PyData := .list ((rs.map fun r => r.2.2).map PyData.int)
def lookD (s : Shelf) : PyData := .tuple [valsD s.2, markD s.1]
def letterD (key : Str) (s : Shelf) : PyData := .tuple [.str key, markD s.1, .tuple (s.2.map rowD)]
theorem fm_vals (rs : List Row) : rs.filterMap (fun r => some (PyData.int r.2.2)) = (rs.map fun r => r.2.2).map PyData.int := by
  rw [List.filterMap_eq_map', List.map_map]; rfl
section
variable {M M' : Addr → Prop} {H : Hp} {x : V} {p : Addr} {ns : List Int}
theorem Rp.ints_at (h : Rp M H (.ref p) (.list (ns.map PyData.int))) (m : ¬ M' p) : Rp M' H (.ref p) (.list (ns.map PyData.int)) := by
  obtain ⟨a, xs, e, _, ha, r⟩ := h.lst_inv
  cases e
  rw [r.ints_inv] at ha
  exact .lstA m ha RpA.ints
end
/-! ### texts in order, any number of them -/
theorem lexS_irr (x : List Nat) : ¬ x < x := List.lt_irrefl x
def ltSB (a b : Str) : Bool := decide (a.cps.toList < b.cps.toList)
def ltSv (v u : Value) : Bool := match v, u with
  | .str a _, .str b _ => ltSB a b
  | _, _ => false
def strOf : Value → Str
  | .str a _ => a
  | _ => ⟨#[]⟩
theorem swo_ltSB {α : Type} (k : α → Str) : SrtO.Swo fun v u => ltSB (k v) (k u) := by
  refine ⟨fun x y h => ?_, fun x y z h1 h2 => ?_⟩
  · have h := of_decide_eq_true h
    exact decide_eq_false fun q => List.lt_irrefl _ (List.lt_trans h q)
  · have h1 := of_decide_eq_false h1
    have h2 := of_decide_eq_false h2
    refine decide_eq_false fun q => ?_
    exact List.not_lt.mpr (List.le_trans (List.not_lt.mp h1) (List.not_lt.mp h2)) q
def sortX (xs : List Str) : List Str := xs.mergeSort fun a b => !ltSB b a
theorem sortX_perm (xs : List Str) : (sortX xs).Perm xs := List.mergeSort_perm _ _
theorem ltSB_tr (a b c : Str) (h1 : (!ltSB b a) = true) (h2 : (!ltSB c b) = true) : (!ltSB c a) = true := by
  simp only [Bool.not_eq_true'] at h1 h2 ⊢
  exact (swo_ltSB (id : Str → Str)).tr a b c h1 h2
theorem ltSB_tot (a b : Str) : ((!ltSB b a) || (!ltSB a b)) = true := by
  cases h : ltSB b a with
  | false => rfl
  | true =>
    have h2 : ltSB a b = false := (swo_ltSB (id : Str → Str)).asym b a h
    rw [h2]; rfl
theorem sortX_srt (xs : List Str) : (sortX xs).Pairwise fun a b => ltSB b a = false :=
  (List.pairwise_mergeSort (le := fun a b => !ltSB b a) ltSB_tr ltSB_tot xs).imp fun h => by simpa using h
theorem ltSB_anti {a b : Str} (h1 : ltSB b a = false) (h2 : ltSB a b = false) : a = b := by
  have h1 := List.not_lt.mp (of_decide_eq_false h1)
  have h2 := List.not_lt.mp (of_decide_eq_false h2)
  have h3 := List.le_antisymm h1 h2
  obtain ⟨⟨a⟩⟩ := a
  obtain ⟨⟨b⟩⟩ := b
  have h3 : a = b := h3
  rw [h3]
theorem sortX_uniq {xs ys : List Str} (p : ys.Perm xs) (h : ys.Pairwise fun a b => ltSB b a = false) : ys = sortX xs :=
  List.Perm.eq_of_pairwise (le := fun a b => ltSB b a = false) (fun a b _ _ h1 h2 => ltSB_anti h1 h2) h (sortX_srt xs) (p.trans (sortX_perm xs).symm)
section
variable {prog : Program} {w : World} {A : Around} {E : Value → Shared → Prop} {s : Shared}
theorem strs_mem : ∀ {vs : List Value} {ns : List Str}, StrsAre vs ns → ∀ v ∈ vs, ∃ i t, v = Value.str i t
  | _, _, .nil, v, h => absurd h (by simp)
  | _, _, .cons n t r, v, h => by
    rcases List.mem_cons.mp h with e | h
    · exact ⟨n, t, e⟩
    · exact strs_mem r v h
theorem strs_of : ∀ {vs : List Value}, (∀ v ∈ vs, ∃ i t, v = Value.str i t) → StrsAre vs (vs.map strOf)
  | [], _ => .nil
  | v :: vs, h => by
    obtain ⟨i, t, e⟩ := h v List.mem_cons_self
    subst e
    exact .cons i t (strs_of fun u hu => h u (List.mem_cons_of_mem _ hu))
theorem of_strs : ∀ {vs : List Value} {ns : List Str}, StrsAre vs ns → vs.map strOf = ns
  | _, _, .nil => rfl
  | _, _, .cons n t r => congrArg (n :: ·) (of_strs r)
theorem str_cmp {vs : List Value} {ns : List Str} (hI : StrsAre vs ns) : SrtO.Cmp prog w A s oneType' (fun p => p.1 ∈ vs) (SrtO.lt2 fun v u => ltSB (strOf v) (strOf u)) := by
  intro p q hm hm'
  obtain ⟨a, t, e⟩ := strs_mem hI _ hm
  obtain ⟨b, u, e'⟩ := strs_mem hI _ hm'
  show wpAny (model prog w) A (keyLt' oneType' p.1 q.1) (fun r s' => s' = s ∧ r = ltSB (strOf p.1) (strOf q.1)) (fun _ _ => False) s
  rw [e, e', keyLt'_oneType]
  exact oneLt_str ⟨rfl, rfl⟩
theorem strs_sortable {a : Addr} {vs : List Value} {ns : List Str} (hI : StrsAre vs ns) (h2 : 2 ≤ vs.length) : SrtO.SortableO prog w A s a vs fun v u => ltSB (strOf v) (strOf u) := by
  intro h' _
  refine ⟨oneType', fun Q E hq => ?_, str_cmp hI⟩
  match vs, hI, h2 with
  | v1 :: v2 :: rest, hI, _ =>
    rw [keyKind_strs hI]
    exact wpAny_pure hq
  | [], _, h => exact absurd h (by decide)
  | [v], _, h => exact absurd h (by simp)
end
def rSortedX (K : Frag) : List V → Hp → VK → Prop := fun vs H Q => ∃ (a : Addr) (xs : List Str), vs = [V.ref a] ∧ SqL K H a (xs.map V.str) ∧ ∀ p, H p = none → Q (.ref p) (upd H p (.lst ((sortX xs).map V.str)))
theorem cr_sortedX {X : Cx} : CallR X (.builtin "sorted") (rSortedX X.K) := by
  intro pins s σ H vs us Q I r h
  obtain ⟨a, ns, rfl, hs, q⟩ := h
  obtain ⟨its, rv, hl, hz⟩ := I.list hs
  rw [Vals.ref1 r]
  have hi := rv.strs
  refine SrtO.sorted_ord (swo_ltSB strOf) hl.isList (by rw [← rv.length]; exact hz) (fun h2 h₁ a' _ _ => strs_sortable hi h2) fun out h1 h2 => ?_
  have h3 : ∀ v ∈ out, ∃ i t, v = Value.str i t := fun v hv => strs_mem hi v (h2.perm.mem_iff.mp hv)
  have k1 := strs_of h3
  have k2 : (out.map strOf).Perm ns := by
    have q := h2.perm.map strOf
    rw [of_strs hi] at q
    exact q
  have k3 : out.map strOf = sortX ns := sortX_uniq k2 (List.pairwise_map.mpr h1)
  obtain ⟨ep, he'⟩ := PyProof.Rows.sortedAll_at s.heap its out.toArray
  have hlen : ((sortX ns).map V.str).length ≤ sizeLine := by
    rw [List.length_map, (sortX_perm ns).length_eq]
    rw [List.length_map] at hz
    exact hz
  rw [k3] at k1
  exact ⟨.ref _, upd H (s.heap.objs.size + 1) (.lst ((sortX ns).map V.str)), I.laid (t' := s.toks) (fun _ _ => PyProof.Rows.sortedAll_old) (Nat.le_succ _) ⟨hlen, out, ep, vals_of_strs k1, he'⟩, rfl, q _ (I.hok.fresh (Nat.le_succ _))⟩
end Sb

set_option Elab.async false
set_option maxRecDepth 100000
set_option maxHeartbeats 4000000
set_option linter.all false
/-! Shelves of a whole run: what each keeps; a store of one key; what a store's deed leaves. -/
namespace Sb
open PySem L2 PyProof.Rows
/-- a shelf in a run: its rows are some of those put -/
structure Good (G : List Row) (n : Nat) (s : Shelf) : Prop where
  wf : WF n s
  pos : ∀ i, 0 ≤ s.1.getD i 0
  sub : ∀ r ∈ s.2, r ∈ G ∧ 1 ≤ r.2.1
theorem getD_rep (n : Nat) (i : Nat) : (List.replicate n (0 : Int)).getD i 0 = 0 := by
  rw [List.getD_eq_getElem?_getD, List.getElem?_replicate]
  split <;> rfl
theorem Good.start (G : List Row) (n : Nat) : Good G n (List.replicate n 0, []) :=
  ⟨⟨List.length_replicate, fun _ z => (nomatch z), fun _ z => (nomatch z), List.Pairwise.nil, List.nodup_nil⟩, fun i => by rw [getD_rep]; exact Int.le_refl 0, fun _ z => (nomatch z)⟩
section
variable {G G' : List Row} {n : Nat} {s t : Shelf} {m : List Int} {k : Nat} {v : Int}
theorem Good.mono (h : Good G n s) (sub : ∀ r ∈ G, r ∈ G') : Good G' n s := ⟨h.wf, h.pos, fun r hr => ⟨sub r (h.sub r hr).1, (h.sub r hr).2⟩⟩
theorem Good.few (h : Good G n s) : s.2.length ≤ G.length := List.Nodup.length_le_of_subset h.wf.nod fun r hr => (h.sub r hr).1
theorem Good.ok (h : Good G n s) (hG : G.length ≤ 3000) : ShOk n s := ⟨h.wf.len, h.wf.rin, by have := h.few; omega⟩
theorem getD_mem {m : List Int} (p : ∀ i, 0 ≤ m.getD i 0) : ∀ i ∈ m, 0 ≤ i := fun i hi => by
  obtain ⟨j, hj⟩ := List.mem_iff_getElem?.mp hi
  have := p j
  rw [List.getD_eq_getElem?_getD, hj] at this
  exact this
theorem mem_getD {m : List Int} (p : ∀ i ∈ m, 0 ≤ i) : ∀ i, 0 ≤ m.getD i 0 := fun i => by
  rw [List.getD_eq_getElem?_getD]
  cases h : m[i]? with
  | none => exact Int.le_refl 0
  | some x => exact p x (List.mem_of_getElem? h)
theorem Good.isMk (h : Good G n s) : isMk n (markD s.1) = true := isMk_mark h.wf.len (getD_mem h.pos)
theorem joinM_pos {a b : List Int} (e : a.length = b.length) (ha : ∀ i, 0 ≤ a.getD i 0) : ∀ i, 0 ≤ (joinM a b).getD i 0 := fun i => by
  by_cases hi : i < a.length
  · rw [joinM_getD e hi]
    have := ha i
    omega
  · rw [List.getD_eq_getElem?_getD, List.getElem?_eq_none (by rw [joinM_len e]; omega)]
    exact Int.le_refl 0
theorem Good.met (hs : Good G n s) (ht : Good G n t) : Good G n (metS s t) := by
  refine ⟨hs.wf.met ht.wf, joinM_pos (by rw [hs.wf.len, ht.wf.len]) hs.pos, fun r hr => ?_⟩
  rcases mem_met.mp hr with h | h | h
  · exact hs.sub r h.1
  · exact hs.sub r h.1
  · exact ht.sub r h.1
theorem Good.dropped (hs : Good G n s) (hm : m.length = n) : Good G n (droppedS s m) := by
  have e : s.1.length = m.length := by rw [hs.wf.len, hm]
  refine ⟨⟨by show (joinM s.1 m).length = n; rw [joinM_len e, hs.wf.len], hs.wf.rin.unseen, fun r hr => ?_, ?_, ?_⟩, joinM_pos e hs.pos, fun r hr => hs.sub r (mem_unseen.mp hr).1⟩
  · have hr := (mem_unseen.mp hr).1
    obtain ⟨h0, h1⟩ := hs.wf.rin r hr
    show seen (joinM s.1 m) r = true
    rw [seen_join e h0 (by rw [hs.wf.len]; exact h1), hs.wf.saw r hr]; rfl
  · exact hs.wf.srt.filter _
  · exact hs.wf.nod.filter _
/-- the row of a put -/
def newRow (s : Shelf) (k : Nat) (v : Int) : Row := ((k : Int), s.1.getD k 0 + 1, v)
theorem mem_putOn {r : Row} : r ∈ (putOn s k v m).2 ↔ (r ∈ s.2 ∧ seen m r = false) ∨ r = newRow s k v := by
  unfold putOn
  rw [mem_sortR, List.mem_append, mem_unseen, List.mem_singleton]; rfl
theorem new_unseen (k : Nat) (v : Int) (s : Shelf) : seen s.1 (newRow s k v) = false := by
  unfold seen newRow
  exact decide_eq_false (by simp; omega)
theorem putRows_nod (h : WF n s) : (unseen s.2 m ++ [newRow s k v]).Nodup := by
  refine nd_snoc (h.nod.filter _) fun z => ?_
  have h1 := h.saw _ (mem_unseen.mp z).1
  rw [new_unseen] at h1; cases h1
theorem putMark_getD (e : s.1.length = m.length) {i : Nat} (hi : i < s.1.length) : (putOn s k v m).1.getD i 0 = if i = k then s.1.getD k 0 + 1 else max (s.1.getD i 0) (m.getD i 0) := by
  show ((joinM s.1 m).set k (s.1.getD k 0 + 1)).getD i 0 = _
  have hi' : i < (joinM s.1 m).length := by rw [joinM_len e]; exact hi
  rw [List.getD_eq_getElem?_getD]
  by_cases h : i = k
  · subst h
    rw [List.getElem?_set_self hi', if_pos rfl]; rfl
  · rw [List.getElem?_set_ne (fun z => h z.symm), if_neg h, ← List.getD_eq_getElem?_getD, joinM_getD e hi]
theorem putMark_len (e : s.1.length = m.length) : (putOn s k v m).1.length = s.1.length := by
  show ((joinM s.1 m).set k (s.1.getD k 0 + 1)).length = _
  rw [List.length_set, joinM_len e]
theorem Good.put (hs : Good G n s) (hm : m.length = n) (hk : k < n) (hG : ∀ r ∈ G, r ∈ G') (hn : newRow s k v ∈ G') : Good G' n (putOn s k v m) := by
  have e : s.1.length = m.length := by rw [hs.wf.len, hm]
  have rin : Rin n (unseen s.2 m ++ [newRow s k v]) := hs.wf.rin.unseen.app fun r hr => by
    rw [List.mem_singleton] at hr
    subst hr
    exact ⟨Int.natCast_nonneg k, by show (k : Int) < n; omega⟩
  refine ⟨⟨by rw [putMark_len e, hs.wf.len], rin.sort, fun r hr => ?_, sortR_srt _, sortR_nod (putRows_nod hs.wf)⟩, fun i => ?_, fun r hr => ?_⟩
  · rcases mem_putOn.mp hr with h | h
    · obtain ⟨h0, h1⟩ := hs.wf.rin r h.1
      have hsaw := hs.wf.saw r h.1
      unfold seen at hsaw ⊢
      rw [putMark_getD e (by rw [hs.wf.len]; omega)]
      have := of_decide_eq_true hsaw
      refine decide_eq_true ?_
      split
      · rename_i q; rw [q] at this; omega
      · omega
    · subst h
      unfold seen newRow
      have hk' : ((k : Int)).toNat = k := by omega
      dsimp only
      rw [hk', putMark_getD e (by rw [hs.wf.len]; exact hk), if_pos rfl]
      exact decide_eq_true (Int.le_refl _)
  · by_cases hi : i < s.1.length
    · rw [putMark_getD e hi]
      have h1 := hs.pos k
      have h2 := hs.pos i
      split <;> omega
    · rw [List.getD_eq_getElem?_getD, List.getElem?_eq_none (by rw [putMark_len e]; omega)]
      exact Int.le_refl 0
  · rcases mem_putOn.mp hr with h | h
    · exact ⟨hG r (hs.sub r h.1).1, (hs.sub r h.1).2⟩
    · subst h
      refine ⟨hn, ?_⟩
      have := hs.pos k
      show 1 ≤ s.1.getD k 0 + 1
      omega
end
/-! ### a store of one key -/
def One (key : Str) (kv : KV1) : Prop := kv = [] ∨ ∃ sh, kv = [(key, sh)]
theorem One.put {key : Str} {kv : KV1} (h : One key kv) (sh : Shelf) : One key (aPut kv key sh) := by
  rcases h with rfl | ⟨s, rfl⟩
  · exact .inr ⟨sh, rfl⟩
  · refine .inr ⟨sh, ?_⟩
    unfold aPut
    rw [if_pos (by simp)]
    simp
theorem One.len {key : Str} {kv : KV1} (h : One key kv) : kv.length ≤ 1 := by
  rcases h with rfl | ⟨s, rfl⟩
  · exact Nat.zero_le _
  · exact Nat.le_refl _
theorem One.other {key s : Str} {kv : KV1} {n : Nat} (h : One key kv) (e : ¬ s = key) : shelfOf n kv s = (List.replicate n 0, []) := by
  unfold shelfOf
  rcases h with rfl | ⟨sh, rfl⟩
  · rfl
  · rw [aGet_cons, if_neg fun z => e z.symm]; rfl
def setF (f : Nat → Shelf) (k : Nat) (s : Shelf) : Nat → Shelf := fun i => if i = k then s else f i
theorem setF_eq {f : Nat → Shelf} {k : Nat} {s : Shelf} : setF f k s k = s := if_pos rfl
theorem setF_ne {f : Nat → Shelf} {k i : Nat} {s : Shelf} (h : i ≠ k) : setF f k s i = f i := if_neg h
/-- a store of n keepers at v that knows the key alone: f tells the shelves -/
def OneAt (M : Addr → Prop) (H : Hp) (C : Addr) (v : V) (ds : List Addr) (n : Nat) (key : Str) (f : Nat → Shelf) : Prop :=
  ∃ st, StoreAt M H C v ds n st ∧ ∀ (k : Nat) (kv : KV1), st[k]? = some kv → One key kv ∧ shelfOf n kv key = f k
/-- all but the dicts stands as before -/
structure Keep (H H' : Hp) : Prop where
  keep : ∀ b o, (∀ kvs, o ≠ .dK kvs) → H b = some o → H' b = some o
  occ : ∀ b, H' b = none → H b = none
section
variable {M M' : Addr → Prop} {H H' H'' : Hp} {C : Addr} {v x : V} {ds : List Addr} {n : Nat} {key : Str} {f : Nat → Shelf} {K : Frag} {d : PyData}
theorem Keep.same (s : Same H H') : Keep H H' := ⟨fun b o _ e => s b o e, fun b e => s.free e⟩
theorem Keep.refl (H : Hp) : Keep H H := .same (Same.refl H)
theorem Keep.trans (a : Keep H H') (b : Keep H' H'') : Keep H H'' := ⟨fun x o n e => b.keep x o n (a.keep x o n e), fun x e => a.occ x (b.occ x e)⟩
theorem Keep.ext (k : Keep H H') : Ext M M H H' := ⟨fun a xs e => k.keep a _ (fun _ z => nomatch z) e, fun a xs m e => ⟨m, k.keep a _ (fun _ z => nomatch z) e⟩⟩
theorem Keep.rp (k : Keep H H') (h : Rp M H x d) : Rp M H' x d := h.ext k.ext
theorem Keep.fr (k : Keep H H') (f : Fr M H) : Fr M H' := fun a e => f a (k.occ a e)
theorem Keep.lst (k : Keep H H') {a : Addr} {xs : List V} (h : H a = some (.lst xs)) : H' a = some (.lst xs) := k.keep a _ (fun _ z => nomatch z) h
theorem Keep.seq (k : Keep H H') {a : Addr} {xs : List V} (h : SqL K H a xs) : SqL K H' a xs := by
  rcases h with (h | ⟨o, h⟩) | h
  · exact .inl (.inl (k.lst h))
  · exact .inl (.inr ⟨o, k.keep a _ (fun _ z => nomatch z) h⟩)
  · exact .inr h
theorem Keep.old (k : Keep H H') (h : Rp (Old H') H'' x d) : Rp (Old H) H'' x d := h.ext (Ext.less fun a m z => m (k.occ a z))
theorem StoreAt.keep {st st' : Kept} {dk : Addr} (S : StoreAt M H C v ds n st) (S' : StoreAt M' H' C v ds n st') (hd : dk ∈ ds) (b : But dk H H') : Keep H H' := by
  refine ⟨fun a o no e => b a o (fun z => ?_) e, fun a e => ?_⟩
  · obtain ⟨kvs, hk⟩ := S.occ hd
    rw [z, hk] at e
    exact no kvs (Option.some.inj e).symm
  · cases q : H a with
    | none => rfl
    | some o =>
      by_cases z : a = dk
      · obtain ⟨kvs, hk⟩ := S'.occ hd
        rw [z, hk] at e; cases e
      · rw [b a o z q] at e; cases e
theorem StoreAt.write {st : Kept} {L : Addr} {xs ys : List V} (S : StoreAt M H C v ds n st) (m : M L) (h : H L = some (.lst xs)) : StoreAt M (upd H L (.lst ys)) C v ds n st :=
  S.but (But.upd _) (fun zs => ⟨fun z => (by rw [h] at z; cases z), fun z => absurd m z⟩) (fun D dx fs z => by rw [h] at z; cases z) fun z => by
    obtain ⟨kvs, hk⟩ := S.occ z
    rw [hk] at h; cases h
theorem OneAt.same (S : OneAt M H C v ds n key f) (s : Same H H') : OneAt M H' C v ds n key f := let ⟨st, a, b⟩ := S; ⟨st, a.same s, b⟩
theorem OneAt.fresh {q : Addr} (S : OneAt M H C v ds n key f) (s : Same H H') (hq : H q = none) : OneAt (fun a => M a ∨ a = q) H' C v ds n key f := let ⟨st, a, b⟩ := S; ⟨st, a.fresh s hq, b⟩
theorem OneAt.less (S : OneAt M H C v ds n key f) (k : ∀ a, M' a → M a) : OneAt M' H C v ds n key f := let ⟨st, a, b⟩ := S; ⟨st, a.less k, b⟩
theorem OneAt.write {L : Addr} {xs ys : List V} (S : OneAt M H C v ds n key f) (m : M L) (h : H L = some (.lst xs)) : OneAt M (upd H L (.lst ys)) C v ds n key f := let ⟨st, a, b⟩ := S; ⟨st, a.write m h, b⟩
theorem OneAt.start (S : StoreAt M H C v ds n (List.replicate n [])) : OneAt M H C v ds n key fun _ => (List.replicate n 0, []) :=
  ⟨_, S, fun k kv h => by
    rw [List.getElem?_replicate] at h
    split at h
    · cases h; exact ⟨.inl rfl, rfl⟩
    · cases h⟩
theorem OneAt.at {k : Nat} (S : OneAt M H C v ds n key f) (hk : k < n) : ∃ st kv dk, StoreAt M H C v ds n st ∧ st[k]? = some kv ∧ ds[k]? = some dk ∧ One key kv ∧ shelfOf n kv key = f k ∧ ∀ (k : Nat) (kv : KV1), st[k]? = some kv → One key kv ∧ shelfOf n kv key = f k := by
  obtain ⟨st, a, b⟩ := S
  have h1 : st[k]? = some (st[k]'(by rw [a.sl]; exact hk)) := List.getElem?_eq_getElem _
  exact ⟨st, _, _, a, h1, List.getElem?_eq_getElem (by rw [a.dl]; exact hk), (b k _ h1).1, (b k _ h1).2, b⟩
theorem OneAt.put {st : Kept} {k : Nat} {kv : KV1} {sh : Shelf} (b : ∀ (k : Nat) (kv : KV1), st[k]? = some kv → One key kv ∧ shelfOf n kv key = f k) (h : st[k]? = some kv) (S : StoreAt M H C v ds n (st.set k (aPut kv key sh))) : OneAt M H C v ds n key (setF f k sh) := by
  refine ⟨_, S, fun i kv' h' => ?_⟩
  by_cases e : i = k
  · subst e
    rw [List.getElem?_set_self (List.getElem?_eq_some_iff.mp h).1] at h'
    cases h'
    exact ⟨(b i kv h).1.put sh, by rw [shelfOf_put, if_pos rfl, setF_eq]⟩
  · rw [List.getElem?_set_ne (fun z => e z.symm)] at h'
    rw [setF_ne e]
    exact b i kv' h'
end
end Sb

set_option Elab.async false
set_option maxRecDepth 100000
set_option maxHeartbeats 4000000
set_option linter.all false
/-! Equal data of looks, of lists of ints and of texts. -/
namespace Sb
open PySem L2 PyProof.Rows
mutual
theorem eqv_refl : ∀ d : PyData, d.canLay0 = true → PyData.eqv d d = true
  | .none, _ => by unfold PyData.eqv; rfl
  | .bool b, _ => by unfold PyData.eqv; simp
  | .int i, _ => by unfold PyData.eqv; simp
  | .str x, _ => by unfold PyData.eqv; simp
  | .list xs, h => by
    unfold PyData.eqv
    unfold PyData.canLay0 at h
    exact eqvAll_refl xs h
  | .tuple xs, h => by
    unfold PyData.eqv
    unfold PyData.canLay0 at h
    exact eqvAll_refl xs h
  | .dict xs, h => by unfold PyData.canLay0 at h; cases h
theorem eqvAll_refl : ∀ ds : List PyData, PyData.canLayAll0 ds = true → PyData.eqvAll ds ds = true
  | [], _ => by unfold PyData.eqvAll; rfl
  | d :: ds, h => by
    unfold PyData.canLayAll0 at h
    rw [Bool.and_eq_true] at h
    unfold PyData.eqvAll
    rw [eqv_refl d h.1, eqvAll_refl ds h.2]; rfl
end
theorem lay_list {ds : List PyData} : (PyData.list ds).canLay0 = PyData.canLayAll0 ds := by unfold PyData.canLay0; rfl
theorem lay_tuple {ds : List PyData} : (PyData.tuple ds).canLay0 = PyData.canLayAll0 ds := by
  conv => lhs; unfold PyData.canLay0
theorem depth_list {ds : List PyData} : (PyData.list ds).depth = PyData.depthAll ds + 1 := by
  conv => lhs; unfold PyData.depth
theorem depth_tuple {ds : List PyData} : (PyData.tuple ds).depth = PyData.depthAll ds + 1 := by
  conv => lhs; unfold PyData.depth
theorem layAll_cons {d : PyData} {ds : List PyData} : PyData.canLayAll0 (d :: ds) = (d.canLay0 && PyData.canLayAll0 ds) := by
  conv => lhs; unfold PyData.canLayAll0
theorem layAll_nil : PyData.canLayAll0 [] = true := by unfold PyData.canLayAll0; rfl
theorem depthAll_nil : PyData.depthAll [] = 0 := by unfold PyData.depthAll; rfl
theorem depthAll_cons {d : PyData} {ds : List PyData} : PyData.depthAll (d :: ds) = max d.depth (PyData.depthAll ds) := by
  conv => lhs; unfold PyData.depthAll
theorem shaped_of {d : PyData} (h : d.canLay0 = true) (k : d.depth ≤ 64) : SeqAt.shaped d = true := by
  unfold SeqAt.shaped
  rw [h, decide_eq_true k]; rfl
/-- no deeper than n -/
structure Sh (n : Nat) (d : PyData) : Prop where
  lay : d.canLay0 = true
  deep : d.depth ≤ n
theorem Sh.shaped {n : Nat} {d : PyData} (h : Sh n d) (hn : n ≤ 64) : SeqAt.shaped d = true := shaped_of h.lay (Nat.le_trans h.deep hn)
theorem sh_all {n : Nat} : ∀ {ds : List PyData}, (∀ d ∈ ds, Sh n d) → PyData.canLayAll0 ds = true ∧ PyData.depthAll ds ≤ n
  | [], _ => ⟨layAll_nil, by rw [depthAll_nil]; exact Nat.zero_le _⟩
  | d :: ds, h => by
    have h1 := h d List.mem_cons_self
    have h2 := sh_all fun e he => h e (List.mem_cons_of_mem _ he)
    refine ⟨by rw [layAll_cons, h1.lay, h2.1]; rfl, ?_⟩
    rw [depthAll_cons]
    have := h1.deep
    omega
theorem Sh.list {n : Nat} {ds : List PyData} (h : ∀ d ∈ ds, Sh n d) : Sh (n + 1) (.list ds) := ⟨by rw [lay_list]; exact (sh_all h).1, by rw [depth_list]; have := (sh_all h).2; omega⟩
theorem Sh.tuple {n : Nat} {ds : List PyData} (h : ∀ d ∈ ds, Sh n d) : Sh (n + 1) (.tuple ds) := ⟨by rw [lay_tuple]; exact (sh_all h).1, by rw [depth_tuple]; have := (sh_all h).2; omega⟩
theorem sh_int (i : Int) : Sh 0 (.int i) := ⟨by unfold PyData.canLay0; rfl, by unfold PyData.depth; exact Nat.le_refl _⟩
theorem sh_str {x : Str} (h : PyData.strOk x = true) : Sh 0 (.str x) := ⟨by unfold PyData.canLay0; exact h, by unfold PyData.depth; exact Nat.le_refl _⟩
theorem Sh.mono {n m : Nat} {d : PyData} (h : Sh n d) (k : n ≤ m) : Sh m d := ⟨h.lay, Nat.le_trans h.deep k⟩
theorem sh_ints (ns : List Int) : ∀ d ∈ ns.map PyData.int, Sh 0 d := fun d h => by
  obtain ⟨i, _, rfl⟩ := List.mem_map.mp h
  exact sh_int i
theorem sh_mark (m : List Int) : Sh 1 (markD m) := .tuple (sh_ints m)
theorem sh_intl (ns : List Int) : Sh 1 (.list (ns.map PyData.int)) := .list (sh_ints ns)
theorem sh_look (s : Shelf) : Sh 2 (lookD s) := .tuple fun d h => by
  rcases List.mem_cons.mp h with rfl | h
  · exact sh_intl _
  · rw [List.mem_singleton] at h
    subst h; exact sh_mark _
theorem sh_strs {ns : List Str} (h : ∀ x ∈ ns, PyData.strOk x = true) : Sh 1 (.list (ns.map PyData.str)) := .list fun d k => by
  obtain ⟨i, hi, rfl⟩ := List.mem_map.mp k
  exact sh_str (h i hi)
theorem eqv_intl (m n : List Int) : PyData.eqv (.list (m.map PyData.int)) (.list (n.map PyData.int)) = decide (m = n) := by
  unfold PyData.eqv
  exact eqvAll_ints m n
theorem eqvAll_strs : ∀ m n : List Str, PyData.eqvAll (m.map PyData.str) (n.map PyData.str) = decide (m = n)
  | [], [] => rfl
  | [], _ :: _ => rfl
  | _ :: _, [] => rfl
  | a :: m, b :: n => by
    rw [List.map_cons, List.map_cons]
    unfold PyData.eqvAll
    rw [eqvAll_strs m n]
    unfold PyData.eqv
    by_cases h : a = b <;> by_cases h' : m = n <;> simp [h, h']
theorem eqv_strs (m n : List Str) : PyData.eqv (.list (m.map PyData.str)) (.list (n.map PyData.str)) = decide (m = n) := by
  unfold PyData.eqv
  exact eqvAll_strs m n
section
variable {K : Frag} {M M' : Addr → Prop} {H : Hp} {x y : V} {d e : PyData} {Q : VK} {m n : List Int} {ks ls : List Str}
/-- the same data -/
theorem w_eqS {k : Nat} (h : Rp M H x d) (h' : Rp M' H y d) (s : Sh k d) (hk : k ≤ 64) (q : Q (.bl true) H) : rEqD K x y H Q := ⟨_, _, h.dp, h'.dp, s.shaped hk, s.shaped hk, by rw [eqv_refl d s.lay]; exact q⟩
theorem w_neS {k : Nat} (h : Rp M H x d) (h' : Rp M' H y d) (s : Sh k d) (hk : k ≤ 64) (q : Q (.bl false) H) : rNeD K x y H Q := ⟨_, _, h.dp, h'.dp, s.shaped hk, s.shaped hk, by rw [eqv_refl d s.lay]; exact q⟩
theorem w_eqI (h : Rp M H x (.list (m.map PyData.int))) (h' : Rp M' H y (.list (n.map PyData.int))) (q : Q (.bl (decide (m = n))) H) : rEqD K x y H Q := ⟨_, _, h.dp, h'.dp, (sh_intl m).shaped (by decide), (sh_intl n).shaped (by decide), by rw [eqv_intl]; exact q⟩
theorem w_neI (h : Rp M H x (.list (m.map PyData.int))) (h' : Rp M' H y (.list (n.map PyData.int))) (q : Q (.bl (!decide (m = n))) H) : rNeD K x y H Q := ⟨_, _, h.dp, h'.dp, (sh_intl m).shaped (by decide), (sh_intl n).shaped (by decide), by rw [eqv_intl]; exact q⟩
theorem w_eqK (h : Rp M H x (.list (ks.map PyData.str))) (h' : Rp M' H y (.list (ls.map PyData.str))) (s : ∀ x ∈ ks, PyData.strOk x = true) (s' : ∀ x ∈ ls, PyData.strOk x = true) (q : Q (.bl (decide (ks = ls))) H) : rEqD K x y H Q := ⟨_, _, h.dp, h'.dp, (sh_strs s).shaped (by decide), (sh_strs s').shaped (by decide), by rw [eqv_strs]; exact q⟩
theorem w_neK (h : Rp M H x (.list (ks.map PyData.str))) (h' : Rp M' H y (.list (ls.map PyData.str))) (s : ∀ x ∈ ks, PyData.strOk x = true) (s' : ∀ x ∈ ls, PyData.strOk x = true) (q : Q (.bl (!decide (ks = ls))) H) : rNeD K x y H Q := ⟨_, _, h.dp, h'.dp, (sh_strs s).shaped (by decide), (sh_strs s').shaped (by decide), by rw [eqv_strs]; exact q⟩
/-- the parts of a look -/
theorem w_look0 {s : Shelf} {i : Int} (h : Rp M H x (lookD s)) (ei : i = 0) (q : ∀ v, Rp M H v (valsD s.2) → Q v H) : rIxT K x (.int i) H Q := by subst ei; exact w_ixT 0 h rfl rfl q
theorem w_look1 {s : Shelf} {i : Int} (h : Rp M H x (lookD s)) (ei : i = 1) (q : ∀ v, Rp M H v (markD s.1) → Q v H) : rIxT K x (.int i) H Q := by subst ei; exact w_ixT 1 h rfl rfl q
/-- x in a list of ints -/
theorem inV_ints (i : Int) : ∀ ns : List Int, inV (.int i) (ns.map V.int) = decide (i ∈ ns)
  | [] => rfl
  | n :: ns => by
    unfold inV
    rw [List.map_cons, List.any_cons]
    have := inV_ints i ns
    unfold inV at this
    rw [this]
    show (eqV (.int n) (.int i) || _) = _
    unfold eqV
    by_cases h : n = i
    · subst h; simp
    · have h2 : ¬ i = n := fun z => h z.symm
      simp [h, h2]
theorem flat_ints (ns : List Int) : (ns.map V.int).all flatV = true := List.all_eq_true.mpr fun v hv => by
  obtain ⟨i, _, rfl⟩ := List.mem_map.mp hv
  rfl
theorem w_inI {i : Int} (h : Rp M H y (.list (m.map PyData.int))) (q : Q (.bl (decide (i ∈ m))) H) : rIn K false (.int i) y H Q := by
  obtain ⟨a, xs, rfl, _, ha, r⟩ := h.lst_inv
  rw [r.ints_inv] at ha
  exact ⟨a, _, rfl, .inl (SqL.of ha), rfl, flat_ints m, by rw [inV_ints]; exact q⟩
theorem w_ninI {i : Int} (h : Rp M H y (.list (m.map PyData.int))) (q : Q (.bl (!decide (i ∈ m))) H) : rIn K true (.int i) y H Q := by
  obtain ⟨a, xs, rfl, _, ha, r⟩ := h.lst_inv
  rw [r.ints_inv] at ha
  exact ⟨a, _, rfl, .inl (SqL.of ha), rfl, flat_ints m, by rw [inV_ints]; exact q⟩
end
end Sb

set_option Elab.async false
set_option maxRecDepth 100000
set_option maxHeartbeats 4000000
set_option linter.all false
/-! Steps of the laws over a whole run: lists by their address, pairs of enumerate, cut lists. -/
namespace Sb
open PySem L2 PyProof.Rows
section
variable {M M' : Addr → Prop} {H H' : Hp} {x : V}
theorem RpA.strs : ∀ {ns : List Str}, RpA M H (ns.map V.str) (ns.map PyData.str)
  | [] => RpA.nil
  | n :: ns => RpA.cons (.str n) RpA.strs
theorem RpA.strs_inv : ∀ {ns : List Str} {xs : List V}, RpA M H xs (ns.map PyData.str) → xs = ns.map V.str
  | [], [], _ => rfl
  | [], x :: xs, h => by have := h.1; simp at this
  | n :: ns, [], h => by have := h.1; simp at this
  | n :: ns, x :: xs, h => by
    have h1 := h.head.str_inv
    have h2 := RpA.strs_inv h.tail
    rw [h1, h2, List.map_cons]
end
theorem w_iEnum {K : Frag} {ta : TA} {σ : L2.St} {H : Hp} {R : It → Hp → Prop} (q : ta σ H fun vs H1 => ∃ a xs, vs = [.ref a] ∧ SqL K H1 a xs ∧ R (Ite K a) H1) : iEnum K ta σ H R := q
theorem w_tCB' {K : Frag} {r : List V → Hp → VK → Prop} {t : TA} {σ : L2.St} {H : Hp} {Q : VK} (q : t σ H fun vs H1 => r vs H1 Q) : tCB r t σ H Q := q
section
variable {K : Frag} {M M' : Addr → Prop} {H H' : Hp} {x y v : V} {d e : PyData} {Q : VK} {m n : List Int} {ks ls : List Str} {p : Addr}
/-- a new list of ints, by its address -/
theorem w_listI (h : Rp M H x (.list (m.map PyData.int))) (q : ∀ l H2, H l = none → Same H H2 → (∀ M', ¬ M' l → Rp M' H2 (.ref l) (.list (m.map PyData.int))) → Q (.ref l) H2) : rLst K [x] H Q := by
  obtain ⟨a, xs, rfl, _, ha, r⟩ := h.lst_inv
  rw [r.ints_inv] at ha
  exact ⟨a, _, rfl, .inl (SqL.of ha), fun l hl => q l _ hl (Same.new hl) fun M' n => .lstA n upd_same RpA.ints⟩
/-- more is appended to a list of one's own -/
theorem w_app {xs : List V} (h : H p = some (.lst xs)) (hl : xs.length < 100000) (q : Q .non (upd H p (.lst (xs ++ [v])))) : rAppend (.ref p) [v] H Q := ⟨p, xs, v, rfl, rfl, h, sz_smallL hl, q⟩
theorem Rp.intl_at (h : Rp M H (.ref p) (.list (m.map PyData.int))) : H p = some (.lst (m.map V.int)) := by
  obtain ⟨a, xs, e, _, ha, r⟩ := h.lst_inv
  cases e
  rw [r.ints_inv] at ha
  exact ha
theorem Rp.strl_inv (h : Rp M H v (.list (ks.map PyData.str))) : ∃ a, v = .ref a ∧ ¬ M a ∧ H a = some (.lst (ks.map V.str)) := by
  obtain ⟨a, xs, e, n, ha, r⟩ := h.lst_inv
  rw [r.strs_inv] at ha
  exact ⟨a, e, n, ha⟩
theorem Rp.intl_inv (h : Rp M H v (.list (m.map PyData.int))) : ∃ a, v = .ref a ∧ ¬ M a ∧ H a = some (.lst (m.map V.int)) := by
  obtain ⟨a, xs, e, n, ha, r⟩ := h.lst_inv
  rw [r.ints_inv] at ha
  exact ⟨a, e, n, ha⟩
/-- what has no list of one's own among its lists stays when that is written -/
theorem Rp.wr {o : HO} (h : Rp M H v d) (m : M p) (hp : ∀ xs, H p ≠ some (.tup xs)) : Rp M (upd H p o) v d := h.ext (Ext.write m hp)
theorem lst_notup {xs : List V} (h : H p = some (.lst xs)) : ∀ ys, H p ≠ some (.tup ys) := fun ys z => by rw [h] at z; cases z
theorem look_ref {s : Shelf} (h : Rp M H v (lookD s)) : ∃ p, v = .ref p := by
  obtain ⟨p, xs, e, _⟩ := h.tup_inv
  exact ⟨p, e⟩
end
/-- a look, taken apart -/
theorem look_at {M : Addr → Prop} {H : Hp} {v : V} {s : Shelf} (h : Rp M H v (lookD s)) : ∃ t p mv, v = .ref t ∧ H t = some (.tup [.ref p, mv]) ∧ ¬ M p ∧ H p = some (.lst ((s.2.map fun r => r.2.2).map V.int)) ∧ ∀ M', Rp M' H mv (markD s.1) := by
  obtain ⟨t, xs, rfl, ht, r⟩ := Rp.tup_inv (ds := [valsD s.2, markD s.1]) h
  match xs, r with
  | [x, y], r =>
    obtain ⟨p, rfl, np, hp⟩ := Rp.intl_inv r.head
    exact ⟨t, p, y, rfl, ht, np, hp, fun M' => Rp.mark r.tail.head⟩
  | [], r => exact absurd r.1 (by simp)
  | [_], r => exact absurd r.1 (by simp)
  | _ :: _ :: _ :: _, r => exact absurd r.1 (by simp)
theorem look_of {M : Addr → Prop} {H : Hp} {t p : Addr} {mv : V} {s : Shelf} (ht : H t = some (.tup [.ref p, mv])) (np : ¬ M p) (hp : H p = some (.lst ((s.2.map fun r => r.2.2).map V.int))) (hm : Rp M H mv (markD s.1)) : Rp M H (.ref t) (lookD s) :=
  .tupA ht (RpA.nil.cons hm |>.cons (.lstA np hp RpA.ints))
theorem w_t0 {K : Frag} {H : Hp} {t : Addr} {x : V} {xs : List V} {Q : VK} (h : H t = some (.tup (x :: xs))) (q : Q x H) : rIxT K (.ref t) (.int 0) H Q := ⟨t, _, 0, x, rfl, rfl, SqT.of h, atI_nat (j := 0) rfl, q⟩
theorem w_t1 {K : Frag} {H : Hp} {t : Addr} {x y : V} {xs : List V} {Q : VK} (h : H t = some (.tup (x :: y :: xs))) (q : Q y H) : rIxT K (.ref t) (.int 1) H Q := ⟨t, _, 1, y, rfl, rfl, SqT.of h, atI_nat (j := 1) rfl, q⟩
theorem w_t2 {K : Frag} {H : Hp} {t : Addr} {x y z : V} {xs : List V} {Q : VK} (h : H t = some (.tup (x :: y :: z :: xs))) (q : Q z H) : rIxT K (.ref t) (.int 2) H Q := ⟨t, _, 2, z, rfl, rfl, SqT.of h, atI_nat (j := 2) rfl, q⟩
theorem w_lenTt {K : Frag} {H : Hp} {t : Addr} {xs : List V} {Q : VK} (h : H t = some (.tup xs)) (q : Q (.int xs.length) H) : rLen K [.ref t] H Q := ⟨t, xs, rfl, .inr (SqT.of h), q⟩
theorem not_old {H : Hp} {p : Addr} (h : ¬ Old H p) : H p = none := by
  cases z : H p with
  | none => rfl
  | some o => exact absurd (fun e => by rw [z] at e; cases e) h
theorem w_mth1 {M : Addr → Prop} {H : Hp} {C : Addr} {v : V} {ds : List Addr} {n : Nat} {key : Str} {f : Nat → Shelf} {m : Str} {R : Prop} (S : OneAt M H C v ds n key f) (h1 : ¬ m = "first") (h2 : ¬ m = "kept") (q : R) : rMth C m v H R := let ⟨_, S, _⟩ := S; w_mth S h1 h2 q
theorem cutV_from {xs : List V} {lo hi : Int} (h0 : 0 ≤ lo) (h1 : lo ≤ hi) : (cutV xs (some lo) (some hi)).length ≤ (hi - lo).toNat := by
  unfold cutV
  rw [List.length_take]
  unfold HT.sIx
  simp only
  split <;> split <;> omega
end Sb

set_option Elab.async false
set_option maxRecDepth 100000
set_option maxHeartbeats 4000000
set_option linter.all false
/-! list(reversed(a list)). -/
namespace Sb
open PySem L2 PyProof.Rows RT
section
variable {prog : Program} {w : World} {A : Around} {E : Value → Shared → Prop} {s : Shared}
theorem ext_rev {R : Result → Shared → Prop} {it l S : Addr} {items : Array Value} {res : Value} {c₀ : Nat} (hh : A.handled = none) (hit : s.heap.IsRevIter it l ((items.size : Int) - 1)) (hl : s.heap.IsList l items) (hne : l ≠ it) (hn : items.size ≤ sizeLine) (hSi : S ≠ it) (hSl : S ≠ l)
    (hS : s.heap.get? S = some { cls := .type "list", data := .seq #[] c₀ })
    (hR : ∀ h' tk acc' c', (∀ b o, b ≠ S → b ≠ it → s.heap.get? b = some o → h'.get? b = some o) → h'.get? S = some { cls := .type "list", dict := none, data := .seq acc' c', slots := #[] } → ItemsOf (fun i v => items[items.size - 1 - i]? = some v) acc' items.size → R (.ok (.ret res)) { s with heap := h', toks := tk }) :
    wpAny (model prog w) A.in1 (Builtin.List.listExtendWith (.ref S) (.ref it) res)
      (fun fin s' => match fin with | .done f => R (.ok f) s' | .again c' => c'.quiet = true ∧ codeAny (model prog w) A c' R s') (fun e s' => R (.error e) s') s := by
  have W := (Walks.listRev (prog := prog) (w := w) (A := A.in1) hh it l hne items).toS
  have hSf : S ∉ [it, l] := by simp only [List.mem_cons, List.not_mem_nil, or_false, not_or]; exact ⟨hSi, hSl⟩
  have hT : s.TypeIs (.ref it) "list_reverseiterator" := Heap.IsRevIter.typeIs hit
  have h1 : Builtin.List.listSameRef (.ref S) (.ref it) = false := by simp [Builtin.List.listSameRef, hSi]
  unfold Builtin.List.listExtendWith
  refine wpAny_bind (wpAny_typeOf hT ?_)
  rw [if_neg (by rw [h1]; decide)]
  refine wpAny_bind (wpAny_pyIter_revIter hit ?_)
  refine wpAny_bind (wpAny_holding ?_)
  unfold Builtin.List.listLengthHint
  refine wpAny_bind (wpAny_specialOf hT nolen_lri ?_)
  show wpAny _ A.in1 (specialOf (Value.ref it) (Str.ofString "__length_hint__") >>= _) _ _ _
  refine wpAny_bind (wpAny_specialOf hT hint_lri ?_)
  generalize hid : ("list_reverseiterator.__length_hint__" : String) = id0
  wp_delta
  rw [show splitId id0 = some ("list_reverseiterator", "__length_hint__") from by subst hid; decide +kernel]
  subst hid
  refine wpAny_bind (wpAny_isInstance (b := true) hT (by rw [isSubtype_type]; kernel_rfl) ?_)
  refine wpAny_pure ?_
  rw [if_neg (by decide)]
  have e0 : ((items.size : Nat) : Int) - 1 - ((0 : Nat) : Int) = (items.size : Int) - 1 := by omega
  refine wpAny_pure ⟨plainId_quiet F.plain_extend_loop _, codeAny_extend_loopS W hn _ hSf _ items.size 0 _ _ _ rfl (Nat.zero_le _) ⟨Nat.zero_le _, by rw [e0]; exact hit, hl⟩ hS (ItemsOf.nil _) fun s' acc' c' hm hS' hacc => ?_⟩
  rw [Moved.eq_with hm]
  refine hR s'.heap s'.toks acc' c' (fun b o hb hi e => hm.heap b o (fun hmem => ?_) e) hS' hacc
  rcases List.mem_cons.mp hmem with e' | hmem
  · exact hb e'
  · exact hi (List.mem_singleton.mp hmem)
theorem init_rev {R : Result → Shared → Prop} {it l S : Addr} {items : Array Value} (hh : A.handled = none) (hit : s.heap.IsRevIter it l ((items.size : Int) - 1)) (hl : s.heap.IsList l items) (hne : l ≠ it) (hn : items.size ≤ sizeLine) (hSi : S ≠ it) (hSl : S ≠ l)
    (hS : s.heap.get? S = some { cls := .type "list", data := .seq #[] })
    (hR : ∀ h' tk acc' c', (∀ b o, b ≠ S → b ≠ it → s.heap.get? b = some o → h'.get? b = some o) → h'.get? S = some { cls := .type "list", dict := none, data := .seq acc' c', slots := #[] } → ItemsOf (fun i v => items[items.size - 1 - i]? = some v) acc' items.size → R (.ok (.ret .none)) { s with heap := h', toks := tk }) :
    wpAny (model prog w) A.in1 (Builtin.«list.__init__» ⟨[.ref S, .ref it], []⟩)
      (fun fin s' => match fin with | .done f => R (.ok f) s' | .again c' => c'.quiet = true ∧ codeAny (model prog w) A c' R s') (fun e s' => R (.error e) s') s := by
  show wpAny _ _ (do let old ← Builtin.List.listItems (.ref S); Builtin.List.listUpdate (.ref S) (fun _ => #[]); letGo old.toList.reverse; Builtin.List.listExtendWith (.ref S) (.ref it) .none) _ _ s
  refine wpAny_bind ?_
  unfold Builtin.List.listItems
  refine wpAny_bind (wpAny_seqItems hS rfl (wpAny_pure ?_))
  show wpAny _ _ (updateSeq S (fun _ => #[]) >>= fun _ => letGo (#[] : Array Value).toList.reverse >>= fun _ => Builtin.List.listExtendWith (.ref S) (.ref it) .none) _ _ s
  refine wpAny_bind (wpAny_updateSeq hS rfl ?_)
  have hS₂ := Heap.get?_update_self (Obj.mapSeq (fun _ => (#[] : Array Value))) hS rfl
  have oth : ∀ b o, b ≠ S → s.heap.get? b = some o → (s.heap.update S (Obj.mapSeq (fun _ => (#[] : Array Value)))).get? b = some o :=
    fun b o hb e => (Heap.get?_update_other _ _ (Ne.symm hb)).trans e
  refine wpAny_bind (wpAny_letGo ?_)
  obtain ⟨ol, hol, rl⟩ := hl
  refine ext_rev (s := { s with heap := s.heap.update S (Obj.mapSeq (fun _ => (#[] : Array Value))) }) hh (hit.at fun o e => oth it o hSi.symm e) ⟨ol, oth l ol hSl.symm hol, rl⟩ hne hn hSi hSl hS₂ fun h' tk acc' c' hk hS' hacc => ?_
  exact hR h' tk acc' c' (fun b o hb hi e => hk b o hb hi (oth b o hb e)) hS' hacc
theorem call_list_rev {it l : Addr} {items : Array Value} {Q : Value → Shared → Prop} (hh : A.handled = none) (hit : s.heap.IsRevIter it l ((items.size : Int) - 1)) (hl : s.heap.IsList l items) (hne : l ≠ it) (hn : items.size ≤ sizeLine)
    (hQ : ∀ h' tk acc' c', (∀ b o, b ≠ it → s.heap.get? b = some o → h'.get? b = some o) → h'.get? s.heap.objs.size = some { cls := .type "list", dict := none, data := .seq acc' c', slots := #[] } → ItemsOf (fun i v => items[items.size - 1 - i]? = some v) acc' items.size → Q (.ref s.heap.objs.size) { s with heap := h', toks := tk }) :
    wpAny (model prog w) A (call (.type "list") [.ref it]) Q E s := by
  refine callType_codes (Q₁ := fun obj s₁ => obj = .ref s.heap.objs.size ∧ s₁ = { s with heap := s.heap.push { cls := .type "list", data := .seq #[] } }) PySem.F.called_list (PySem.F.typeCall_list_1 _) PySem.F.entry_list_init
    (code_list_new _ ⟨rfl, rfl⟩) fun obj s₁ h₁ => ?_
  obtain ⟨rfl, rfl⟩ := h₁
  have hS : (s.heap.push { cls := .type "list", data := .seq #[] }).get? s.heap.objs.size = some { cls := .type "list", data := .seq #[] } := Heap.get?_push_size _ rfl
  obtain ⟨oi, hoi, _⟩ := id hit
  obtain ⟨ol, hol, _⟩ := id hl
  refine ⟨⟨_, hS, rfl⟩, PySem.F.args_list_init_2 _ _, init_rev (A := A.in1) hh (hit.at fun o e => Heap.get?_push_of_some _ e) (hl.push _) hne hn (Nat.ne_of_gt (Heap.lt_size hoi)) (Nat.ne_of_gt (Heap.lt_size hol)) hS (fun h' tk acc' c' hk hS' hacc => ?_)⟩
  exact ⟨rfl, hQ h' tk acc' c' (fun b o hi e => hk b o (Nat.ne_of_lt (Heap.lt_size e)) hi (Heap.get?_push_of_some _ e)) hS' hacc⟩
end
def tLstRev (K : PySem.W.Frag) (te : TE) : TE := fun σ H Q => te σ H fun v H1 => ∃ (a : Addr) (xs : List V), v = .ref a ∧ SqL K H1 a xs ∧ ∀ q, H1 q = none → Q (.ref q) (upd H1 q (.lst xs.reverse))
theorem pe_lstRev {X : Cx} {e : Expr} {te : TE} {p p2 pos pos2 : Pos} (hc : X.calm = true) (hg : Gl X "list") (hm : X.mg "list" = none) (hg2 : Gl X "reversed") (hm2 : X.mg "reversed" = none) (he : PE X e te)
    (hs : starEach [e] X.env = (false, eval e X.env) :: starEach [] X.env := by rfl)
    (hs2 : starEach [.Call (.Name "reversed" p2) [e] [] pos2] X.env = (false, eval (.Call (.Name "reversed" p2) [e] [] pos2) X.env) :: starEach [] X.env := by rfl) :
    PE X (.Call (.Name "list" p) [.Call (.Name "reversed" p2) [e] [] pos2] [] pos) (tLstRev X.K te) := by
  refine ⟨fun pins s σ H Q I h => ?_⟩
  refine Call_ (ld_blt I hg hm boot_list (PyProof.Rows.callWith_type1 (args_cons (Call_ (ld_blt I hg2 hm2 PyProof.Rows.boot_reversed (PyProof.Rows.callWith_type1 (args_cons (thn (he.run pins s σ H _ I h) fun u s1 ⟨v, H1, I1, r1, q1⟩ => args_nil ?_) hs) hs rfl))) hs2) hs2 rfl))
  obtain ⟨a, xs, ev, hq, q⟩ := q1
  subst ev
  obtain rfl : u = Value.ref a := r1
  obtain ⟨its, rv, p', hz⟩ := I1.list hq
  refine call_reversed_list p'.isList (args_nil ?_)
  have k0 : ∀ b o, s1.heap.get? b = some o → (s1.heap.push (revObj a ((its.toArray.size : Int) - 1))).get? b = some o := fun b o e => Heap.get?_push_of_some _ e
  have I2 : Inv X pins σ H1 { s1 with heap := s1.heap.push (revObj a ((its.toArray.size : Int) - 1)) } := I1.kept (t' := s1.toks) k0
  obtain ⟨f0, f1, f2, f3, f4, f5⟩ := I1.fpOk (H' := H1) (b := s1.heap.objs.size) (Nat.le_refl _) (I1.hok.fresh (Nat.le_refl _))
  have hl := p'.isList
  obtain ⟨ol, hol, _⟩ := id hl
  have hne : a ≠ s1.heap.objs.size := Nat.ne_of_lt (Heap.lt_size hol)
  have hn : its.toArray.size ≤ sizeLine := by rw [List.size_toArray, ← rv.length]; exact hz
  refine call_list_rev (s := { s1 with heap := s1.heap.push (revObj a ((its.toArray.size : Int) - 1)) }) (I1.ok.hd hc) ⟨_, Heap.get?_push_size _ rfl, rfl, rfl⟩ (hl.push _) hne hn fun h' tk acc c' hk hS hi => ?_
  generalize hS0 : (s1.heap.push (revObj a ((its.toArray.size : Int) - 1))).objs.size = S at hS
  have hit : S ≠ s1.heap.objs.size := by
    rw [← hS0]
    exact Nat.ne_of_gt (Heap.lt_size (Heap.get?_push_size _ rfl : (s1.heap.push (revObj a ((its.toArray.size : Int) - 1))).get? s1.heap.objs.size = some _))
  have hn1 : H1 S = none := by rw [← hS0]; exact I2.hok.fresh (Nat.le_refl _)
  have I4 : Inv X pins σ (upd H1 S (.lst xs.reverse)) { s1 with heap := (s1.heap.push (revObj a ((its.toArray.size : Int) - 1))).push { cls := .type "list", dict := none, data := .seq acc c', slots := #[] } } := by
    rw [← hS0]
    exact I2.laid (t' := s1.toks) (fun b o e => Heap.get?_push_of_some _ e) (Nat.le_refl _) (show ObjOk X.prog X.w _ _ _ (.lst xs.reverse) from ⟨by rw [List.length_reverse]; exact hz, acc.toList, c', vals_rev rv hi, by rw [Array.toArray_toList]; exact Heap.get?_push_size _ rfl⟩)
  obtain ⟨g0, g1, g2, g3, g4, g5⟩ := I1.fpOk (H' := upd H1 S (.lst xs.reverse)) (b := s1.heap.objs.size) (Nat.le_refl _) (by rw [upd_ne hit.symm]; exact I1.hok.fresh (Nat.le_refl _))
  have I3 : Inv X pins σ (upd H1 S (.lst xs.reverse)) { s1 with heap := h', toks := tk } := I4.turned (t' := tk) (fun b o hb e => by
    by_cases z : b = S
    · subst z
      rw [← hS0] at e
      rw [Heap.get?_push_size _ rfl] at e
      rw [hS]; exact e
    · refine hk b o hb ?_
      rw [← Heap.get?_push_ne _ b _ (by rw [hS0]; exact z)]
      exact e) g0 g1 g3 g4 g5
  exact ⟨.ref S, _, I3, rfl, q S hn1⟩
end Sb

namespace Sb
open PySem L2
def top (i : Nat) : Stmt := PySem.Challenge.pw_siblingshelf_k06_refused.main.body.getD i (.Pass ⟨0, 0, 0, 0⟩)
abbrev s_blank : Stmt := top 8
abbrev N_blank : List Str := ["many", "keeper"]
theorem sc_blank : FnScope N_blank ["many"] (defScope s_blank) := ⟨rfl, rfl, rfl, by decide +kernel, rfl, by decide +kernel, by decide +kernel⟩
abbrev s_need_alike : Stmt := top 9
abbrev N_need_alike : List Str := ["one", "other"]
theorem sc_need_alike : FnScope N_need_alike ["one", "other"] (defScope s_need_alike) := ⟨rfl, rfl, rfl, by decide +kernel, rfl, by decide +kernel, by decide +kernel⟩
abbrev s_joined : Stmt := top 10
abbrev N_joined : List Str := ["one", "other", "keeper"]
theorem sc_joined : FnScope N_joined ["one", "other"] (defScope s_joined) := ⟨rfl, rfl, rfl, by decide +kernel, rfl, by decide +kernel, by decide +kernel⟩
abbrev s_has_seen : Stmt := top 11
abbrev N_has_seen : List Str := ["mark", "keeper", "number"]
theorem sc_has_seen : FnScope N_has_seen ["mark", "keeper", "number"] (defScope s_has_seen) := ⟨rfl, rfl, rfl, by decide +kernel, rfl, by decide +kernel, by decide +kernel⟩
abbrev s_unseen : Stmt := top 13
abbrev N_unseen : List Str := ["rows", "mark", "row"]
theorem sc_unseen : FnScope N_unseen ["rows", "mark"] (defScope s_unseen) := ⟨rfl, rfl, rfl, by decide +kernel, rfl, by decide +kernel, by decide +kernel⟩
abbrev s_put_on : Stmt := top 14
abbrev N_put_on : List Str := ["shelf", "keeper", "value", "mark", "number", "rows", "found"]
theorem sc_put_on : FnScope N_put_on ["shelf", "keeper", "value", "mark"] (defScope s_put_on) := ⟨rfl, rfl, rfl, by decide +kernel, rfl, by decide +kernel, by decide +kernel⟩
abbrev s_dropped : Stmt := top 15
abbrev N_dropped : List Str := ["shelf", "mark"]
theorem sc_dropped : FnScope N_dropped ["shelf", "mark"] (defScope s_dropped) := ⟨rfl, rfl, rfl, by decide +kernel, rfl, by decide +kernel, by decide +kernel⟩
abbrev s_met : Stmt := top 16
abbrev N_met : List Str := ["one", "other", "rows", "row"]
theorem sc_met : FnScope N_met ["one", "other"] (defScope s_met) := ⟨rfl, rfl, rfl, by decide +kernel, rfl, by decide +kernel, by decide +kernel⟩
abbrev s_S_init : Stmt := inClass (top 18) 0
abbrev N_S_init : List Str := ["self", "many", "keeper"]
theorem sc_S_init : FnScope N_S_init ["self", "many"] (defScope s_S_init) := ⟨rfl, rfl, rfl, by decide +kernel, rfl, by decide +kernel, by decide +kernel⟩
abbrev s_S_need_keeper : Stmt := inClass (top 18) 1
abbrev N_S_need_keeper : List Str := ["self", "keeper"]
theorem sc_S_need_keeper : FnScope N_S_need_keeper ["self", "keeper"] (defScope s_S_need_keeper) := ⟨rfl, rfl, rfl, by decide +kernel, rfl, by decide +kernel, by decide +kernel⟩
abbrev s_S_need_mark : Stmt := inClass (top 18) 2
abbrev N_S_need_mark : List Str := ["self", "mark", "number"]
theorem sc_S_need_mark : FnScope N_S_need_mark ["self", "mark"] (defScope s_S_need_mark) := ⟨rfl, rfl, rfl, by decide +kernel, rfl, by decide +kernel, by decide +kernel⟩
abbrev s_S_shelf : Stmt := inClass (top 18) 3
abbrev N_S_shelf : List Str := ["self", "keeper", "key"]
theorem sc_S_shelf : FnScope N_S_shelf ["self", "keeper", "key"] (defScope s_S_shelf) := ⟨rfl, rfl, rfl, by decide +kernel, rfl, by decide +kernel, by decide +kernel⟩
abbrev s_S_look : Stmt := inClass (top 18) 4
abbrev N_S_look : List Str := ["self", "keeper", "key", "shelf", "row"]
theorem sc_S_look : FnScope N_S_look ["self", "keeper", "key"] (defScope s_S_look) := ⟨rfl, rfl, rfl, by decide +kernel, rfl, by decide +kernel, by decide +kernel⟩
abbrev s_S_put : Stmt := inClass (top 18) 5
abbrev N_S_put : List Str := ["self", "keeper", "key", "value", "mark", "shelf"]
theorem sc_S_put : FnScope N_S_put ["self", "keeper", "key", "value", "mark"] (defScope s_S_put) := ⟨rfl, rfl, rfl, by decide +kernel, rfl, by decide +kernel, by decide +kernel⟩
abbrev s_S_drop : Stmt := inClass (top 18) 6
abbrev N_S_drop : List Str := ["self", "keeper", "key", "mark", "shelf"]
theorem sc_S_drop : FnScope N_S_drop ["self", "keeper", "key", "mark"] (defScope s_S_drop) := ⟨rfl, rfl, rfl, by decide +kernel, rfl, by decide +kernel, by decide +kernel⟩
abbrev s_S_letter : Stmt := inClass (top 18) 7
abbrev N_S_letter : List Str := ["self", "keeper", "key", "shelf"]
theorem sc_S_letter : FnScope N_S_letter ["self", "keeper", "key"] (defScope s_S_letter) := ⟨rfl, rfl, rfl, by decide +kernel, rfl, by decide +kernel, by decide +kernel⟩
abbrev s_S_take : Stmt := inClass (top 18) 8
abbrev N_S_take : List Str := ["self", "keeper", "letter", "shelf"]
theorem sc_S_take : FnScope N_S_take ["self", "keeper", "letter"] (defScope s_S_take) := ⟨rfl, rfl, rfl, by decide +kernel, rfl, by decide +kernel, by decide +kernel⟩
abbrev s_S_keys : Stmt := inClass (top 18) 9
abbrev N_S_keys : List Str := ["self", "keeper", "key"]
theorem sc_S_keys : FnScope N_S_keys ["self", "keeper"] (defScope s_S_keys) := ⟨rfl, rfl, rfl, by decide +kernel, rfl, by decide +kernel, by decide +kernel⟩
abbrev s_l_cell_at : Stmt := top 20
abbrev N_l_cell_at : List Str := ["_law_script", "_law_k"]
theorem sc_l_cell_at : FnScope N_l_cell_at ["_law_script", "_law_k"] (defScope s_l_cell_at) := ⟨rfl, rfl, rfl, by decide +kernel, rfl, by decide +kernel, by decide +kernel⟩
abbrev s_l_kind : Stmt := top 21
abbrev N_l_kind : List Str := ["_law_e", "_law_kinds"]
theorem sc_l_kind : FnScope N_l_kind ["_law_e"] (defScope s_l_kind) := ⟨rfl, rfl, rfl, by decide +kernel, rfl, by decide +kernel, by decide +kernel⟩
abbrev s_l_made : Stmt := top 22
abbrev N_l_made : List Str := ["_law_many", "_law_e"]
theorem sc_l_made : FnScope N_l_made ["_law_many"] (defScope s_l_made) := ⟨rfl, rfl, rfl, by decide +kernel, rfl, by decide +kernel, by decide +kernel⟩
abbrev s_l_spoilt : Stmt := top 23
abbrev N_l_spoilt : List Str := ["_law_mark", "_law_cell", "_law_at"]
theorem sc_l_spoilt : FnScope N_l_spoilt ["_law_mark", "_law_cell"] (defScope s_l_spoilt) := ⟨rfl, rfl, rfl, by decide +kernel, rfl, by decide +kernel, by decide +kernel⟩
abbrev s_l_asked : Stmt := top 24
abbrev N_l_asked : List Str := ["_law_store", "_law_sort", "_law_keeper", "_law_mark", "_law_letter"]
theorem sc_l_asked : FnScope N_l_asked ["_law_store", "_law_sort", "_law_keeper", "_law_mark", "_law_letter"] (defScope s_l_asked) := ⟨rfl, rfl, rfl, by decide +kernel, rfl, by decide +kernel, by decide +kernel⟩
abbrev s_l_refusal : Stmt := top 25
abbrev N_l_refusal : List Str := ["_law_store", "_law_sort", "_law_keeper", "_law_mark", "_law_letter", "_law_e"]
theorem sc_l_refusal : FnScope N_l_refusal ["_law_store", "_law_sort", "_law_keeper", "_law_mark", "_law_letter"] (defScope s_l_refusal) := ⟨rfl, rfl, rfl, by decide +kernel, rfl, by decide +kernel, by decide +kernel⟩
abbrev s_l_state : Stmt := top 26
abbrev N_l_state : List Str := ["_law_store", "_law_many", "_law_keeper"]
theorem sc_l_state : FnScope N_l_state ["_law_store", "_law_many"] (defScope s_l_state) := ⟨rfl, rfl, rfl, by decide +kernel, rfl, by decide +kernel, by decide +kernel⟩
abbrev s_law : Stmt := top 27
abbrev N_law : List Str := ["_law_script", "_law_count", "_law_made_here", "_law_many", "_law_store", "_law_mark", "_law_cell", "_law_letter", "_law_sort", "_law_keeper", "_law_due", "_law_before", "_law_k"]
theorem sc_law : FnScope N_law ["_law_script"] (defScope s_law) := ⟨rfl, rfl, rfl, by decide +kernel, rfl, by decide +kernel, by decide +kernel⟩
structure Ad where
  C_ShelfError : Addr
  C_BadCount : Addr
  C_NoKeeper : Addr
  C_BadMark : Addr
  C_BadNote : Addr
  C : Addr
  f_blank : Addr
  d_blank : FuncData
  f_need_alike : Addr
  d_need_alike : FuncData
  f_joined : Addr
  d_joined : FuncData
  f_has_seen : Addr
  d_has_seen : FuncData
  f_unseen : Addr
  d_unseen : FuncData
  f_put_on : Addr
  d_put_on : FuncData
  f_dropped : Addr
  d_dropped : FuncData
  f_met : Addr
  d_met : FuncData
  f_S_init : Addr
  d_S_init : FuncData
  f_S_need_keeper : Addr
  d_S_need_keeper : FuncData
  f_S_need_mark : Addr
  d_S_need_mark : FuncData
  f_S_shelf : Addr
  d_S_shelf : FuncData
  f_S_look : Addr
  d_S_look : FuncData
  f_S_put : Addr
  d_S_put : FuncData
  f_S_drop : Addr
  d_S_drop : FuncData
  f_S_letter : Addr
  d_S_letter : FuncData
  f_S_take : Addr
  d_S_take : FuncData
  f_S_keys : Addr
  d_S_keys : FuncData
  f_l_cell_at : Addr
  d_l_cell_at : FuncData
  f_l_kind : Addr
  d_l_kind : FuncData
  f_l_made : Addr
  d_l_made : FuncData
  f_l_spoilt : Addr
  d_l_spoilt : FuncData
  f_l_asked : Addr
  d_l_asked : FuncData
  f_l_refusal : Addr
  d_l_refusal : FuncData
  f_l_state : Addr
  d_l_state : FuncData
  f_law : Addr
  d_law : FuncData
structure Txt (K : Frag) (mg : Str → Option Value) (a : Ad) : Prop where
  n_ValueError : mg "ValueError" = none
  n_bool : mg "bool" = none
  n_int : mg "int" = none
  n_isinstance : mg "isinstance" = none
  n_len : mg "len" = none
  n_list : mg "list" = none
  n_max : mg "max" = none
  n_range : mg "range" = none
  n_sorted : mg "sorted" = none
  n_tuple : mg "tuple" = none
  g_MOST_KEEPERS : ∃ t, mg "MOST_KEEPERS" = some (.int 9 t)
  g_ShelfError : mg "ShelfError" = some (.ref a.C_ShelfError)
  x_ShelfError : PySem.W.excIn K a.C_ShelfError [.type "ValueError", .type "Exception", .type "BaseException", .type "object"] "ValueError.__new__" = true
  k_ShelfError : PySem.W.keepIn K (.ref a.C_ShelfError) = true
  b_ShelfError : PySem.W.subIn K (.ref a.C_ShelfError) (.type "BaseException") = some true
  t_ShelfError : PySem.W.typeIn K (.ref a.C_ShelfError) = some (.type "type")
  h_ShelfError : PySem.W.hasDictIn K a.C_ShelfError = true
  v_ShelfError : PySem.W.subIn K (.ref a.C_ShelfError) (.type "ValueError") = some true
  e_ShelfError : ExcC K a.C_ShelfError
  s_ShelfError_ShelfError : PySem.W.subIn K (.ref a.C_ShelfError) (.ref a.C_ShelfError) = some true
  s_ShelfError_BadCount : PySem.W.subIn K (.ref a.C_ShelfError) (.ref a.C_BadCount) = some false
  s_ShelfError_NoKeeper : PySem.W.subIn K (.ref a.C_ShelfError) (.ref a.C_NoKeeper) = some false
  s_ShelfError_BadMark : PySem.W.subIn K (.ref a.C_ShelfError) (.ref a.C_BadMark) = some false
  s_ShelfError_BadNote : PySem.W.subIn K (.ref a.C_ShelfError) (.ref a.C_BadNote) = some false
  g_BadCount : mg "BadCount" = some (.ref a.C_BadCount)
  x_BadCount : PySem.W.excIn K a.C_BadCount [.type "ValueError", .type "Exception", .type "BaseException", .type "object"] "ValueError.__new__" = true
  k_BadCount : PySem.W.keepIn K (.ref a.C_BadCount) = true
  b_BadCount : PySem.W.subIn K (.ref a.C_BadCount) (.type "BaseException") = some true
  t_BadCount : PySem.W.typeIn K (.ref a.C_BadCount) = some (.type "type")
  h_BadCount : PySem.W.hasDictIn K a.C_BadCount = true
  v_BadCount : PySem.W.subIn K (.ref a.C_BadCount) (.type "ValueError") = some true
  e_BadCount : ExcC K a.C_BadCount
  s_BadCount_ShelfError : PySem.W.subIn K (.ref a.C_BadCount) (.ref a.C_ShelfError) = some true
  s_BadCount_BadCount : PySem.W.subIn K (.ref a.C_BadCount) (.ref a.C_BadCount) = some true
  s_BadCount_NoKeeper : PySem.W.subIn K (.ref a.C_BadCount) (.ref a.C_NoKeeper) = some false
  s_BadCount_BadMark : PySem.W.subIn K (.ref a.C_BadCount) (.ref a.C_BadMark) = some false
  s_BadCount_BadNote : PySem.W.subIn K (.ref a.C_BadCount) (.ref a.C_BadNote) = some false
  g_NoKeeper : mg "NoKeeper" = some (.ref a.C_NoKeeper)
  x_NoKeeper : PySem.W.excIn K a.C_NoKeeper [.type "ValueError", .type "Exception", .type "BaseException", .type "object"] "ValueError.__new__" = true
  k_NoKeeper : PySem.W.keepIn K (.ref a.C_NoKeeper) = true
  b_NoKeeper : PySem.W.subIn K (.ref a.C_NoKeeper) (.type "BaseException") = some true
  t_NoKeeper : PySem.W.typeIn K (.ref a.C_NoKeeper) = some (.type "type")
  h_NoKeeper : PySem.W.hasDictIn K a.C_NoKeeper = true
  v_NoKeeper : PySem.W.subIn K (.ref a.C_NoKeeper) (.type "ValueError") = some true
  e_NoKeeper : ExcC K a.C_NoKeeper
  s_NoKeeper_ShelfError : PySem.W.subIn K (.ref a.C_NoKeeper) (.ref a.C_ShelfError) = some true
  s_NoKeeper_BadCount : PySem.W.subIn K (.ref a.C_NoKeeper) (.ref a.C_BadCount) = some false
  s_NoKeeper_NoKeeper : PySem.W.subIn K (.ref a.C_NoKeeper) (.ref a.C_NoKeeper) = some true
  s_NoKeeper_BadMark : PySem.W.subIn K (.ref a.C_NoKeeper) (.ref a.C_BadMark) = some false
  s_NoKeeper_BadNote : PySem.W.subIn K (.ref a.C_NoKeeper) (.ref a.C_BadNote) = some false
  g_BadMark : mg "BadMark" = some (.ref a.C_BadMark)
  x_BadMark : PySem.W.excIn K a.C_BadMark [.type "ValueError", .type "Exception", .type "BaseException", .type "object"] "ValueError.__new__" = true
  k_BadMark : PySem.W.keepIn K (.ref a.C_BadMark) = true
  b_BadMark : PySem.W.subIn K (.ref a.C_BadMark) (.type "BaseException") = some true
  t_BadMark : PySem.W.typeIn K (.ref a.C_BadMark) = some (.type "type")
  h_BadMark : PySem.W.hasDictIn K a.C_BadMark = true
  v_BadMark : PySem.W.subIn K (.ref a.C_BadMark) (.type "ValueError") = some true
  e_BadMark : ExcC K a.C_BadMark
  s_BadMark_ShelfError : PySem.W.subIn K (.ref a.C_BadMark) (.ref a.C_ShelfError) = some true
  s_BadMark_BadCount : PySem.W.subIn K (.ref a.C_BadMark) (.ref a.C_BadCount) = some false
  s_BadMark_NoKeeper : PySem.W.subIn K (.ref a.C_BadMark) (.ref a.C_NoKeeper) = some false
  s_BadMark_BadMark : PySem.W.subIn K (.ref a.C_BadMark) (.ref a.C_BadMark) = some true
  s_BadMark_BadNote : PySem.W.subIn K (.ref a.C_BadMark) (.ref a.C_BadNote) = some false
  g_BadNote : mg "BadNote" = some (.ref a.C_BadNote)
  x_BadNote : PySem.W.excIn K a.C_BadNote [.type "ValueError", .type "Exception", .type "BaseException", .type "object"] "ValueError.__new__" = true
  k_BadNote : PySem.W.keepIn K (.ref a.C_BadNote) = true
  b_BadNote : PySem.W.subIn K (.ref a.C_BadNote) (.type "BaseException") = some true
  t_BadNote : PySem.W.typeIn K (.ref a.C_BadNote) = some (.type "type")
  h_BadNote : PySem.W.hasDictIn K a.C_BadNote = true
  v_BadNote : PySem.W.subIn K (.ref a.C_BadNote) (.type "ValueError") = some true
  e_BadNote : ExcC K a.C_BadNote
  s_BadNote_ShelfError : PySem.W.subIn K (.ref a.C_BadNote) (.ref a.C_ShelfError) = some true
  s_BadNote_BadCount : PySem.W.subIn K (.ref a.C_BadNote) (.ref a.C_BadCount) = some false
  s_BadNote_NoKeeper : PySem.W.subIn K (.ref a.C_BadNote) (.ref a.C_NoKeeper) = some false
  s_BadNote_BadMark : PySem.W.subIn K (.ref a.C_BadNote) (.ref a.C_BadMark) = some false
  s_BadNote_BadNote : PySem.W.subIn K (.ref a.C_BadNote) (.ref a.C_BadNote) = some true
  cl : Cls K a.C
  mks : Mk K a.C a.f_S_init
  g_Store : mg "Store" = some (.ref a.C)
  nA_first : NoAttr K a.C "first"
  nA_kept : NoAttr K a.C "kept"
  q_eq : PySem.W.findIn K (.ref a.C) "__eq__" = some (some (.builtin "object.__eq__"))
  q_mro : PySem.W.mroIn K a.C (.type "object") = some true
  F_blank : Fun K "blank" "blank" s_blank a.f_blank a.d_blank
  b_blank : Binds K a.d_blank ["many"] []
  k_blank : PySem.W.keepIn K (.ref a.f_blank) = true
  g_blank : mg "blank" = some (.ref a.f_blank)
  F_need_alike : Fun K "need_alike" "need_alike" s_need_alike a.f_need_alike a.d_need_alike
  b_need_alike : Binds K a.d_need_alike ["one", "other"] []
  k_need_alike : PySem.W.keepIn K (.ref a.f_need_alike) = true
  g_need_alike : mg "need_alike" = some (.ref a.f_need_alike)
  F_joined : Fun K "joined" "joined" s_joined a.f_joined a.d_joined
  b_joined : Binds K a.d_joined ["one", "other"] []
  k_joined : PySem.W.keepIn K (.ref a.f_joined) = true
  g_joined : mg "joined" = some (.ref a.f_joined)
  F_has_seen : Fun K "has_seen" "has_seen" s_has_seen a.f_has_seen a.d_has_seen
  b_has_seen : Binds K a.d_has_seen ["mark", "keeper", "number"] []
  k_has_seen : PySem.W.keepIn K (.ref a.f_has_seen) = true
  g_has_seen : mg "has_seen" = some (.ref a.f_has_seen)
  F_unseen : Fun K "unseen" "unseen" s_unseen a.f_unseen a.d_unseen
  b_unseen : Binds K a.d_unseen ["rows", "mark"] []
  k_unseen : PySem.W.keepIn K (.ref a.f_unseen) = true
  g_unseen : mg "unseen" = some (.ref a.f_unseen)
  F_put_on : Fun K "put_on" "put_on" s_put_on a.f_put_on a.d_put_on
  b_put_on : Binds K a.d_put_on ["shelf", "keeper", "value", "mark"] []
  k_put_on : PySem.W.keepIn K (.ref a.f_put_on) = true
  g_put_on : mg "put_on" = some (.ref a.f_put_on)
  F_dropped : Fun K "dropped" "dropped" s_dropped a.f_dropped a.d_dropped
  b_dropped : Binds K a.d_dropped ["shelf", "mark"] []
  k_dropped : PySem.W.keepIn K (.ref a.f_dropped) = true
  g_dropped : mg "dropped" = some (.ref a.f_dropped)
  F_met : Fun K "met" "met" s_met a.f_met a.d_met
  b_met : Binds K a.d_met ["one", "other"] []
  k_met : PySem.W.keepIn K (.ref a.f_met) = true
  g_met : mg "met" = some (.ref a.f_met)
  F_S_init : Fun K "__init__" "Store.__init__" s_S_init a.f_S_init a.d_S_init
  b_S_init : Binds K a.d_S_init ["self", "many"] []
  k_S_init : PySem.W.keepIn K (.ref a.f_S_init) = true
  m_S_init : Meth K a.C "__init__" a.f_S_init
  F_S_need_keeper : Fun K "need_keeper" "Store.need_keeper" s_S_need_keeper a.f_S_need_keeper a.d_S_need_keeper
  b_S_need_keeper : Binds K a.d_S_need_keeper ["self", "keeper"] []
  k_S_need_keeper : PySem.W.keepIn K (.ref a.f_S_need_keeper) = true
  m_S_need_keeper : Meth K a.C "need_keeper" a.f_S_need_keeper
  F_S_need_mark : Fun K "need_mark" "Store.need_mark" s_S_need_mark a.f_S_need_mark a.d_S_need_mark
  b_S_need_mark : Binds K a.d_S_need_mark ["self", "mark"] []
  k_S_need_mark : PySem.W.keepIn K (.ref a.f_S_need_mark) = true
  m_S_need_mark : Meth K a.C "need_mark" a.f_S_need_mark
  F_S_shelf : Fun K "shelf" "Store.shelf" s_S_shelf a.f_S_shelf a.d_S_shelf
  b_S_shelf : Binds K a.d_S_shelf ["self", "keeper", "key"] []
  k_S_shelf : PySem.W.keepIn K (.ref a.f_S_shelf) = true
  m_S_shelf : Meth K a.C "shelf" a.f_S_shelf
  F_S_look : Fun K "look" "Store.look" s_S_look a.f_S_look a.d_S_look
  b_S_look : Binds K a.d_S_look ["self", "keeper", "key"] []
  k_S_look : PySem.W.keepIn K (.ref a.f_S_look) = true
  m_S_look : Meth K a.C "look" a.f_S_look
  F_S_put : Fun K "put" "Store.put" s_S_put a.f_S_put a.d_S_put
  b_S_put : Binds K a.d_S_put ["self", "keeper", "key", "value", "mark"] []
  k_S_put : PySem.W.keepIn K (.ref a.f_S_put) = true
  m_S_put : Meth K a.C "put" a.f_S_put
  F_S_drop : Fun K "drop" "Store.drop" s_S_drop a.f_S_drop a.d_S_drop
  b_S_drop : Binds K a.d_S_drop ["self", "keeper", "key", "mark"] []
  k_S_drop : PySem.W.keepIn K (.ref a.f_S_drop) = true
  m_S_drop : Meth K a.C "drop" a.f_S_drop
  F_S_letter : Fun K "letter" "Store.letter" s_S_letter a.f_S_letter a.d_S_letter
  b_S_letter : Binds K a.d_S_letter ["self", "keeper", "key"] []
  k_S_letter : PySem.W.keepIn K (.ref a.f_S_letter) = true
  m_S_letter : Meth K a.C "letter" a.f_S_letter
  F_S_take : Fun K "take" "Store.take" s_S_take a.f_S_take a.d_S_take
  b_S_take : Binds K a.d_S_take ["self", "keeper", "letter"] []
  k_S_take : PySem.W.keepIn K (.ref a.f_S_take) = true
  m_S_take : Meth K a.C "take" a.f_S_take
  F_S_keys : Fun K "keys" "Store.keys" s_S_keys a.f_S_keys a.d_S_keys
  b_S_keys : Binds K a.d_S_keys ["self", "keeper"] []
  k_S_keys : PySem.W.keepIn K (.ref a.f_S_keys) = true
  m_S_keys : Meth K a.C "keys" a.f_S_keys
  F_l_cell_at : Fun K "_law_cell_at" "_law_cell_at" s_l_cell_at a.f_l_cell_at a.d_l_cell_at
  b_l_cell_at : Binds K a.d_l_cell_at ["_law_script", "_law_k"] []
  k_l_cell_at : PySem.W.keepIn K (.ref a.f_l_cell_at) = true
  g_l_cell_at : mg "_law_cell_at" = some (.ref a.f_l_cell_at)
  F_l_kind : Fun K "_law_kind" "_law_kind" s_l_kind a.f_l_kind a.d_l_kind
  b_l_kind : Binds K a.d_l_kind ["_law_e"] []
  k_l_kind : PySem.W.keepIn K (.ref a.f_l_kind) = true
  g_l_kind : mg "_law_kind" = some (.ref a.f_l_kind)
  F_l_made : Fun K "_law_made" "_law_made" s_l_made a.f_l_made a.d_l_made
  b_l_made : Binds K a.d_l_made ["_law_many"] []
  k_l_made : PySem.W.keepIn K (.ref a.f_l_made) = true
  g_l_made : mg "_law_made" = some (.ref a.f_l_made)
  F_l_spoilt : Fun K "_law_spoilt" "_law_spoilt" s_l_spoilt a.f_l_spoilt a.d_l_spoilt
  b_l_spoilt : Binds K a.d_l_spoilt ["_law_mark", "_law_cell"] []
  k_l_spoilt : PySem.W.keepIn K (.ref a.f_l_spoilt) = true
  g_l_spoilt : mg "_law_spoilt" = some (.ref a.f_l_spoilt)
  F_l_asked : Fun K "_law_asked" "_law_asked" s_l_asked a.f_l_asked a.d_l_asked
  b_l_asked : Binds K a.d_l_asked ["_law_store", "_law_sort", "_law_keeper", "_law_mark", "_law_letter"] []
  k_l_asked : PySem.W.keepIn K (.ref a.f_l_asked) = true
  g_l_asked : mg "_law_asked" = some (.ref a.f_l_asked)
  F_l_refusal : Fun K "_law_refusal" "_law_refusal" s_l_refusal a.f_l_refusal a.d_l_refusal
  b_l_refusal : Binds K a.d_l_refusal ["_law_store", "_law_sort", "_law_keeper", "_law_mark", "_law_letter"] []
  k_l_refusal : PySem.W.keepIn K (.ref a.f_l_refusal) = true
  g_l_refusal : mg "_law_refusal" = some (.ref a.f_l_refusal)
  F_l_state : Fun K "_law_state" "_law_state" s_l_state a.f_l_state a.d_l_state
  b_l_state : Binds K a.d_l_state ["_law_store", "_law_many"] []
  k_l_state : PySem.W.keepIn K (.ref a.f_l_state) = true
  g_l_state : mg "_law_state" = some (.ref a.f_l_state)
  F_law : Fun K "law" "law" s_law a.f_law a.d_law
  b_law : Binds K a.d_law ["_law_script"] []
  k_law : PySem.W.keepIn K (.ref a.f_law) = true
  g_law : mg "law" = some (.ref a.f_law)
end Sb

namespace Sb
open PySem L2
def sp_blank (a : Ad) : Sp := fun vs H Q E => ∃ (n : Int), vs = [.int n] ∧ (1 ≤ n ∧ n ≤ 9 → ∀ v H', Same H H' → (∀ M, Rp M H' v (markD (List.replicate n.toNat 0))) → Q v H') ∧ (¬ (1 ≤ n ∧ n ≤ 9) → E (.ref a.C_BadCount) none H)
section
variable {P : Program} {w : World} {K : Frag} {mg : Str → Option Value} {base : Heap} {a : Ad}
local macro_rules | `(tactic| walk_at "e1") => `(tactic| first
  | ((with_reducible refine' w_var ?wh ?_); (case wh => rfl))
  | with_reducible refine w_c ?_
  | with_reducible refine w_projn ?_
  | with_reducible refine w_projr ?_
  | with_reducible refine w_op ?_
  | with_reducible refine w_cons ?_
  | with_reducible refine w_nil ?_
  | with_reducible refine w_I0 ?_
  | ((with_reducible refine w_I ?wc ?_); (case wc => first | (show (0 : Int) < _; decide) | exact ⟨by decide, by decide⟩ | exact ⟨by decide, by decide, by decide⟩ | exact Or.inr ⟨by decide, by decide⟩ | exact Or.inl ⟨by decide, by decide⟩ | (show (0 : Int) < _; omega) | exact ⟨by omega, by omega⟩))
  | with_reducible refine w_bl ?_
  | with_reducible refine w_test ?_
  | with_reducible refine w_tB ?_
  | with_reducible refine w_set ?_
  | with_reducible refine w_ifS ?_
  | with_reducible refine w_if ?_
  | with_reducible refine w_or ?_
  | with_reducible refine w_and ?_
  | with_reducible refine w_not ?_
  | with_reducible refine w_orV ?_
  | with_reducible refine w_andV ?_
  | with_reducible refine w_notV ?_
  | with_reducible refine w_ret ?_
  | with_reducible refine w_retN ?_
  | with_reducible refine w_drop ?_
  | with_reducible refine w_next ?_
  | with_reducible refine w_un ?_
  | with_reducible refine w_CB ?_
  | with_reducible refine w_call ?_
  | with_reducible refine w_callS ?_
  | with_reducible refine w_gName ?_
  | with_reducible refine w_asg ?_
  | with_reducible refine w_tTup ?_
  | with_reducible refine w_tLst ?_
  | with_reducible refine w_lc ?_
  | with_reducible refine w_iRng1 ?_
  | with_reducible refine w_iRng2 ?_
  | with_reducible refine w_iList ?_
  | with_reducible refine w_iTup ?_
  | with_reducible refine w_for ?_
  | with_reducible refine w_chain ?_
  | with_reducible refine w_sl ?_
  | with_reducible refine w_part ?_
  | with_reducible refine w_nopart ?_
  | with_reducible refine w_exint ?_
  | with_reducible refine w_dput ?_
  | with_reducible refine w_gSub ?_
  | with_reducible refine w_sFld ?_
  | with_reducible refine w_dget2 ?_
  | with_reducible refine w_dget ?_
  | with_reducible refine w_bm ?_
  | with_reducible refine w_isiII ?_
  | with_reducible refine w_isiIB ?_
  | with_reducible refine w_isiBB ?_
  | with_reducible refine w_max ?_
  | ((with_reducible refine w_eq ?we ?_); (case we => rfl))
  | ((with_reducible refine w_ne ?we ?_); (case we => rfl)))
local macro_rules | `(tactic| walk_at "w1") => `(tactic| first | walk_at "e1" | with_reducible refine w_seq ?_)
local macro_rules | `(tactic| walk_at "e") => `(tactic| repeat walk_at "e1")
local macro_rules | `(tactic| walk_at "w") => `(tactic| repeat walk_at "w1")

theorem ok_blank (T : Txt K mg a) : FnOk P w K mg base (L2.CX P w) 1 a.f_blank a.d_blank ["many"] (sp_blank a) := by
  refine T.F_blank.okX sc_blank (fun vs H Q E h => ?_) (fun cdv A outer s H vs Q E hr h => ?_)
  · obtain ⟨n, rfl, _⟩ := h; rfl
  · obtain ⟨n, rfl, k1, k2⟩ := h
    refine ⟨_, (pss_cons (ps_if (PW.pt (pw_or (pt_cmpR op_lt (pv 0) pe_int (nomark _)) (pw_or1 (pt_cmpR op_gt (pv 0) (pe_glob (v := .int 9) rfl T.g_MOST_KEEPERS.choose_spec ⟨_, rfl⟩) (nomark _))))) (pss_one (ps_raise rfl (takes_of rfl rfl rfl rfl) (pmk_own PySem.F.excBase_ValueError T.x_BadCount T.g_BadCount T.k_BadCount (raises_own T.b_BadCount T.t_BadCount) rfl))) pss_nil)
  (pss_one (ps_ret (pe_callTy (r := rTup K) cl_tup rfl T.n_tuple (by decide +kernel) (pa_cons (pe_lc (own := [("keeper", 1)]) rfl sc_blank.nd (pi_range1 rfl T.n_range (pa_cons (pv 0) pa_nil)) (blkOk_by (own := [("keeper", 1)]) (N := N_blank) (sc := defScope s_blank) (by decide +kernel)) (fun _ _ _ _ _ => (pg_name (i := 1) sc_blank.nd rfl (by first | exact Or.inl rfl | exact Or.inr rfl))) (fun _ _ _ _ _ => pts_nil) (fun _ _ _ _ _ => pe_int)) pa_nil))))), ?_⟩
    have no : n < 1 ∨ 9 < n → ¬ (1 ≤ n ∧ n ≤ 9) := by omega
    walk_at "w"
    refine ite2 (fun h1 => ?_) (fun h1 => ?_)
    · refine iteT ?_
      exact k2 (no (.inl (of_decide_eq_true h1)))
    · walk_at "w"
      refine ite2 (fun h2 => ?_) (fun h2 => ?_)
      · exact k2 (no (.inr (of_decide_eq_true h2)))
      · have h3 : 1 ≤ n ∧ n ≤ 9 := by
          have a1 : ¬ n < 1 := fun z => h1 (decide_eq_true z)
          have a2 : ¬ 9 < n := fun z => h2 (decide_eq_true z)
          omega
        walk_at "w"
        refine ⟨n, rfl, by omega, by omega, ?_⟩
        refine lcR n.toNat (fun _ => some (.int 0)) (fun _ => False) (fun _ _ z => z) (sz_small (by omega)) (fun i H2 M' Yes No hi s ex fr yes no => ?_) (fun D H' hD s r => ?_)
        · refine w_it0 rfl ?_
          exact yes _ H2 _ rfl (Same.refl _) (.int 0)
        · refine w_tupleL r fun v H2 s2 r2 => ?_
          refine k1 h3 v H2 (Same.trans s s2) fun M => ?_
          have e : (List.range n.toNat).filterMap (fun _ => some (PyData.int 0)) = (List.replicate n.toNat (0 : Int)).map PyData.int := by
            rw [List.map_replicate, List.filterMap_eq_map', List.map_const', List.length_range]
          rw [e] at r2
          exact Rp.mark r2
end
end Sb

namespace Sb
open PySem L2
/-! ### marks -/
def sp_need_alike (a : Ad) : Sp := fun vs H Q E => ∃ (M : Addr → Prop) (x y : V) (m n : List Int), vs = [x, y] ∧ Rp M H x (markD m) ∧ Rp M H y (markD n) ∧ (m.length = n.length → Q .non H) ∧ (m.length ≠ n.length → E (.ref a.C_BadMark) none H)
def sp_joined (a : Ad) : Sp := fun vs H Q E => ∃ (M : Addr → Prop) (x y : V) (m n : List Int), vs = [x, y] ∧ Rp M H x (markD m) ∧ Rp M H y (markD n) ∧ m.length ≤ 1000 ∧
  (m.length = n.length → ∀ v H', Same H H' → (∀ M, Rp M H' v (markD (joinM m n))) → Q v H') ∧ (m.length ≠ n.length → E (.ref a.C_BadMark) none H)
def sp_has_seen : Sp := fun vs H Q _ => ∃ (M : Addr → Prop) (x : V) (m : List Int) (k : Nat) (n : Int), vs = [x, .int k, .int n] ∧ Rp M H x (markD m) ∧ k < m.length ∧ Q (.bl (decide (n ≤ m.getD k 0))) H
section
variable {P : Program} {w : World} {K : Frag} {mg : Str → Option Value} {base : Heap} {a : Ad}
local macro_rules | `(tactic| walk_at "e1") => `(tactic| first
  | ((with_reducible refine' w_var ?wh ?_); (case wh => rfl))
  | with_reducible refine w_c ?_
  | with_reducible refine w_projn ?_
  | with_reducible refine w_projr ?_
  | with_reducible refine w_op ?_
  | with_reducible refine w_cons ?_
  | with_reducible refine w_nil ?_
  | with_reducible refine w_I0 ?_
  | ((with_reducible refine w_I ?wc ?_); (case wc => first | (show (0 : Int) < _; decide) | exact ⟨by decide, by decide⟩ | exact ⟨by decide, by decide, by decide⟩ | exact Or.inr ⟨by decide, by decide⟩ | exact Or.inl ⟨by decide, by decide⟩ | (show (0 : Int) < _; omega) | exact ⟨by omega, by omega⟩))
  | with_reducible refine w_bl ?_
  | with_reducible refine w_test ?_
  | with_reducible refine w_tB ?_
  | with_reducible refine w_set ?_
  | with_reducible refine w_ifS ?_
  | with_reducible refine w_if ?_
  | with_reducible refine w_or ?_
  | with_reducible refine w_and ?_
  | with_reducible refine w_not ?_
  | with_reducible refine w_orV ?_
  | with_reducible refine w_andV ?_
  | with_reducible refine w_notV ?_
  | with_reducible refine w_ret ?_
  | with_reducible refine w_retN ?_
  | with_reducible refine w_drop ?_
  | with_reducible refine w_next ?_
  | with_reducible refine w_un ?_
  | with_reducible refine w_CB ?_
  | with_reducible refine w_call ?_
  | with_reducible refine w_callS ?_
  | with_reducible refine w_gName ?_
  | with_reducible refine w_asg ?_
  | with_reducible refine w_tTup ?_
  | with_reducible refine w_tLst ?_
  | with_reducible refine w_lc ?_
  | with_reducible refine w_iRng1 ?_
  | with_reducible refine w_iRng2 ?_
  | with_reducible refine w_iList ?_
  | with_reducible refine w_iTup ?_
  | with_reducible refine w_for ?_
  | with_reducible refine w_chain ?_
  | with_reducible refine w_sl ?_
  | with_reducible refine w_part ?_
  | with_reducible refine w_nopart ?_
  | with_reducible refine w_exint ?_
  | with_reducible refine w_dput ?_
  | with_reducible refine w_gSub ?_
  | with_reducible refine w_sFld ?_
  | with_reducible refine w_dget2 ?_
  | with_reducible refine w_dget ?_
  | with_reducible refine w_bm ?_
  | with_reducible refine w_isiII ?_
  | with_reducible refine w_isiIB ?_
  | with_reducible refine w_isiBB ?_
  | with_reducible refine w_max ?_
  | ((with_reducible refine w_eq ?we ?_); (case we => rfl))
  | ((with_reducible refine w_ne ?we ?_); (case we => rfl)))
local macro_rules | `(tactic| walk_at "w1") => `(tactic| first | walk_at "e1" | with_reducible refine w_seq ?_)
local macro_rules | `(tactic| walk_at "e") => `(tactic| repeat walk_at "e1")
local macro_rules | `(tactic| walk_at "w") => `(tactic| repeat walk_at "w1")

theorem ok_need_alike (T : Txt K mg a) : FnOk P w K mg base (L2.CX P w) 1 a.f_need_alike a.d_need_alike ["one", "other"] (sp_need_alike a) := by
  refine T.F_need_alike.okX sc_need_alike (fun vs H Q E h => ?_) (fun cdv A outer s H vs Q E hr h => ?_)
  · obtain ⟨M, x, y, m, n, rfl, _⟩ := h; rfl
  · obtain ⟨M, x, y, m, n, rfl, hx, hy, k1, k2⟩ := h
    refine ⟨_, (pss_one (ps_if (pt_cmpR op_ne (pe_callB (r := rLen K) cl_len rfl T.n_len (by decide +kernel) (pa_cons (pv 0) pa_nil)) (pe_callB (r := rLen K) cl_len rfl T.n_len (by decide +kernel) (pa_cons (pv 1) pa_nil)) (nomark _)) (pss_one (ps_raise rfl (takes_of rfl rfl rfl rfl) (pmk_own PySem.F.excBase_ValueError T.x_BadMark T.g_BadMark T.k_BadMark (raises_own T.b_BadMark T.t_BadMark) rfl))) pss_nil)), ?_⟩
    walk_at "w"
    refine w_lenM hx ?_
    walk_at "w"
    refine w_lenM hy ?_
    walk_at "w"
    refine ite2 (fun h1 => ?_) (fun h1 => ?_)
    · exact k2 fun z => by simp [z] at h1
    · exact k1 (by simp at h1; omega)
theorem ok_joined (T : Txt K mg a) : FnOk P w K mg base (L2.CX P w) 2 a.f_joined a.d_joined ["one", "other"] (sp_joined a) := by
  refine T.F_joined.okX sc_joined (fun vs H Q E h => ?_) (fun cdv A outer s H vs Q E hr h => ?_)
  · obtain ⟨M, x, y, m, n, rfl, _⟩ := h; rfl
  · obtain ⟨M, x, y, m, n, rfl, hx, hy, hl, k1, k2⟩ := h
    refine ⟨_, (pss_cons (ps_expr (pe_call (ok_need_alike T) (hr.mono (by decide)) rfl T.g_need_alike T.k_need_alike T.b_need_alike .nil (passes_call (takes_of rfl rfl rfl rfl) (fun _ _ _ _ h => h)) (pa_cons (pv 0) (pa_cons (pv 1) pa_nil))))
  (pss_one (ps_ret (pe_callTy (r := rTup K) cl_tup rfl T.n_tuple (by decide +kernel) (pa_cons (pe_lc (own := [("keeper", 2)]) rfl sc_joined.nd (pi_range1 rfl T.n_range (pa_cons (pe_callB (r := rLen K) cl_len rfl T.n_len (by decide +kernel) (pa_cons (pv 0) pa_nil)) pa_nil)) (blkOk_by (own := [("keeper", 2)]) (N := N_joined) (sc := defScope s_joined) (by decide +kernel)) (fun _ _ _ _ _ => (pg_name (i := 2) sc_joined.nd rfl (by first | exact Or.inl rfl | exact Or.inr rfl))) (fun _ _ _ _ _ => pts_nil) (fun _ _ _ _ _ => (pe_callB (cl_max rfl) rfl T.n_max (by decide +kernel) (pa_cons (pe_ix (r := rIxT K) ix_tup (pv 0) (pv 2) (fun _ _ => rfl)) (pa_cons (pe_ix (r := rIxT K) ix_tup (pv 1) (pv 2) (fun _ _ => rfl)) pa_nil))))) pa_nil))))), ?_⟩
    walk_at "w"
    refine ⟨M, x, y, m, n, rfl, hx, hy, fun e => ?_, fun e => k2 e⟩
    walk_at "w"
    refine w_lenM hx ?_
    refine ⟨_, rfl, by omega, by omega, ?_⟩
    refine lcR _ (fun i => some (.int (max (m.getD i 0) (n.getD i 0)))) (fun _ => False) (fun _ _ z => z) (sz_small (by omega)) (fun i H2 M' Yes No hi s ex fr yes no => ?_) (fun D H' hD s r => ?_)
    · have hi : i < m.length := hi
      refine w_it0 rfl ?_
      walk_at "w"
      refine w_ixM i (hx.same s) (by omega) hi ?_
      walk_at "w"
      refine w_ixM i (hy.same s) (by omega) (by omega) ?_
      walk_at "w"
      exact yes _ H2 _ rfl (Same.refl _) (.int _)
    · refine w_tupleL r fun v H2 s2 r2 => ?_
      refine k1 e v H2 (Same.trans s s2) fun M => ?_
      rw [fm_join e] at r2
      exact Rp.mark r2
theorem ok_has_seen (T : Txt K mg a) : FnOk P w K mg base (L2.CX P w) 1 a.f_has_seen a.d_has_seen ["mark", "keeper", "number"] sp_has_seen := by
  refine T.F_has_seen.okX sc_has_seen (fun vs H Q E h => ?_) (fun cdv A outer s H vs Q E hr h => ?_)
  · obtain ⟨M, x, m, k, n, rfl, _⟩ := h; rfl
  · obtain ⟨M, x, m, k, n, rfl, hx, hk, q⟩ := h
    refine ⟨_, (pss_one (ps_ret (pe_cmpR op_le (pv 2) (pe_ix (r := rIxT K) ix_tup (pv 0) (pv 1) (fun _ _ => rfl)) (nomark _)))), ?_⟩
    walk_at "w"
    refine w_ixM k hx rfl hk ?_
    walk_at "w"
    exact q
end
end Sb

namespace Sb
open PySem L2 PyProof.Rows
def sp_unseen : Sp := fun vs H Q _ => ∃ (M : Addr → Prop) (x y : V) (rs : List Row) (m : List Int), vs = [x, y] ∧ Fr M H ∧ Rp M H x (rowsD rs) ∧ Rp M H y (markD m) ∧ Rin m.length rs ∧ rs.length ≤ 10000 ∧
  ∀ p H', H p = none → Same H H' → Rp M H' (.ref p) (rowsD (unseen rs m)) → Q (.ref p) H'
section
variable {P : Program} {w : World} {K : Frag} {mg : Str → Option Value} {base : Heap} {a : Ad}
local macro_rules | `(tactic| walk_at "e1") => `(tactic| first
  | ((with_reducible refine' w_var ?wh ?_); (case wh => rfl))
  | with_reducible refine w_c ?_
  | with_reducible refine w_projn ?_
  | with_reducible refine w_projr ?_
  | with_reducible refine w_op ?_
  | with_reducible refine w_cons ?_
  | with_reducible refine w_nil ?_
  | with_reducible refine w_I0 ?_
  | ((with_reducible refine w_I ?wc ?_); (case wc => first | (show (0 : Int) < _; decide) | exact ⟨by decide, by decide⟩ | exact ⟨by decide, by decide, by decide⟩ | exact Or.inr ⟨by decide, by decide⟩ | exact Or.inl ⟨by decide, by decide⟩ | (show (0 : Int) < _; omega) | exact ⟨by omega, by omega⟩))
  | with_reducible refine w_bl ?_
  | with_reducible refine w_test ?_
  | with_reducible refine w_tB ?_
  | with_reducible refine w_set ?_
  | with_reducible refine w_ifS ?_
  | with_reducible refine w_if ?_
  | with_reducible refine w_or ?_
  | with_reducible refine w_and ?_
  | with_reducible refine w_not ?_
  | with_reducible refine w_orV ?_
  | with_reducible refine w_andV ?_
  | with_reducible refine w_notV ?_
  | with_reducible refine w_ret ?_
  | with_reducible refine w_retN ?_
  | with_reducible refine w_drop ?_
  | with_reducible refine w_next ?_
  | with_reducible refine w_un ?_
  | with_reducible refine w_CB ?_
  | with_reducible refine w_call ?_
  | with_reducible refine w_callS ?_
  | with_reducible refine w_gName ?_
  | with_reducible refine w_asg ?_
  | with_reducible refine w_tTup ?_
  | with_reducible refine w_tLst ?_
  | with_reducible refine w_lc ?_
  | with_reducible refine w_iRng1 ?_
  | with_reducible refine w_iRng2 ?_
  | with_reducible refine w_iList ?_
  | with_reducible refine w_iTup ?_
  | with_reducible refine w_for ?_
  | with_reducible refine w_chain ?_
  | with_reducible refine w_sl ?_
  | with_reducible refine w_part ?_
  | with_reducible refine w_nopart ?_
  | with_reducible refine w_exint ?_
  | with_reducible refine w_dput ?_
  | with_reducible refine w_gSub ?_
  | with_reducible refine w_sFld ?_
  | with_reducible refine w_dget2 ?_
  | with_reducible refine w_dget ?_
  | with_reducible refine w_bm ?_
  | with_reducible refine w_isiII ?_
  | with_reducible refine w_isiIB ?_
  | with_reducible refine w_isiBB ?_
  | with_reducible refine w_max ?_
  | ((with_reducible refine w_eq ?we ?_); (case we => rfl))
  | ((with_reducible refine w_ne ?we ?_); (case we => rfl)))
local macro_rules | `(tactic| walk_at "w1") => `(tactic| first | walk_at "e1" | with_reducible refine w_seq ?_)
local macro_rules | `(tactic| walk_at "e") => `(tactic| repeat walk_at "e1")
local macro_rules | `(tactic| walk_at "w") => `(tactic| repeat walk_at "w1")

theorem ok_unseen (T : Txt K mg a) : FnOk P w K mg base (L2.CX P w) 2 a.f_unseen a.d_unseen ["rows", "mark"] sp_unseen := by
  refine T.F_unseen.okX sc_unseen (fun vs H Q E h => ?_) (fun cdv A outer s H vs Q E hr h => ?_)
  · obtain ⟨M, x, y, rs, m, rfl, _⟩ := h; rfl
  · obtain ⟨M, x, y, rs, m, rfl, fr, hx, hy, hin, hl, q⟩ := h
    refine ⟨_, (pss_one (ps_ret (pe_lc (own := [("row", 2)]) rfl sc_unseen.nd (pi_list (pv 0)) (blkOk_by (own := [("row", 2)]) (N := N_unseen) (sc := defScope s_unseen) (by decide +kernel)) (fun _ _ _ _ _ => (pg_name (i := 2) sc_unseen.nd rfl (by first | exact Or.inl rfl | exact Or.inr rfl))) (fun _ _ _ _ _ => (pts_one (pt_not (pt_val (pe_call (ok_has_seen T) (hr.mono (by decide)) rfl T.g_has_seen T.k_has_seen T.b_has_seen .nil passL (pa_cons (pv 1) (pa_cons (pe_ix (r := rIxT K) ix_tup (pv 2) pe_int (fun _ _ => rfl)) (pa_cons (pe_ix (r := rIxT K) ix_tup (pv 2) pe_int (fun _ _ => rfl)) pa_nil)))))))) (fun _ _ _ _ _ => (pv 2))))), ?_⟩
    walk_at "w"
    obtain ⟨b, xs, rfl, hb, hxs, ra⟩ := Rp.lst_inv (ds := rs.map rowD) hx
    have hlen : xs.length = rs.length := by rw [ra.1, List.length_map]
    refine ⟨b, rfl, ⟨xs, SqL.of hxs⟩, ?_⟩
    refine lcL rs (fun r => if (!seen m r) = true then some (rowD r) else none) M fr (SqL.of hxs) hlen (sz_small (by omega)) (fun i x r H2 M' Yes No hx hr s ex fr yes no => ?_) (fun D H' hD s r => ?_)
    · have rx : Rp M' H2 x (rowD r) := (ra.2 i x (rowD r) hx (by rw [List.getElem?_map, hr]; rfl)).ext ex
      obtain ⟨k0, k1⟩ := hin r (List.mem_of_getElem? hr)
      refine w_it1 rfl ?_
      walk_at "w"
      refine w_row0 rx ?_
      walk_at "w"
      refine w_row1 rx ?_
      walk_at "w"
      refine ⟨M', _, m, r.1.toNat, r.2.1, by rw [Int.toNat_of_nonneg k0]; rfl, hy.ext ex, by omega, ?_⟩
      walk_at "w"
      by_cases hs : seen m r = true
      · rw [show decide (r.2.1 ≤ m.getD r.1.toNat 0) = true from hs]
        refine iteF ?_
        exact no H2 (by rw [hs]; rfl) (Same.refl _)
      · have hs : seen m r = false := by simpa using hs
        rw [show decide (r.2.1 ≤ m.getD r.1.toNat 0) = false from hs]
        refine iteT ?_
        walk_at "w"
        exact yes _ H2 _ (by rw [hs]; rfl) (Same.refl _) rx
    · rw [fm_filter] at r
      exact q D _ hD s r
end
end Sb

namespace Sb
open PySem L2 PyProof.Rows
def sp_put_on : Sp := fun vs H Q _ => ∃ (M : Addr → Prop) (x y : V) (s : Shelf) (k : Nat) (v : Int) (m : List Int), vs = [x, .int k, .int v, y] ∧ Fr M H ∧ Rp M H x (shelfD s) ∧ Rp M H y (markD m) ∧ s.1.length = m.length ∧ k < m.length ∧ m.length ≤ 9 ∧
  Rin m.length s.2 ∧ s.2.length ≤ 10000 ∧ ∀ v' H', Same H H' → Rp (Old H) H' v' (shelfD (putOn s k v m)) → Q v' H'
section
variable {P : Program} {w : World} {K : Frag} {mg : Str → Option Value} {base : Heap} {a : Ad}
local macro_rules | `(tactic| walk_at "e1") => `(tactic| first
  | ((with_reducible refine' w_var ?wh ?_); (case wh => rfl))
  | with_reducible refine w_c ?_
  | with_reducible refine w_projn ?_
  | with_reducible refine w_projr ?_
  | with_reducible refine w_op ?_
  | with_reducible refine w_cons ?_
  | with_reducible refine w_nil ?_
  | with_reducible refine w_I0 ?_
  | ((with_reducible refine w_I ?wc ?_); (case wc => first | (show (0 : Int) < _; decide) | exact ⟨by decide, by decide⟩ | exact ⟨by decide, by decide, by decide⟩ | exact Or.inr ⟨by decide, by decide⟩ | exact Or.inl ⟨by decide, by decide⟩ | (show (0 : Int) < _; omega) | exact ⟨by omega, by omega⟩))
  | with_reducible refine w_bl ?_
  | with_reducible refine w_test ?_
  | with_reducible refine w_tB ?_
  | with_reducible refine w_set ?_
  | with_reducible refine w_ifS ?_
  | with_reducible refine w_if ?_
  | with_reducible refine w_or ?_
  | with_reducible refine w_and ?_
  | with_reducible refine w_not ?_
  | with_reducible refine w_orV ?_
  | with_reducible refine w_andV ?_
  | with_reducible refine w_notV ?_
  | with_reducible refine w_ret ?_
  | with_reducible refine w_retN ?_
  | with_reducible refine w_drop ?_
  | with_reducible refine w_next ?_
  | with_reducible refine w_un ?_
  | with_reducible refine w_CB ?_
  | with_reducible refine w_call ?_
  | with_reducible refine w_callS ?_
  | with_reducible refine w_gName ?_
  | with_reducible refine w_asg ?_
  | with_reducible refine w_tTup ?_
  | with_reducible refine w_tLst ?_
  | with_reducible refine w_lc ?_
  | with_reducible refine w_iRng1 ?_
  | with_reducible refine w_iRng2 ?_
  | with_reducible refine w_iList ?_
  | with_reducible refine w_iTup ?_
  | with_reducible refine w_for ?_
  | with_reducible refine w_chain ?_
  | with_reducible refine w_sl ?_
  | with_reducible refine w_part ?_
  | with_reducible refine w_nopart ?_
  | with_reducible refine w_exint ?_
  | with_reducible refine w_dput ?_
  | with_reducible refine w_gSub ?_
  | with_reducible refine w_sFld ?_
  | with_reducible refine w_dget2 ?_
  | with_reducible refine w_dget ?_
  | with_reducible refine w_bm ?_
  | with_reducible refine w_isiII ?_
  | with_reducible refine w_isiIB ?_
  | with_reducible refine w_isiBB ?_
  | with_reducible refine w_max ?_
  | ((with_reducible refine w_eq ?we ?_); (case we => rfl))
  | ((with_reducible refine w_ne ?we ?_); (case we => rfl)))
local macro_rules | `(tactic| walk_at "w1") => `(tactic| first | walk_at "e1" | with_reducible refine w_seq ?_)
local macro_rules | `(tactic| walk_at "e") => `(tactic| repeat walk_at "e1")
local macro_rules | `(tactic| walk_at "w") => `(tactic| repeat walk_at "w1")

theorem ok_put_on (T : Txt K mg a) : FnOk P w K mg base (L2.CX P w) 3 a.f_put_on a.d_put_on ["shelf", "keeper", "value", "mark"] sp_put_on := by
  refine T.F_put_on.okX sc_put_on (fun vs H Q E h => ?_) (fun cdv A outer s H vs Q E hr h => ?_)
  · obtain ⟨M, x, y, s, k, v, m, rfl, _⟩ := h; rfl
  · obtain ⟨M, x, y, s, k, v, m, rfl, fr, hx, hy, hlm, hk, hl9, hin, hl, q⟩ := h
    refine ⟨_, (pss_cons (ps_set (i := 4) sc_put_on.nd rfl (Or.inl rfl) (pe_op op_add (pe_ix (r := rIxT K) ix_tup (pe_ix (r := rIxT K) ix_tup (pv 0) pe_int (fun _ _ => rfl)) (pv 1) (fun _ _ => rfl)) pe_int))
  (pss_cons (ps_set (i := 5) sc_put_on.nd rfl (Or.inl rfl) (pe_op op_cat (pe_call (ok_unseen T) (hr.mono (by decide)) rfl T.g_unseen T.k_unseen T.b_unseen .nil passL (pa_cons (pe_ix (r := rIxT K) ix_tup (pv 0) pe_int (fun _ _ => rfl)) (pa_cons (pv 3) pa_nil))) (pe_lst (pa_cons (pe_tup (pa_cons (pv 1) (pa_cons (pv 4) (pa_cons (pv 2) pa_nil)))) pa_nil))))
  (pss_cons (ps_set (i := 6) sc_put_on.nd rfl (Or.inl rfl) (pe_callTy (r := rLst K) cl_lst rfl T.n_list (by decide +kernel) (pa_cons (pe_call (ok_joined T) (hr.mono (by decide)) rfl T.g_joined T.k_joined T.b_joined .nil passL (pa_cons (pe_ix (r := rIxT K) ix_tup (pv 0) pe_int (fun _ _ => rfl)) (pa_cons (pv 3) pa_nil))) pa_nil)))
  (pss_cons (ps_asg (pv 4) (pg_sub (pv 6) (pv 1) set_list))
  (pss_one (ps_ret (pe_tup (pa_cons (pe_callTy (r := rTup K) cl_tup rfl T.n_tuple (by decide +kernel) (pa_cons (pv 6) pa_nil)) (pa_cons (pe_callB (r := rSortedT K) cr_sortedT rfl T.n_sorted (by decide +kernel) (pa_cons (pv 5) pa_nil)) pa_nil))))))))), ?_⟩
    walk_at "w"
    refine w_shelf0 hx fun v0 r0 => ?_
    walk_at "w"
    refine w_ixM k r0 rfl (by omega) ?_
    walk_at "w"
    refine w_shelf1 hx fun v1 r1 => ?_
    walk_at "w"
    refine ⟨M, _, _, _, _, rfl, fr, r1, hy, hin, hl, fun p2 H2 n2 s2 r2 => ?_⟩
    have fr2 := fr.same s2
    walk_at "w"
    -- [(keeper, number, value)]
    refine w_newT (M := M) (ds := (rowL ((k : Int), s.1.getD k 0 + 1, v)).map PyData.int) (RpA.ints (ns := rowL ((k : Int), s.1.getD k 0 + 1, v))) (by show 3 ≤ sizeLine; decide) fun v3 H3 s3 r3 => ?_
    have r3 : Rp M H3 v3 (rowD ((k : Int), s.1.getD k 0 + 1, v)) := r3
    walk_at "w"
    refine ⟨by show 1 ≤ sizeLine; decide, fun p4 n4 => ?_⟩
    obtain ⟨_, xs, e, m2, hxs, ra⟩ := Rp.lst_inv (ds := (unseen s.2 m).map rowD) (r2.same s3)
    cases e
    have h24 : p2 ≠ p4 := ne_of_none hxs n4
    have hfew : xs.length ≤ 10000 := by
      have := List.length_filter_le (fun r => !seen m r) s.2
      rw [ra.1, List.length_map]
      unfold unseen
      omega
    refine ⟨p2, p4, xs, [v3], rfl, rfl, by rw [upd_ne h24]; exact hxs, upd_same, sz_small (by show xs.length + 1 ≤ 100000; omega), fun p5 n5 => ?_⟩
    have s5 : Same H3 (upd (upd H3 p4 (.lst [v3])) p5 (.lst (xs ++ [v3]))) := Same.trans (Same.new n4) (Same.new n5)
    have fr5 : Fr M (upd H3 p4 (.lst [v3])) := (fr2.same s3).same (Same.new n4)
    have r5 : Rp M (upd (upd H3 p4 (.lst [v3])) p5 (.lst (xs ++ [v3]))) (.ref p5) (rowsD (unseen s.2 m ++ [((k : Int), s.1.getD k 0 + 1, v)])) := by
      refine .lstA (fr5 p5 n5) upd_same ?_
      rw [List.map_append]
      exact (ra.same s5).snoc (r3.same s5)
    generalize upd (upd H3 p4 (.lst [v3])) p5 (.lst (xs ++ [v3])) = H5 at s5 r5
    have s35 := Same.trans s2 (Same.trans s3 s5)
    walk_at "w"
    -- list(joined(..))
    refine w_shelf0 (hx.same s35) fun v6 r6 => ?_
    walk_at "w"
    refine ⟨M, _, _, _, _, rfl, r6, hy.same s35, by omega, fun _ v7 H7 s7 r7 => ?_, fun z => absurd hlm z⟩
    walk_at "w"
    obtain ⟨p7, ys, rfl, h7, ry⟩ := Rp.tup_inv (ds := (joinM s.1 m).map PyData.int) (r7 M)
    have ey := ry.ints_inv
    refine ⟨p7, ys, rfl, .inr (SqT.of h7), fun p8 n8 => ?_⟩
    walk_at "w"
    have hjl : (joinM s.1 m).length = s.1.length := joinM_len hlm
    refine ⟨p8, ys, k, k, rfl, rfl, upd_same, ixN_nat rfl (by rw [ey, List.length_map]; omega), ?_⟩
    have s8 : Same H7 (upd (upd H7 p8 (.lst ys)) p8 (.lst (ys.set k (.int (s.1.getD k 0 + 1))))) := Same.mut (Same.new n8) n8
    have h8 : upd (upd H7 p8 (.lst ys)) p8 (.lst (ys.set k (.int (s.1.getD k 0 + 1)))) p8 = some (.lst (((joinM s.1 m).set k (s.1.getD k 0 + 1)).map V.int)) := by
      rw [upd_same, ey, List.map_set]
    generalize upd (upd H7 p8 (.lst ys)) p8 (.lst (ys.set k (.int (s.1.getD k 0 + 1)))) = H8 at s8 h8
    have s78 := Same.trans s7 s8
    walk_at "w"
    refine w_tupleL (M := fun _ => False) (ds := ((joinM s.1 m).set k (s.1.getD k 0 + 1)).map PyData.int) (.lstA (fun z => z) h8 RpA.ints) fun v9 H9 s9 r9 => ?_
    walk_at "w"
    have r5 := (r5.same s78).same s9
    have s59 := Same.trans s35 (Same.trans s78 s9)
    refine w_sortR (fr.same s59) r5 fun p10 H10 n10 s10 r10 => ?_
    walk_at "w"
    have hpair : RpA (Old H) H10 [v9, .ref p10] [markD (putOn s k v m).1, rowsD (putOn s k v m).2] :=
      Rp.shelf (s := putOn s k v m) (Rp.mark (r9.same s10)) (r10.rows_at fun z => z (s59.free n10))
    refine w_newT hpair (by show 2 ≤ sizeLine; decide) fun v11 H11 s11 r11 => ?_
    exact q v11 H11 (Same.trans s59 (Same.trans s10 s11)) r11
end
end Sb

namespace Sb
open PySem L2 PyProof.Rows
def sp_dropped : Sp := fun vs H Q _ => ∃ (M : Addr → Prop) (x y : V) (s : Shelf) (m : List Int), vs = [x, y] ∧ Fr M H ∧ Rp M H x (shelfD s) ∧ Rp M H y (markD m) ∧ s.1.length = m.length ∧ m.length ≤ 9 ∧ Rin m.length s.2 ∧ s.2.length ≤ 10000 ∧
  ∀ v H', Same H H' → Rp (Old H) H' v (shelfD (droppedS s m)) → Q v H'
section
variable {P : Program} {w : World} {K : Frag} {mg : Str → Option Value} {base : Heap} {a : Ad}
local macro_rules | `(tactic| walk_at "e1") => `(tactic| first
  | ((with_reducible refine' w_var ?wh ?_); (case wh => rfl))
  | with_reducible refine w_c ?_
  | with_reducible refine w_projn ?_
  | with_reducible refine w_projr ?_
  | with_reducible refine w_op ?_
  | with_reducible refine w_cons ?_
  | with_reducible refine w_nil ?_
  | with_reducible refine w_I0 ?_
  | ((with_reducible refine w_I ?wc ?_); (case wc => first | (show (0 : Int) < _; decide) | exact ⟨by decide, by decide⟩ | exact ⟨by decide, by decide, by decide⟩ | exact Or.inr ⟨by decide, by decide⟩ | exact Or.inl ⟨by decide, by decide⟩ | (show (0 : Int) < _; omega) | exact ⟨by omega, by omega⟩))
  | with_reducible refine w_bl ?_
  | with_reducible refine w_test ?_
  | with_reducible refine w_tB ?_
  | with_reducible refine w_set ?_
  | with_reducible refine w_ifS ?_
  | with_reducible refine w_if ?_
  | with_reducible refine w_or ?_
  | with_reducible refine w_and ?_
  | with_reducible refine w_not ?_
  | with_reducible refine w_orV ?_
  | with_reducible refine w_andV ?_
  | with_reducible refine w_notV ?_
  | with_reducible refine w_ret ?_
  | with_reducible refine w_retN ?_
  | with_reducible refine w_drop ?_
  | with_reducible refine w_next ?_
  | with_reducible refine w_un ?_
  | with_reducible refine w_CB ?_
  | with_reducible refine w_call ?_
  | with_reducible refine w_callS ?_
  | with_reducible refine w_gName ?_
  | with_reducible refine w_asg ?_
  | with_reducible refine w_tTup ?_
  | with_reducible refine w_tLst ?_
  | with_reducible refine w_lc ?_
  | with_reducible refine w_iRng1 ?_
  | with_reducible refine w_iRng2 ?_
  | with_reducible refine w_iList ?_
  | with_reducible refine w_iTup ?_
  | with_reducible refine w_for ?_
  | with_reducible refine w_chain ?_
  | with_reducible refine w_sl ?_
  | with_reducible refine w_part ?_
  | with_reducible refine w_nopart ?_
  | with_reducible refine w_exint ?_
  | with_reducible refine w_dput ?_
  | with_reducible refine w_gSub ?_
  | with_reducible refine w_sFld ?_
  | with_reducible refine w_dget2 ?_
  | with_reducible refine w_dget ?_
  | with_reducible refine w_bm ?_
  | with_reducible refine w_isiII ?_
  | with_reducible refine w_isiIB ?_
  | with_reducible refine w_isiBB ?_
  | with_reducible refine w_max ?_
  | ((with_reducible refine w_eq ?we ?_); (case we => rfl))
  | ((with_reducible refine w_ne ?we ?_); (case we => rfl)))
local macro_rules | `(tactic| walk_at "w1") => `(tactic| first | walk_at "e1" | with_reducible refine w_seq ?_)
local macro_rules | `(tactic| walk_at "e") => `(tactic| repeat walk_at "e1")
local macro_rules | `(tactic| walk_at "w") => `(tactic| repeat walk_at "w1")

theorem ok_dropped (T : Txt K mg a) : FnOk P w K mg base (L2.CX P w) 3 a.f_dropped a.d_dropped ["shelf", "mark"] sp_dropped := by
  refine T.F_dropped.okX sc_dropped (fun vs H Q E h => ?_) (fun cdv A outer s H vs Q E hr h => ?_)
  · obtain ⟨M, x, y, s, m, rfl, _⟩ := h; rfl
  · obtain ⟨M, x, y, s, m, rfl, fr, hx, hy, hlm, hl9, hin, hl, q⟩ := h
    refine ⟨_, (pss_one (ps_ret (pe_tup (pa_cons (pe_call (ok_joined T) (hr.mono (by decide)) rfl T.g_joined T.k_joined T.b_joined .nil passL (pa_cons (pe_ix (r := rIxT K) ix_tup (pv 0) pe_int (fun _ _ => rfl)) (pa_cons (pv 1) pa_nil))) (pa_cons (pe_call (ok_unseen T) (hr.mono (by decide)) rfl T.g_unseen T.k_unseen T.b_unseen .nil passL (pa_cons (pe_ix (r := rIxT K) ix_tup (pv 0) pe_int (fun _ _ => rfl)) (pa_cons (pv 1) pa_nil))) pa_nil))))), ?_⟩
    walk_at "w"
    refine w_shelf0 hx fun v0 r0 => ?_
    walk_at "w"
    refine ⟨M, _, _, _, _, rfl, r0, hy, by omega, fun _ v1 H1 s1 r1 => ?_, fun e => absurd hlm e⟩
    walk_at "w"
    refine w_shelf1 (hx.same s1) fun v2 r2 => ?_
    walk_at "w"
    refine ⟨M, _, _, _, _, rfl, fr.same s1, r2, hy.same s1, hin, hl, fun p3 H3 n3 s3 r3 => ?_⟩
    walk_at "w"
    refine w_newT (Rp.shelf (s := droppedS s m) ((r1 (Old H)).same s3) (r3.rows_at fun z => z (s1.free n3))) (by show 2 ≤ sizeLine; decide) fun v4 H4 s4 r4 => ?_
    exact q v4 H4 (Same.trans s1 (Same.trans s3 s4)) r4
end
end Sb

namespace Sb
open PySem L2 PyProof.Rows
def sp_met : Sp := fun vs H Q _ => ∃ (M : Addr → Prop) (n : Nat) (x y : V) (s t : Shelf), vs = [x, y] ∧ Fr M H ∧ Rp M H x (shelfD s) ∧ Rp M H y (shelfD t) ∧ s.1.length = n ∧ t.1.length = n ∧ n ≤ 9 ∧
  Rin n s.2 ∧ Rin n t.2 ∧ s.2.length ≤ 3000 ∧ t.2.length ≤ 3000 ∧ ∀ v' H', Same H H' → Rp (Old H) H' v' (shelfD (metS s t)) → Q v' H'
section
variable {P : Program} {w : World} {K : Frag} {mg : Str → Option Value} {base : Heap} {a : Ad}
local macro_rules | `(tactic| walk_at "e1") => `(tactic| first
  | ((with_reducible refine' w_var ?wh ?_); (case wh => rfl))
  | with_reducible refine w_c ?_
  | with_reducible refine w_projn ?_
  | with_reducible refine w_projr ?_
  | with_reducible refine w_op ?_
  | with_reducible refine w_cons ?_
  | with_reducible refine w_nil ?_
  | with_reducible refine w_I0 ?_
  | ((with_reducible refine w_I ?wc ?_); (case wc => first | (show (0 : Int) < _; decide) | exact ⟨by decide, by decide⟩ | exact ⟨by decide, by decide, by decide⟩ | exact Or.inr ⟨by decide, by decide⟩ | exact Or.inl ⟨by decide, by decide⟩ | (show (0 : Int) < _; omega) | exact ⟨by omega, by omega⟩))
  | with_reducible refine w_bl ?_
  | with_reducible refine w_test ?_
  | with_reducible refine w_tB ?_
  | with_reducible refine w_set ?_
  | with_reducible refine w_ifS ?_
  | with_reducible refine w_if ?_
  | with_reducible refine w_or ?_
  | with_reducible refine w_and ?_
  | with_reducible refine w_not ?_
  | with_reducible refine w_orV ?_
  | with_reducible refine w_andV ?_
  | with_reducible refine w_notV ?_
  | with_reducible refine w_ret ?_
  | with_reducible refine w_retN ?_
  | with_reducible refine w_drop ?_
  | with_reducible refine w_next ?_
  | with_reducible refine w_un ?_
  | with_reducible refine w_CB ?_
  | with_reducible refine w_call ?_
  | with_reducible refine w_callS ?_
  | with_reducible refine w_gName ?_
  | with_reducible refine w_asg ?_
  | with_reducible refine w_tTup ?_
  | with_reducible refine w_tLst ?_
  | with_reducible refine w_lc ?_
  | with_reducible refine w_iRng1 ?_
  | with_reducible refine w_iRng2 ?_
  | with_reducible refine w_iList ?_
  | with_reducible refine w_iTup ?_
  | with_reducible refine w_for ?_
  | with_reducible refine w_chain ?_
  | with_reducible refine w_sl ?_
  | with_reducible refine w_part ?_
  | with_reducible refine w_nopart ?_
  | with_reducible refine w_exint ?_
  | with_reducible refine w_dput ?_
  | with_reducible refine w_gSub ?_
  | with_reducible refine w_sFld ?_
  | with_reducible refine w_dget2 ?_
  | with_reducible refine w_dget ?_
  | with_reducible refine w_bm ?_
  | with_reducible refine w_isiII ?_
  | with_reducible refine w_isiIB ?_
  | with_reducible refine w_isiBB ?_
  | with_reducible refine w_max ?_
  | ((with_reducible refine w_eq ?we ?_); (case we => rfl))
  | ((with_reducible refine w_ne ?we ?_); (case we => rfl)))
local macro_rules | `(tactic| walk_at "w1") => `(tactic| first | walk_at "e1" | with_reducible refine w_seq ?_)
local macro_rules | `(tactic| walk_at "e") => `(tactic| repeat walk_at "e1")
local macro_rules | `(tactic| walk_at "w") => `(tactic| repeat walk_at "w1")

theorem ok_met (T : Txt K mg a) : FnOk P w K mg base (L2.CX P w) 3 a.f_met a.d_met ["one", "other"] sp_met := by
  refine T.F_met.okX sc_met (fun vs H Q E h => ?_) (fun cdv A outer s0 H vs Q E hr h => ?_)
  · obtain ⟨M, n, x, y, s, t, rfl, _⟩ := h; rfl
  · obtain ⟨M, n, x, y, s, t, rfl, fr, hx, hy, hs, ht, hn9, hsi, hti, hsl, htl, q⟩ := h
    have hu65 : (A.deeper (PyProof.Rows.envOfC "met" (defScope s_met) s0.heap.objs.size a.f_met cdv)).units + 65 < cLine := by
      have := hr.un; omega
    have fs := List.length_filter_le (fun r => decide (r ∈ t.2)) s.2
    have fu : (unseen s.2 t.1).length ≤ s.2.length := List.length_filter_le _ _
    have fv : (unseen t.2 s.1).length ≤ t.2.length := List.length_filter_le _ _
    refine ⟨_, (pss_cons (ps_setLc (i := 2) (own := [("row", 3)]) rfl sc_met.nd rfl rfl (sw_true rfl rfl rfl (by decide +kernel)) (pi_list (pe_ix (r := rIxT K) ix_tup (pv 0) pe_int (fun _ _ => rfl))) (blkOk_by (own := [("row", 3)]) (N := N_met) (sc := defScope s_met) (by decide +kernel)) (fun _ _ _ _ _ => (pg_name (i := 3) sc_met.nd rfl (by first | exact Or.inl rfl | exact Or.inr rfl))) (fun _ _ _ _ _ => (pts_one (pt_cmpR (r := rInD K) (op_inD hu65) (pv 3) (pe_ix (r := rIxT K) ix_tup (pv 1) pe_int (fun _ _ => rfl)) (by with_unfolding_all rfl)))) (fun _ _ _ _ _ => (pv 3)))
  (pss_cons (ps_set (i := 2) sc_met.nd rfl (Or.inl rfl) (pe_op op_cat (pe_op op_cat (pv 2) (pe_call (ok_unseen T) (hr.mono (by decide)) rfl T.g_unseen T.k_unseen T.b_unseen .nil passL (pa_cons (pe_ix (r := rIxT K) ix_tup (pv 0) pe_int (fun _ _ => rfl)) (pa_cons (pe_ix (r := rIxT K) ix_tup (pv 1) pe_int (fun _ _ => rfl)) pa_nil)))) (pe_call (ok_unseen T) (hr.mono (by decide)) rfl T.g_unseen T.k_unseen T.b_unseen .nil passL (pa_cons (pe_ix (r := rIxT K) ix_tup (pv 1) pe_int (fun _ _ => rfl)) (pa_cons (pe_ix (r := rIxT K) ix_tup (pv 0) pe_int (fun _ _ => rfl)) pa_nil)))))
  (pss_one (ps_ret (pe_tup (pa_cons (pe_call (ok_joined T) (hr.mono (by decide)) rfl T.g_joined T.k_joined T.b_joined .nil passL (pa_cons (pe_ix (r := rIxT K) ix_tup (pv 0) pe_int (fun _ _ => rfl)) (pa_cons (pe_ix (r := rIxT K) ix_tup (pv 1) pe_int (fun _ _ => rfl)) pa_nil))) (pa_cons (pe_callB (r := rSortedT K) cr_sortedT rfl T.n_sorted (by decide +kernel) (pa_cons (pv 2) pa_nil)) pa_nil))))))), ?_⟩
    walk_at "w"
    refine w_shelf1 hx fun v1 r1 => ?_
    obtain ⟨p1, xs, rfl, _, hxs, ra⟩ := Rp.lst_inv (ds := s.2.map rowD) r1
    have hlen : xs.length = s.2.length := by rw [ra.1, List.length_map]
    refine ⟨p1, rfl, ⟨xs, SqL.of hxs⟩, ?_⟩
    refine lcL s.2 (fun r => if decide (r ∈ t.2) = true then some (rowD r) else none) M fr (SqL.of hxs) hlen (sz_small (by omega)) (fun i x' r H2 M' Yes No hx' hr' s' ex fr' yes no => ?_) (fun D H3 hD s3 r3 => ?_)
    · have rx : Rp M' H2 x' (rowD r) := (ra.2 i x' (rowD r) hx' (by rw [List.getElem?_map, hr']; rfl)).ext ex
      refine w_it1 rfl ?_
      walk_at "w"
      refine w_shelf1 (hy.ext ex) fun v2 r2 => ?_
      refine w_inR rx r2 ?_
      walk_at "w"
      by_cases hm : r ∈ t.2
      · refine iteD hm ?_
        walk_at "w"
        exact yes _ H2 _ (by rw [decide_eq_true hm]; rfl) (Same.refl _) rx
      · refine iteDn hm ?_
        exact no H2 (by rw [decide_eq_false hm]; rfl) (Same.refl _)
    rw [fm_filter] at r3
    have fr3 := fr.same s3
    have hx3 := hx.same s3
    have hy3 := hy.same s3
    walk_at "w"
    refine w_shelf1 hx3 fun v4 r4 => ?_
    walk_at "w"
    refine w_shelf0 hy3 fun v5 r5 => ?_
    walk_at "w"
    refine ⟨M, _, _, _, _, rfl, fr3, r4, r5, by rw [ht]; exact hsi, by omega, fun p6 H6 n6 s6 r6 => ?_⟩
    -- rows + unseen(..)
    obtain ⟨_, ys, e, _, hys, ry⟩ := Rp.lst_inv (ds := (s.2.filter fun r => decide (r ∈ t.2)).map rowD) (r3.same s6)
    cases e
    obtain ⟨_, zs, e, _, hzs, rz⟩ := Rp.lst_inv (ds := (unseen s.2 t.1).map rowD) r6
    cases e
    have ly : ys.length = (s.2.filter fun r => decide (r ∈ t.2)).length := by rw [ry.1, List.length_map]
    have lz : zs.length = (unseen s.2 t.1).length := by rw [rz.1, List.length_map]
    refine ⟨_, _, ys, zs, rfl, rfl, hys, hzs, sz_small (by omega), fun p7 n7 => ?_⟩
    have s7 : Same H6 (upd H6 p7 (.lst (ys ++ zs))) := Same.new n7
    have r7 : RpA M (upd H6 p7 (.lst (ys ++ zs))) (ys ++ zs) ((s.2.filter (fun r => decide (r ∈ t.2)) ++ unseen s.2 t.1).map rowD) := by
      rw [List.map_append]
      exact (ry.same s7).append (rz.same s7)
    have h7 : upd H6 p7 (.lst (ys ++ zs)) p7 = some (.lst (ys ++ zs)) := upd_same
    generalize upd H6 p7 (.lst (ys ++ zs)) = H7 at s7 r7 h7
    have s37 := Same.trans s6 s7
    walk_at "w"
    refine w_shelf1 (hy3.same s37) fun v8 r8 => ?_
    walk_at "w"
    refine w_shelf0 (hx3.same s37) fun v9 r9 => ?_
    walk_at "w"
    refine ⟨M, _, _, _, _, rfl, fr3.same s37, r8, r9, by rw [hs]; exact hti, by omega, fun p10 H10 n10 s10 r10 => ?_⟩
    obtain ⟨_, ws, e, _, hws, rw'⟩ := Rp.lst_inv (ds := (unseen t.2 s.1).map rowD) r10
    cases e
    have lw : ws.length = (unseen t.2 s.1).length := by rw [rw'.1, List.length_map]
    refine ⟨_, _, ys ++ zs, ws, rfl, rfl, s10 _ _ h7, hws, sz_small (by rw [List.length_append]; omega), fun p11 n11 => ?_⟩
    have s11 : Same H10 (upd H10 p11 (.lst (ys ++ zs ++ ws))) := Same.new n11
    have s3t := Same.trans s37 (Same.trans s10 s11)
    have r11 : Rp M (upd H10 p11 (.lst (ys ++ zs ++ ws))) (.ref p11) (rowsD (metRows s t)) := by
      refine .lstA ((fr3.same (Same.trans s37 s10)) p11 n11) upd_same ?_
      unfold metRows
      rw [List.map_append]
      exact ((r7.same s10).same s11).append (rw'.same s11)
    generalize upd H10 p11 (.lst (ys ++ zs ++ ws)) = H11 at s3t r11
    walk_at "w"
    refine w_shelf0 (hx3.same s3t) fun v12 r12 => ?_
    walk_at "w"
    refine w_shelf0 (hy3.same s3t) fun v13 r13 => ?_
    walk_at "w"
    refine ⟨M, _, _, _, _, rfl, r12, r13, by omega, fun _ v14 H14 s14 r14 => ?_, fun z => absurd (by omega) z⟩
    walk_at "w"
    refine w_sortR ((fr3.same s3t).same s14) (r11.same s14) fun p15 H15 n15 s15 r15 => ?_
    have sall := Same.trans s3 (Same.trans s3t s14)
    walk_at "w"
    have hpair : RpA (Old H) H15 [v14, .ref p15] [markD (metS s t).1, rowsD (metS s t).2] :=
      Rp.shelf (s := metS s t) (Rp.mark ((r14 M).same s15)) (r15.rows_at fun z => z (sall.free n15))
    refine w_newT hpair (by show 2 ≤ sizeLine; decide) fun v16 H16 s16 r16 => ?_
    exact q v16 H16 (Same.trans sall (Same.trans s15 s16)) r16
end
end Sb

namespace Sb
open PySem L2 PyProof.Rows
def sp_S_init (a : Ad) : Sp := fun vs H Q E => ∃ (p dx : Addr) (n : Int), vs = [.ref p, .int n] ∧ H p = some (.ins a.C dx []) ∧
  (1 ≤ n ∧ n ≤ 9 → ∀ ds H', But p H H' → StoreAt (Old H) H' a.C (.ref p) ds n.toNat (List.replicate n.toNat []) → (∀ d ∈ ds, H d = none) → Q .non H') ∧ (¬ (1 ≤ n ∧ n ≤ 9) → E (.ref a.C_BadCount) none H)
def sp_S_need_keeper (a : Ad) : Sp := fun vs H Q E => ∃ (M : Addr → Prop) (ds : List Addr) (n : Nat) (st : Kept) (v : V) (k : Int), vs = [v, .int k] ∧ StoreAt M H a.C v ds n st ∧ n ≤ 9 ∧
  (0 ≤ k ∧ k < n → Q .non H) ∧ (¬ (0 ≤ k ∧ k < n) → E (.ref a.C_NoKeeper) none H)
def sp_S_shelf (a : Ad) : Sp := fun vs H Q E => ∃ (M : Addr → Prop) (ds : List Addr) (n : Nat) (st : Kept) (v : V) (k : Int) (key : Str), vs = [v, .int k, .str key] ∧ Fr M H ∧ StoreAt M H a.C v ds n st ∧ n ≤ 9 ∧
  (∀ (kk : Nat) (kv : KV1), k = kk → kk < n → st[kk]? = some kv → ∀ v' H', Same H H' → Rp M H' v' (shelfD (shelfOf n kv key)) → Q v' H') ∧ (¬ (0 ≤ k ∧ k < n) → E (.ref a.C_NoKeeper) none H)
def sp_S_look (a : Ad) : Sp := fun vs H Q E => ∃ (M : Addr → Prop) (ds : List Addr) (n : Nat) (st : Kept) (v : V) (k : Int) (key : Str), vs = [v, .int k, .str key] ∧ Fr M H ∧ StoreAt M H a.C v ds n st ∧ n ≤ 9 ∧
  (∀ (kk : Nat) (kv : KV1), k = kk → kk < n → st[kk]? = some kv → ShOk n (shelfOf n kv key) ∧ ∀ v' H', Same H H' → Rp (Old H) H' v' (lookD (shelfOf n kv key)) → Q v' H') ∧ (¬ (0 ≤ k ∧ k < n) → E (.ref a.C_NoKeeper) none H)
section
variable {P : Program} {w : World} {K : Frag} {mg : Str → Option Value} {base : Heap} {a : Ad}
local macro_rules | `(tactic| walk_at "e1") => `(tactic| first
  | ((with_reducible refine' w_var ?wh ?_); (case wh => rfl))
  | with_reducible refine w_c ?_
  | with_reducible refine w_projn ?_
  | with_reducible refine w_projr ?_
  | with_reducible refine w_op ?_
  | with_reducible refine w_cons ?_
  | with_reducible refine w_nil ?_
  | with_reducible refine w_I0 ?_
  | ((with_reducible refine w_I ?wc ?_); (case wc => first | (show (0 : Int) < _; decide) | exact ⟨by decide, by decide⟩ | exact ⟨by decide, by decide, by decide⟩ | exact Or.inr ⟨by decide, by decide⟩ | exact Or.inl ⟨by decide, by decide⟩ | (show (0 : Int) < _; omega) | exact ⟨by omega, by omega⟩))
  | with_reducible refine w_bl ?_
  | with_reducible refine w_test ?_
  | with_reducible refine w_tB ?_
  | with_reducible refine w_set ?_
  | with_reducible refine w_ifS ?_
  | with_reducible refine w_if ?_
  | with_reducible refine w_or ?_
  | with_reducible refine w_and ?_
  | with_reducible refine w_not ?_
  | with_reducible refine w_orV ?_
  | with_reducible refine w_andV ?_
  | with_reducible refine w_notV ?_
  | with_reducible refine w_ret ?_
  | with_reducible refine w_retN ?_
  | with_reducible refine w_drop ?_
  | with_reducible refine w_next ?_
  | with_reducible refine w_un ?_
  | with_reducible refine w_CB ?_
  | with_reducible refine w_call ?_
  | with_reducible refine w_callS ?_
  | with_reducible refine w_gName ?_
  | with_reducible refine w_asg ?_
  | with_reducible refine w_tTup ?_
  | with_reducible refine w_tLst ?_
  | with_reducible refine w_lc ?_
  | with_reducible refine w_iRng1 ?_
  | with_reducible refine w_iRng2 ?_
  | with_reducible refine w_iList ?_
  | with_reducible refine w_iTup ?_
  | with_reducible refine w_for ?_
  | with_reducible refine w_chain ?_
  | with_reducible refine w_sl ?_
  | with_reducible refine w_part ?_
  | with_reducible refine w_nopart ?_
  | with_reducible refine w_exint ?_
  | with_reducible refine w_dput ?_
  | with_reducible refine w_gSub ?_
  | with_reducible refine w_tFld ?_
  | with_reducible refine w_tMeth ?_
  | with_reducible refine w_sFld ?_
  | with_reducible refine w_dget2 ?_
  | with_reducible refine w_dget ?_
  | with_reducible refine w_bm ?_
  | with_reducible refine w_isiII ?_
  | with_reducible refine w_isiIB ?_
  | with_reducible refine w_isiBB ?_
  | with_reducible refine w_max ?_
  | ((with_reducible refine w_eq ?we ?_); (case we => rfl))
  | ((with_reducible refine w_ne ?we ?_); (case we => rfl)))
local macro_rules | `(tactic| walk_at "w1") => `(tactic| first | walk_at "e1" | with_reducible refine w_seq ?_)
local macro_rules | `(tactic| walk_at "e") => `(tactic| repeat walk_at "e1")
local macro_rules | `(tactic| walk_at "w") => `(tactic| repeat walk_at "w1")

theorem ok_S_need_keeper (T : Txt K mg a) : FnOk P w K mg base (L2.CX P w) 1 a.f_S_need_keeper a.d_S_need_keeper ["self", "keeper"] (sp_S_need_keeper a) := by
  refine T.F_S_need_keeper.okX sc_S_need_keeper (fun vs H Q E h => ?_) (fun cdv A outer s H vs Q E hr h => ?_)
  · obtain ⟨M, ds, n, st, v, k, rfl, _⟩ := h; rfl
  · obtain ⟨M, ds, n, st, v, k, rfl, S, hn, k1, k2⟩ := h
    refine ⟨_, (pss_one (ps_if (PW.pt (pw_or (pt_cmpR op_lt (pv 1) pe_int (nomark _)) (pw_or1 (pt_cmpR op_ge (pv 1) (pe_callB (r := rLen K) cl_len rfl T.n_len (by decide +kernel) (pa_cons (pe_fldK K rfl (pv 0) rfl) pa_nil)) (nomark _))))) (pss_one (ps_raise rfl (takes_of rfl rfl rfl rfl) (pmk_own PySem.F.excBase_ValueError T.x_NoKeeper T.g_NoKeeper T.k_NoKeeper (raises_own T.b_NoKeeper T.t_NoKeeper) rfl))) pss_nil)), ?_⟩
    walk_at "w"
    by_cases h0 : k < 0
    · refine iteD h0 ?_
      refine iteT ?_
      exact k2 (by omega)
    · refine iteDn h0 ?_
      walk_at "w"
      refine w_kept S T.cl T.nA_kept fun l ml hl => ?_
      walk_at "w"
      refine w_lenS (SqL.of hl) ?_
      walk_at "w"
      rw [List.length_map, S.dl]
      by_cases h1 : (n : Int) ≤ k
      · refine iteD h1 ?_
        exact k2 (by omega)
      · refine iteDn h1 ?_
        walk_at "w"
        exact k1 (by omega)
theorem ok_S_init (T : Txt K mg a) : FnOk P w K mg base (L2.CX P w) 2 a.f_S_init a.d_S_init ["self", "many"] (sp_S_init a) := by
  refine T.F_S_init.okX sc_S_init (fun vs H Q E h => ?_) (fun cdv A outer s H vs Q E hr h => ?_)
  · obtain ⟨p, dx, n, rfl, _⟩ := h; rfl
  · obtain ⟨p, dx, n, rfl, hp, k1, k2⟩ := h
    refine ⟨_, (pss_cons (ps_fld (pv 0) (pe_call (ok_blank T) (hr.mono (by decide)) rfl T.g_blank T.k_blank T.b_blank .nil (passes_call (takes_of rfl rfl rfl rfl) (fun _ _ _ _ h => h)) (pa_cons (pv 1) pa_nil)) rfl)
  (pss_one (ps_fld (pv 0) (pe_lc (own := [("keeper", 2)]) rfl sc_S_init.nd (pi_range1 rfl T.n_range (pa_cons (pv 1) pa_nil)) (blkOk_by (own := [("keeper", 2)]) (N := N_S_init) (sc := defScope s_S_init) (by decide +kernel)) (fun _ _ _ _ _ => (pg_name (i := 2) sc_S_init.nd rfl (by first | exact Or.inl rfl | exact Or.inr rfl))) (fun _ _ _ _ _ => pts_nil) (fun _ _ _ _ _ => pe_dnewK)) rfl))), ?_⟩
    walk_at "w"
    refine ⟨n, rfl, fun hn v1 H1 s1 r1 => ?_, fun hn => k2 hn⟩
    walk_at "w"
    refine ⟨p, a.C, dx, [], rfl, s1 _ _ hp, T.cl, T.nA_first, by show 0 < 1000; decide, ?_⟩
    have b1 : But p H (upd H1 p (.ins a.C dx (putF "first" v1 []))) := fun b o e h => by rw [upd_ne e]; exact s1 b o h
    have h1 : upd H1 p (.ins a.C dx (putF "first" v1 [])) p = some (.ins a.C dx (putF "first" v1 [])) := upd_same
    have bp : But p H1 (upd H1 p (.ins a.C dx (putF "first" v1 []))) := But.upd _
    have r1 := (r1 (Old H)).ext (bp.ext fun xs => ⟨fun z => (by rw [s1 _ _ hp] at z; cases z), fun _ z => (by rw [s1 _ _ hp] at z; cases z)⟩)
    generalize upd H1 p (.ins a.C dx (putF "first" v1 [])) = H2 at b1 h1 r1
    clear bp
    walk_at "w"
    refine ⟨n, rfl, by omega, by omega, fun D hD => ?_⟩
    have occ : ∀ b, H b ≠ none → H2 b ≠ none := fun b hb z => by
      by_cases e : b = p
      · rw [e, h1] at z; cases z
      · cases q : H b with
        | none => exact hb q
        | some o => rw [b1 b o e q] at z; cases z
    refine lc_range (fun i H' => But p H H' ∧ Same H2 H' ∧ ∃ dsl : List Addr, H' D = some (.lst (dsl.map V.ref)) ∧ dsl.length = i ∧ dsl.Nodup ∧ ∀ d ∈ dsl, H' d = some (.dK []) ∧ H2 d = none ∧ d ≠ D) ⟨fun b o e h => ?_, Same.new hD, [], upd_same, rfl, List.nodup_nil, fun _ z => nomatch z⟩ ?_ ?_
    · rw [upd_ne (ne_of_none (b1 b o e h) hD)]; exact b1 b o e h
    · rintro i H' hi ⟨bt, s2, dsl, hd, hl, nd, each⟩
      refine w_it0 rfl ?_
      intro d nd'
      have hne : D ≠ d := ne_of_none hd nd'
      refine ⟨dsl.map V.ref, by rw [upd_ne hne]; exact hd, by rw [List.length_map, hl]; exact sz_smallL (by omega), fun b o e h => ?_, ?_, dsl ++ [d], by rw [upd_same, List.map_append]; rfl, by rw [List.length_append, hl]; rfl, nd_snoc nd fun z => ?_, fun d' hd' => ?_⟩
      · have h' := bt b o e h
        have hb : b ≠ D := fun z => by
          rw [z] at h
          exact occ D (by rw [h]; simp) hD
        rw [upd_ne hb, upd_ne (ne_of_none h' nd')]; exact h'
      · intro b o h
        have h' := s2 b o h
        rw [upd_ne (ne_of_none h hD), upd_ne (ne_of_none h' nd')]; exact h'
      · rw [(each d z).1] at nd'; cases nd'
      · rcases List.mem_append.mp hd' with hd' | hd'
        · obtain ⟨e1, e2, e3⟩ := each d' hd'
          exact ⟨by rw [upd_ne e3, upd_ne (ne_of_none e1 nd')]; exact e1, e2, e3⟩
        · rw [List.mem_singleton] at hd'
          subst hd'
          exact ⟨by rw [upd_ne hne.symm]; exact upd_same, s2.free nd', hne.symm⟩
    · rintro H' ⟨bt, s2, dsl, hd, hl, nd, each⟩
      walk_at "w"
      have hpH := s2 _ _ h1
      refine ⟨p, a.C, dx, _, rfl, hpH, T.cl, T.nA_kept, by show 1 < 1000; decide, ?_⟩
      walk_at "w"
      have hDp : D ≠ p := fun z => by rw [z, h1] at hD; cases hD
      have bq : But p H (upd H' p (.ins a.C dx (sflds v1 D))) := fun b o e h => by rw [upd_ne e]; exact bt b o e h
      have bu : But p H' (upd H' p (.ins a.C dx (sflds v1 D))) := But.upd _
      refine k1 (by
        by_cases z : 1 ≤ n ∧ n ≤ 9
        · exact z
        · exact absurd ‹1 ≤ n ∧ n ≤ 9› z) dsl _ bq ⟨⟨p, dx, D, v1, rfl, upd_same, ?_, fun z => ?_, by rw [upd_ne hDp]; exact hd⟩, hl, List.length_replicate, nd, fun k d kv hd' hk => ?_⟩ fun d hd' => ?_
      · exact ((r1.same s2).ext (bu.ext fun xs => ⟨fun z => (by rw [hpH] at z; cases z), fun _ z => (by rw [hpH] at z; cases z)⟩))
      · exact occ D z hD
      · obtain ⟨e1, e2, e3⟩ := each d (List.mem_of_getElem? hd')
        have hdp : d ≠ p := fun z => by rw [z, h1] at e2; cases e2
        have : kv = [] := by
          rw [List.getElem?_replicate] at hk
          split at hk
          · exact (Option.some.inj hk).symm
          · cases hk
        subst this
        exact ⟨[], by rw [upd_ne hdp]; exact e1, .nil⟩
      · obtain ⟨e1, e2, e3⟩ := each d hd'
        cases q : H d with
        | none => rfl
        | some o => exact absurd e2 (occ d (by rw [q]; simp))
theorem ok_S_shelf (T : Txt K mg a) : FnOk P w K mg base (L2.CX P w) 2 a.f_S_shelf a.d_S_shelf ["self", "keeper", "key"] (sp_S_shelf a) := by
  refine T.F_S_shelf.okX sc_S_shelf (fun vs H Q E h => ?_) (fun cdv A outer s H vs Q E hr h => ?_)
  · obtain ⟨M, ds, n, st, v, k, key, rfl, _⟩ := h; rfl
  · obtain ⟨M, ds, n, st, v, k, key, rfl, fr, S, hn, k1, k2⟩ := h
    have hu := hu_of hr
    refine ⟨_, (pss_cons (ps_expr (pe_meth (pv 0) T.cl T.m_S_need_keeper (ok_S_need_keeper T) (hr.mono (by decide)) T.b_S_need_keeper .nil (passes_call (takes_of rfl rfl rfl rfl) (fun _ _ _ _ h => h)) (pa_cons (pv 1) pa_nil)))
  (pss_one (ps_ret (pe_dget2 hu (pe_ix (r := rIxL K) ix_list (pe_fldK K rfl (pv 0) rfl) (pv 1) (fun _ _ => rfl)) (pv 2) (pe_tup (pa_cons (pe_fldK K rfl (pv 0) rfl) (pa_cons (pe_lst pa_nil) pa_nil))) ⟨rfl, rfl, rfl, rfl⟩)))), ?_⟩
    walk_at "w"
    refine w_mth S (by decide +kernel) (by decide +kernel) ?_
    walk_at "w"
    refine ⟨M, ds, n, st, v, k, rfl, S, hn, fun hk => ?_, fun hk => k2 hk⟩
    obtain ⟨kk, rfl⟩ : ∃ kk : Nat, k = kk := ⟨k.toNat, by omega⟩
    walk_at "w"
    refine w_kept S T.cl T.nA_kept fun l ml hl => ?_
    walk_at "w"
    refine w_dictAt S hl (by omega) fun d kv kvs hd hkv hdk rel => ?_
    refine ⟨d, rfl, .inl ⟨kvs, .inl hdk⟩, ?_⟩
    walk_at "w"
    refine w_first S T.cl T.nA_first fun vf rf => ?_
    walk_at "w"
    refine ⟨by show 0 ≤ sizeLine; decide, fun p np => ?_⟩
    have s1 : Same H (upd H p (.lst [])) := Same.new np
    have rp : Rp M (upd H p (.lst [])) (.ref p) (rowsD []) := .lstA (fr p np) upd_same RpA.nil
    have fr1 := fr.same s1
    generalize upd H p (.lst []) = H1 at s1 rp fr1
    walk_at "w"
    refine w_newT (Rp.shelf (s := (List.replicate n 0, [])) (rf.same s1) rp) (by show 2 ≤ sizeLine; decide) fun v2 H2 s2 r2 => ?_
    have s12 := Same.trans s1 s2
    refine ⟨_, DGet.k (k := Sum.inr key) (s12 _ _ hdk), ?_⟩
    refine k1 kk kv rfl (by omega) hkv _ H2 s12 ?_
    unfold shelfOf
    rcases (rel.ext (.same s12)).get (s := key) with ⟨h1, h2⟩ | ⟨x, sh, h1, h2, h3⟩
    · rw [h1, h2]; exact r2
    · rw [h1, h2]; exact h3
theorem ok_S_look (T : Txt K mg a) : FnOk P w K mg base (L2.CX P w) 3 a.f_S_look a.d_S_look ["self", "keeper", "key"] (sp_S_look a) := by
  refine T.F_S_look.okX sc_S_look (fun vs H Q E h => ?_) (fun cdv A outer s H vs Q E hr h => ?_)
  · obtain ⟨M, ds, n, st, v, k, key, rfl, _⟩ := h; rfl
  · obtain ⟨M, ds, n, st, v, k, key, rfl, fr, S, hn, k1, k2⟩ := h
    refine ⟨_, (pss_cons (ps_set (i := 3) sc_S_look.nd rfl (Or.inl rfl) (pe_meth (pv 0) T.cl T.m_S_shelf (ok_S_shelf T) (hr.mono (by decide)) T.b_S_shelf .nil (passes_call (takes_of rfl rfl rfl rfl) (fun _ _ _ _ h => h)) (pa_cons (pv 1) (pa_cons (pv 2) pa_nil))))
  (pss_one (ps_ret (pe_tup (pa_cons (pe_lc (own := [("row", 4)]) rfl sc_S_look.nd (pi_list (pe_ix (r := rIxT K) ix_tup (pv 3) pe_int (fun _ _ => rfl))) (blkOk_by (own := [("row", 4)]) (N := N_S_look) (sc := defScope s_S_look) (by decide +kernel)) (fun _ _ _ _ _ => (pg_name (i := 4) sc_S_look.nd rfl (by first | exact Or.inl rfl | exact Or.inr rfl))) (fun _ _ _ _ _ => pts_nil) (fun _ _ _ _ _ => (pe_ix (r := rIxT K) ix_tup (pv 4) pe_int (fun _ _ => rfl)))) (pa_cons (pe_ix (r := rIxT K) ix_tup (pv 3) pe_int (fun _ _ => rfl)) pa_nil)))))), ?_⟩
    walk_at "w"
    refine w_mth S (by decide +kernel) (by decide +kernel) ?_
    walk_at "w"
    refine ⟨M, ds, n, st, v, k, key, rfl, fr, S, hn, fun kk kv ek hk hkv v1 H1 s1 r1 => ?_, fun hk => k2 hk⟩
    obtain ⟨sok, k1⟩ := k1 kk kv ek hk hkv
    generalize shelfOf n kv key = sh at r1 sok k1
    have fr1 := fr.same s1
    walk_at "w"
    refine w_shelf1 r1 fun v2 r2 => ?_
    obtain ⟨p2, xs, rfl, _, hxs, ra⟩ := Rp.lst_inv (ds := sh.2.map rowD) r2
    have lx : xs.length = sh.2.length := by rw [ra.1, List.length_map]
    refine ⟨p2, rfl, ⟨xs, SqL.of hxs⟩, ?_⟩
    have few := sok.few
    refine lcL sh.2 (fun r => some (.int r.2.2)) M fr1 (SqL.of hxs) lx (sz_small (by omega)) (fun i x r H2 M' Yes No hx hr s ex fr' yes no => ?_) (fun D H3 hD s3 r3 => ?_)
    · have rx : Rp M' H2 x (rowD r) := (ra.2 i x (rowD r) hx (by rw [List.getElem?_map, hr]; rfl)).ext ex
      refine w_it0 rfl ?_
      walk_at "w"
      refine w_row2 rx ?_
      exact yes _ H2 _ rfl (Same.refl _) (.int _)
    rw [fm_vals] at r3
    walk_at "w"
    refine w_shelf0 (r1.same s3) fun v4 r4 => ?_
    walk_at "w"
    have r3 : Rp (Old H) H3 (.ref D) (valsD sh.2) := r3.ints_at fun z => z (s1.free hD)
    refine w_newT (M := Old H) (RpA.nil.cons (Rp.mark r4) |>.cons r3) (by show 2 ≤ sizeLine; decide) fun v5 H5 s5 r5 => ?_
    exact k1 v5 H5 (Same.trans s1 (Same.trans s3 s5)) r5
end
end Sb

namespace Sb
open PySem L2 PyProof.Rows
theorem isMk_bad {n : Nat} {ds : List PyData} {d : PyData} (h : d ∈ ds) (g : goodI d = false) : isMk n (.tuple ds) = false := by
  show (decide (ds.length = n) && ds.all goodI) = false
  rw [Bool.and_eq_false_iff]
  exact .inr (List.all_eq_false.mpr ⟨d, h, by rw [g]; decide⟩)
theorem isMk_good {n : Nat} {ds : List PyData} (hl : ds.length = n) (h : ∀ (i : Nat) (d : PyData), ds[i]? = some d → goodI d = true) : isMk n (.tuple ds) = true := by
  show (decide (ds.length = n) && ds.all goodI) = true
  rw [decide_eq_true hl, Bool.true_and, List.all_eq_true]
  intro d hd
  obtain ⟨i, hi⟩ := List.mem_iff_getElem?.mp hd
  exact h i d hi
def sp_S_need_mark (a : Ad) : Sp := fun vs H Q E => ∃ (M M' : Addr → Prop) (ds : List Addr) (n : Nat) (st : Kept) (v x : V) (d : PyData), vs = [v, x] ∧ StoreAt M H a.C v ds n st ∧ n ≤ 9 ∧ Rp M' H x d ∧ okMk d = true ∧
  (isMk n d = true → Q .non H) ∧ (isMk n d = false → E (.ref a.C_BadMark) none H)
def sp_S_put (a : Ad) : Sp := fun vs H Q E => ∃ (M M' : Addr → Prop) (ds : List Addr) (n : Nat) (st : Kept) (v x : V) (k : Int) (key : Str) (val : Int) (d : PyData), vs = [v, .int k, .str key, .int val, x] ∧ Fr M H ∧ StoreAt M H a.C v ds n st ∧ n ≤ 9 ∧ Rp M' H x d ∧ okMk d = true ∧
  (∀ (kk : Nat) (kv : KV1) (dk : Addr) (m : List Int), k = kk → kk < n → st[kk]? = some kv → ds[kk]? = some dk → d = markD m → isMk n d = true → ShOk n (shelfOf n kv key) ∧ kv.length ≤ 1000 ∧
    ∀ H', But dk H H' → StoreAt M H' a.C v ds n (st.set kk (aPut kv key (putOn (shelfOf n kv key) kk val m))) → Q .non H') ∧
  (¬ (0 ≤ k ∧ k < n) → E (.ref a.C_NoKeeper) none H) ∧ (0 ≤ k ∧ k < n → isMk n d = false → ∀ H', Same H H' → E (.ref a.C_BadMark) none H')
def sp_S_drop (a : Ad) : Sp := fun vs H Q E => ∃ (M M' : Addr → Prop) (ds : List Addr) (n : Nat) (st : Kept) (v x : V) (k : Int) (key : Str) (d : PyData), vs = [v, .int k, .str key, x] ∧ Fr M H ∧ StoreAt M H a.C v ds n st ∧ n ≤ 9 ∧ Rp M' H x d ∧ okMk d = true ∧
  (∀ (kk : Nat) (kv : KV1) (dk : Addr) (m : List Int), k = kk → kk < n → st[kk]? = some kv → ds[kk]? = some dk → d = markD m → isMk n d = true → ShOk n (shelfOf n kv key) ∧ kv.length ≤ 1000 ∧
    ∀ H', But dk H H' → StoreAt M H' a.C v ds n (st.set kk (aPut kv key (droppedS (shelfOf n kv key) m))) → Q .non H') ∧
  (¬ (0 ≤ k ∧ k < n) → E (.ref a.C_NoKeeper) none H) ∧ (0 ≤ k ∧ k < n → isMk n d = false → ∀ H', Same H H' → E (.ref a.C_BadMark) none H')
def sp_S_letter (a : Ad) : Sp := fun vs H Q E => ∃ (M : Addr → Prop) (ds : List Addr) (n : Nat) (st : Kept) (v : V) (k : Int) (key : Str), vs = [v, .int k, .str key] ∧ Fr M H ∧ StoreAt M H a.C v ds n st ∧ n ≤ 9 ∧
  (∀ (kk : Nat) (kv : KV1), k = kk → kk < n → st[kk]? = some kv → ∀ v' H', Same H H' → (∀ M', Rp M' H' v' (letterD key (shelfOf n kv key))) → Q v' H') ∧ (¬ (0 ≤ k ∧ k < n) → E (.ref a.C_NoKeeper) none H)
def sp_S_take (a : Ad) : Sp := fun vs H Q E => ∃ (M : Addr → Prop) (ds : List Addr) (n : Nat) (st : Kept) (v x : V) (k : Int) (key : Str) (sh : Shelf), vs = [v, .int k, x] ∧ Fr M H ∧ StoreAt M H a.C v ds n st ∧ n ≤ 9 ∧ (∀ M', Rp M' H x (letterD key sh)) ∧ ShOk n sh ∧
  (∀ (kk : Nat) (kv : KV1) (dk : Addr), k = kk → kk < n → st[kk]? = some kv → ds[kk]? = some dk → ShOk n (shelfOf n kv key) ∧ kv.length ≤ 1000 ∧
    ∀ H', But dk H H' → StoreAt M H' a.C v ds n (st.set kk (aPut kv key (metS (shelfOf n kv key) sh))) → Q .non H') ∧
  (¬ (0 ≤ k ∧ k < n) → E (.ref a.C_NoKeeper) none H)
theorem isMk_len {n : Nat} {m : List Int} (h : isMk n (markD m) = true) : m.length = n := by
  have h : (decide ((m.map PyData.int).length = n) && (m.map PyData.int).all goodI) = true := h
  rw [Bool.and_eq_true] at h
  have := of_decide_eq_true h.1
  rwa [List.length_map] at this
section
variable {P : Program} {w : World} {K : Frag} {mg : Str → Option Value} {base : Heap} {a : Ad}
local macro_rules | `(tactic| walk_at "e1") => `(tactic| first
  | ((with_reducible refine' w_var ?wh ?_); (case wh => rfl))
  | with_reducible refine w_c ?_
  | with_reducible refine w_projn ?_
  | with_reducible refine w_projr ?_
  | with_reducible refine w_op ?_
  | with_reducible refine w_cons ?_
  | with_reducible refine w_nil ?_
  | with_reducible refine w_I0 ?_
  | ((with_reducible refine w_I ?wc ?_); (case wc => first | (show (0 : Int) < _; decide) | exact ⟨by decide, by decide⟩ | exact ⟨by decide, by decide, by decide⟩ | exact Or.inr ⟨by decide, by decide⟩ | exact Or.inl ⟨by decide, by decide⟩ | (show (0 : Int) < _; omega) | exact ⟨by omega, by omega⟩))
  | with_reducible refine w_bl ?_
  | with_reducible refine w_test ?_
  | with_reducible refine w_tB ?_
  | with_reducible refine w_set ?_
  | with_reducible refine w_ifS ?_
  | with_reducible refine w_if ?_
  | with_reducible refine w_or ?_
  | with_reducible refine w_and ?_
  | with_reducible refine w_not ?_
  | with_reducible refine w_orV ?_
  | with_reducible refine w_andV ?_
  | with_reducible refine w_notV ?_
  | with_reducible refine w_ret ?_
  | with_reducible refine w_retN ?_
  | with_reducible refine w_drop ?_
  | with_reducible refine w_next ?_
  | with_reducible refine w_un ?_
  | with_reducible refine w_CB ?_
  | with_reducible refine w_call ?_
  | with_reducible refine w_callS ?_
  | with_reducible refine w_gName ?_
  | with_reducible refine w_asg ?_
  | with_reducible refine w_tTup ?_
  | with_reducible refine w_tLst ?_
  | with_reducible refine w_lc ?_
  | with_reducible refine w_iRng1 ?_
  | with_reducible refine w_iRng2 ?_
  | with_reducible refine w_iList ?_
  | with_reducible refine w_iTup ?_
  | with_reducible refine w_for ?_
  | with_reducible refine w_chain ?_
  | with_reducible refine w_sl ?_
  | with_reducible refine w_part ?_
  | with_reducible refine w_nopart ?_
  | with_reducible refine w_exint ?_
  | with_reducible refine w_dput ?_
  | with_reducible refine w_gSub ?_
  | with_reducible refine w_tFld ?_
  | with_reducible refine w_tMeth ?_
  | with_reducible refine w_sFld ?_
  | with_reducible refine w_dget2 ?_
  | with_reducible refine w_dget ?_
  | with_reducible refine w_bm ?_
  | with_reducible refine w_isiII ?_
  | with_reducible refine w_isiIB ?_
  | with_reducible refine w_isiBB ?_
  | with_reducible refine w_max ?_
  | ((with_reducible refine w_eq ?we ?_); (case we => rfl))
  | ((with_reducible refine w_ne ?we ?_); (case we => rfl)))
local macro_rules | `(tactic| walk_at "w1") => `(tactic| first | walk_at "e1" | with_reducible refine w_seq ?_)
local macro_rules | `(tactic| walk_at "e") => `(tactic| repeat walk_at "e1")
local macro_rules | `(tactic| walk_at "w") => `(tactic| repeat walk_at "w1")

theorem ok_S_need_mark (T : Txt K mg a) : FnOk P w K mg base (L2.CX P w) 1 a.f_S_need_mark a.d_S_need_mark ["self", "mark"] (sp_S_need_mark a) := by
  refine T.F_S_need_mark.okX sc_S_need_mark (fun vs H Q E h => ?_) (fun cdv A outer s H vs Q E hr h => ?_)
  · obtain ⟨M, M', ds, n, st, v, x, d, rfl, _⟩ := h; rfl
  · obtain ⟨M, M', ds, n, st, v, x, d, rfl, S, hn, hx, hok, k1, k2⟩ := h
    refine ⟨_, (pss_cons (ps_if (PW.pt (pw_or (pt_not (pt_val (pe_callB (r := rIsi K) call_isi rfl T.n_isinstance (by decide +kernel) (pa_cons (pv 1) (pa_cons (pe_bltn (v := .ty "tuple") (u := .type "tuple") rfl T.n_tuple (by decide +kernel) rfl) pa_nil))))) (pw_or1 (pt_cmpR op_ne (pe_callB (r := rLen K) cl_len rfl T.n_len (by decide +kernel) (pa_cons (pv 1) pa_nil)) (pe_callB (r := rLen K) cl_len rfl T.n_len (by decide +kernel) (pa_cons (pe_fldK K rfl (pv 0) rfl) pa_nil)) (nomark _))))) (pss_one (ps_raise rfl (takes_of rfl rfl rfl rfl) (pmk_own PySem.F.excBase_ValueError T.x_BadMark T.g_BadMark T.k_BadMark (raises_own T.b_BadMark T.t_BadMark) rfl))) pss_nil)
  (pss_one (ps_for (passes_of rfl) rfl (pi_tup (pv 1)) (pg_name (i := 2) sc_S_need_mark.nd rfl (by first | exact Or.inl rfl | exact Or.inr rfl))
  (pss_one (ps_if (PW.pt (pw_or (pt_not (pt_val (pe_callB (r := rIsi K) call_isi rfl T.n_isinstance (by decide +kernel) (pa_cons (pv 2) (pa_cons (pe_bltn (v := .ty "int") (u := .type "int") rfl T.n_int (by decide +kernel) rfl) pa_nil))))) (pw_or (pt_val (pe_callB (r := rIsi K) call_isi rfl T.n_isinstance (by decide +kernel) (pa_cons (pv 2) (pa_cons (pe_bltn (v := .ty "bool") (u := .type "bool") rfl T.n_bool (by decide +kernel) rfl) pa_nil)))) (pw_or1 (pt_cmpR op_lt (pv 2) pe_int (nomark _)))))) (pss_one (ps_raise rfl (takes_of rfl rfl rfl rfl) (pmk_own PySem.F.excBase_ValueError T.x_BadMark T.g_BadMark T.k_BadMark (raises_own T.b_BadMark T.t_BadMark) rfl))) pss_nil))))), ?_⟩
    walk_at "w"
    refine w_isiTany hx ?_
    walk_at "w"
    cases hT : isTupD d with
    | false =>
      refine iteT ?_
      refine iteT ?_
      refine k2 ?_
      cases d with
      | tuple ds => cases hT
      | _ => rfl
    | true =>
      refine iteF ?_
      obtain ⟨es, rfl⟩ : ∃ es, d = .tuple es := by
        cases d with
        | tuple es => exact ⟨es, rfl⟩
        | _ => cases hT
      walk_at "w"
      refine w_lenT hx ?_
      walk_at "w"
      refine w_kept S T.cl T.nA_kept fun l ml hl => ?_
      walk_at "w"
      refine w_lenS (SqL.of hl) ?_
      walk_at "w"
      rw [List.length_map, S.dl]
      by_cases hlen : es.length = n
      · refine iteNS (by rw [hlen]) ?_
        walk_at "w"
        obtain ⟨p, xs, rfl, hp, rx⟩ := hx.tup_inv
        refine ⟨p, rfl, ⟨xs, SqT.of hp⟩, ?_⟩
        refine for_tup (K := K) (xs := xs) (fun i σ H' => (∃ u, σ = [some v, some (.ref p), u]) ∧ H' = H ∧ ∀ j d, j < i → es[j]? = some d → goodI d = true) ⟨⟨_, rfl⟩, rfl, fun j d hj => absurd hj (Nat.not_lt_zero _)⟩
          (fun i σ H' _ ⟨_, e, _⟩ => by rw [e]; exact SqT.of hp) ?_ ?_
        · rintro i y σ H' hy ⟨⟨u, rfl⟩, rfl, good⟩
          obtain ⟨d, hd, rd⟩ := rx.atx hy
          have hf : flatD d = true := List.all_eq_true.mp hok d (List.mem_of_getElem? hd)
          walk_at "w"
          refine w_isiIany rd ?_
          walk_at "w"
          have bad : goodI d = false → E (.ref a.C_BadMark) none H' := fun g => k2 (isMk_bad (List.mem_of_getElem? hd) g)
          cases hI : isIntD d with
          | false =>
            refine iteT ?_
            refine iteT ?_
            refine bad ?_
            cases d with
            | int i => cases hI
            | _ => rfl
          | true =>
            refine iteF ?_
            walk_at "w"
            refine w_isiBany rd ?_
            walk_at "w"
            cases hB : isBoolD d with
            | true =>
              refine iteT ?_
              refine iteT ?_
              refine bad ?_
              cases d with
              | bool b => rfl
              | _ => cases hB
            | false =>
              refine iteF ?_
              obtain ⟨z, rfl⟩ : ∃ z, d = .int z := by
                cases d with
                | int z => exact ⟨z, rfl⟩
                | bool b => cases hB
                | _ => cases hI
              obtain rfl := rd.int_inv
              walk_at "w"
              by_cases hz : z < 0
              · refine iteD hz ?_
                exact bad (decide_eq_false (by omega))
              · refine iteDn hz ?_
                walk_at "w"
                refine ⟨⟨_, rfl⟩, rfl, fun j d' hj hd' => ?_⟩
                by_cases e : j = i
                · subst e
                  rw [hd] at hd'
                  cases hd'
                  exact decide_eq_true (by omega)
                · exact good j d' (by omega) hd'
        · rintro σ H' ⟨⟨u, rfl⟩, rfl, good⟩
          exact k1 (isMk_good hlen fun i d hd => good i d (by rw [rx.1]; exact (List.getElem?_eq_some_iff.mp hd).1) hd)
      · refine iteY (by simp; omega) ?_
        refine k2 ?_
        show (decide (es.length = n) && es.all goodI) = false
        rw [decide_eq_false hlen]; rfl
theorem ok_S_put (T : Txt K mg a) : FnOk P w K mg base (L2.CX P w) 4 a.f_S_put a.d_S_put ["self", "keeper", "key", "value", "mark"] (sp_S_put a) := by
  refine T.F_S_put.okX sc_S_put (fun vs H Q E h => ?_) (fun cdv A outer s H vs Q E hr h => ?_)
  · obtain ⟨M, M', ds, n, st, v, x, k, key, val, d, rfl, _⟩ := h; rfl
  · obtain ⟨M, M', ds, n, st, v, x, k, key, val, d, rfl, fr, S, hn, hx, hok, k1, k2, k3⟩ := h
    have hu := hu_of hr
    refine ⟨_, (pss_cons (ps_set (i := 5) sc_S_put.nd rfl (Or.inl rfl) (pe_meth (pv 0) T.cl T.m_S_shelf (ok_S_shelf T) (hr.mono (by decide)) T.b_S_shelf .nil (passes_call (takes_of rfl rfl rfl rfl) (fun _ _ _ _ h => h)) (pa_cons (pv 1) (pa_cons (pv 2) pa_nil))))
  (pss_cons (ps_expr (pe_meth (pv 0) T.cl T.m_S_need_mark (ok_S_need_mark T) (hr.mono (by decide)) T.b_S_need_mark .nil (passes_call (takes_of rfl rfl rfl rfl) (fun _ _ _ _ h => h)) (pa_cons (pv 4) pa_nil)))
  (pss_one (ps_dput hu (pe_ix (r := rIxL K) ix_list (pe_fldK K rfl (pv 0) rfl) (pv 1) (fun _ _ => rfl)) (pv 2) (pe_call (ok_put_on T) (hr.mono (by decide)) rfl T.g_put_on T.k_put_on T.b_put_on .nil passL (pa_cons (pv 5) (pa_cons (pv 1) (pa_cons (pv 3) (pa_cons (pv 4) pa_nil))))) rfl)))), ?_⟩
    walk_at "w"
    refine w_mth S (by decide +kernel) (by decide +kernel) ?_
    walk_at "w"
    refine ⟨M, ds, n, st, v, k, key, rfl, fr, S, hn, fun kk kv ek hk hkv v1 H1 s1 r1 => ?_, fun hk => k2 hk⟩
    subst ek
    have S1 := S.same s1
    have fr1 := fr.same s1
    walk_at "w"
    refine w_mth S1 (by decide +kernel) (by decide +kernel) ?_
    walk_at "w"
    refine ⟨M, M', ds, n, st, v, x, d, rfl, S1, hn, hx.same s1, hok, fun hm => ?_, fun hm => k3 ⟨by omega, by omega⟩ hm H1 s1⟩
    obtain ⟨m, rfl, ml, mp⟩ := mark_of_isMk hm
    obtain ⟨dk, hdk⟩ : ∃ dk, ds[kk]? = some dk := ⟨_, List.getElem?_eq_getElem (by rw [S.dl]; exact hk)⟩
    obtain ⟨sok, kvl, k1⟩ := k1 kk kv dk m rfl hk hkv hdk rfl hm
    walk_at "w"
    refine ⟨M, v1, x, shelfOf n kv key, kk, val, m, rfl, fr1, r1, Rp.mark (hx.same s1), by rw [sok.len, ml], by omega, by omega, by rw [ml]; exact sok.rin, by have := sok.few; omega, fun v2 H2 s2 r2 => ?_⟩
    have r2 := r2.old fr1
    have S2 := S1.same s2
    walk_at "w"
    refine w_kept S2 T.cl T.nA_kept fun l ml hl => ?_
    walk_at "w"
    refine w_dictAt S2 hl hk fun d2 kv2 kvs hd2 hkv2 hdk2 rel => ?_
    rw [hdk] at hd2
    cases hd2
    rw [hkv] at hkv2
    cases hkv2
    walk_at "w"
    refine ⟨dk, _, rfl, DPut.k (k := Sum.inr key) hdk2 (by rw [rel.len]; exact sz_smallL (by omega)), ?_⟩
    exact k1 _ (But.trans (But.same (Same.trans s1 s2)) (But.upd _)) (S2.put hdk hkv r2 hdk2 rel)
theorem ok_S_drop (T : Txt K mg a) : FnOk P w K mg base (L2.CX P w) 4 a.f_S_drop a.d_S_drop ["self", "keeper", "key", "mark"] (sp_S_drop a) := by
  refine T.F_S_drop.okX sc_S_drop (fun vs H Q E h => ?_) (fun cdv A outer s H vs Q E hr h => ?_)
  · obtain ⟨M, M', ds, n, st, v, x, k, key, d, rfl, _⟩ := h; rfl
  · obtain ⟨M, M', ds, n, st, v, x, k, key, d, rfl, fr, S, hn, hx, hok, k1, k2, k3⟩ := h
    have hu := hu_of hr
    refine ⟨_, (pss_cons (ps_set (i := 4) sc_S_drop.nd rfl (Or.inl rfl) (pe_meth (pv 0) T.cl T.m_S_shelf (ok_S_shelf T) (hr.mono (by decide)) T.b_S_shelf .nil (passes_call (takes_of rfl rfl rfl rfl) (fun _ _ _ _ h => h)) (pa_cons (pv 1) (pa_cons (pv 2) pa_nil))))
  (pss_cons (ps_expr (pe_meth (pv 0) T.cl T.m_S_need_mark (ok_S_need_mark T) (hr.mono (by decide)) T.b_S_need_mark .nil (passes_call (takes_of rfl rfl rfl rfl) (fun _ _ _ _ h => h)) (pa_cons (pv 3) pa_nil)))
  (pss_one (ps_dput hu (pe_ix (r := rIxL K) ix_list (pe_fldK K rfl (pv 0) rfl) (pv 1) (fun _ _ => rfl)) (pv 2) (pe_call (ok_dropped T) (hr.mono (by decide)) rfl T.g_dropped T.k_dropped T.b_dropped .nil passL (pa_cons (pv 4) (pa_cons (pv 3) pa_nil))) rfl)))), ?_⟩
    walk_at "w"
    refine w_mth S (by decide +kernel) (by decide +kernel) ?_
    walk_at "w"
    refine ⟨M, ds, n, st, v, k, key, rfl, fr, S, hn, fun kk kv ek hk hkv v1 H1 s1 r1 => ?_, fun hk => k2 hk⟩
    subst ek
    have S1 := S.same s1
    have fr1 := fr.same s1
    walk_at "w"
    refine w_mth S1 (by decide +kernel) (by decide +kernel) ?_
    walk_at "w"
    refine ⟨M, M', ds, n, st, v, x, d, rfl, S1, hn, hx.same s1, hok, fun hm => ?_, fun hm => k3 ⟨by omega, by omega⟩ hm H1 s1⟩
    obtain ⟨m, rfl, ml, mp⟩ := mark_of_isMk hm
    obtain ⟨dk, hdk⟩ : ∃ dk, ds[kk]? = some dk := ⟨_, List.getElem?_eq_getElem (by rw [S.dl]; exact hk)⟩
    obtain ⟨sok, kvl, k1⟩ := k1 kk kv dk m rfl hk hkv hdk rfl hm
    walk_at "w"
    refine ⟨M, v1, x, shelfOf n kv key, m, rfl, fr1, r1, Rp.mark (hx.same s1), by rw [sok.len, ml], by omega, by rw [ml]; exact sok.rin, by have := sok.few; omega, fun v2 H2 s2 r2 => ?_⟩
    have r2 := r2.old fr1
    have S2 := S1.same s2
    walk_at "w"
    refine w_kept S2 T.cl T.nA_kept fun l ml hl => ?_
    walk_at "w"
    refine w_dictAt S2 hl hk fun d2 kv2 kvs hd2 hkv2 hdk2 rel => ?_
    rw [hdk] at hd2
    cases hd2
    rw [hkv] at hkv2
    cases hkv2
    walk_at "w"
    refine ⟨dk, _, rfl, DPut.k (k := Sum.inr key) hdk2 (by rw [rel.len]; exact sz_smallL (by omega)), ?_⟩
    exact k1 _ (But.trans (But.same (Same.trans s1 s2)) (But.upd _)) (S2.put hdk hkv r2 hdk2 rel)
theorem Rp.rowsT {M M' : Addr → Prop} {H : Hp} {x : V} {rs : List Row} (h : Rp M H x (.tuple (rs.map rowD))) : Rp M' H x (.tuple (rs.map rowD)) := by
  obtain ⟨p, xs, rfl, hp, r⟩ := h.tup_inv
  rw [rows_map] at r ⊢
  exact .tupA hp r.tups
theorem ok_S_letter (T : Txt K mg a) : FnOk P w K mg base (L2.CX P w) 3 a.f_S_letter a.d_S_letter ["self", "keeper", "key"] (sp_S_letter a) := by
  refine T.F_S_letter.okX sc_S_letter (fun vs H Q E h => ?_) (fun cdv A outer s H vs Q E hr h => ?_)
  · obtain ⟨M, ds, n, st, v, k, key, rfl, _⟩ := h; rfl
  · obtain ⟨M, ds, n, st, v, k, key, rfl, fr, S, hn, k1, k2⟩ := h
    refine ⟨_, (pss_cons (ps_set (i := 3) sc_S_letter.nd rfl (Or.inl rfl) (pe_meth (pv 0) T.cl T.m_S_shelf (ok_S_shelf T) (hr.mono (by decide)) T.b_S_shelf .nil (passes_call (takes_of rfl rfl rfl rfl) (fun _ _ _ _ h => h)) (pa_cons (pv 1) (pa_cons (pv 2) pa_nil))))
  (pss_one (ps_ret (pe_tup (pa_cons (pv 2) (pa_cons (pe_ix (r := rIxT K) ix_tup (pv 3) pe_int (fun _ _ => rfl)) (pa_cons (pe_callTy (r := rTup K) cl_tup rfl T.n_tuple (by decide +kernel) (pa_cons (pe_ix (r := rIxT K) ix_tup (pv 3) pe_int (fun _ _ => rfl)) pa_nil)) pa_nil))))))), ?_⟩
    walk_at "w"
    refine w_mth S (by decide +kernel) (by decide +kernel) ?_
    walk_at "w"
    refine ⟨M, ds, n, st, v, k, key, rfl, fr, S, hn, fun kk kv ek hk hkv v1 H1 s1 r1 => ?_, fun hk => k2 hk⟩
    have k1 := k1 kk kv ek hk hkv
    walk_at "w"
    refine w_shelf0 r1 fun v2 r2 => ?_
    walk_at "w"
    refine w_shelf1 r1 fun v3 r3 => ?_
    walk_at "w"
    refine w_tupleL r3 fun v4 H4 s4 r4 => ?_
    walk_at "w"
    refine w_newT (M := fun _ => False) (ds := [.str key, markD (shelfOf n kv key).1, .tuple ((shelfOf n kv key).2.map rowD)]) (RpA.nil.cons (Rp.rowsT r4) |>.cons (Rp.mark (r2.same s4)) |>.cons (.str key)) (by show 3 ≤ sizeLine; decide) fun v5 H5 s5 r5 => ?_
    refine k1 v5 H5 (Same.trans s1 (Same.trans s4 s5)) fun M' => ?_
    obtain ⟨p, xs, rfl, hp, r⟩ := r5.tup_inv
    refine .tupA hp ?_
    match xs, r with
    | [x1, x2, x3], r => exact RpA.nil.cons (Rp.rowsT r.tail.tail.head) |>.cons (Rp.mark r.tail.head) |>.cons (by have := r.head.str_inv; rw [this]; exact .str key)
    | [], r => exact absurd r.1 (by simp)
    | [_], r => exact absurd r.1 (by simp)
    | [_, _], r => exact absurd r.1 (by simp)
    | _ :: _ :: _ :: _ :: _, r => exact absurd r.1 (by simp)
theorem ok_S_take (T : Txt K mg a) : FnOk P w K mg base (L2.CX P w) 4 a.f_S_take a.d_S_take ["self", "keeper", "letter"] (sp_S_take a) := by
  refine T.F_S_take.okX sc_S_take (fun vs H Q E h => ?_) (fun cdv A outer s H vs Q E hr h => ?_)
  · obtain ⟨M, ds, n, st, v, x, k, key, sh, rfl, _⟩ := h; rfl
  · obtain ⟨M, ds, n, st, v, x, k, key, sh, rfl, fr, S, hn, hx, hsh, k1, k2⟩ := h
    have hu := hu_of hr
    refine ⟨_, (pss_cons (ps_set (i := 3) sc_S_take.nd rfl (Or.inl rfl) (pe_meth (pv 0) T.cl T.m_S_shelf (ok_S_shelf T) (hr.mono (by decide)) T.b_S_shelf .nil (passes_call (takes_of rfl rfl rfl rfl) (fun _ _ _ _ h => h)) (pa_cons (pv 1) (pa_cons (pe_ix (r := rIxT K) ix_tup (pv 2) pe_int (fun _ _ => rfl)) pa_nil))))
  (pss_one (ps_dput hu (pe_ix (r := rIxL K) ix_list (pe_fldK K rfl (pv 0) rfl) (pv 1) (fun _ _ => rfl)) (pe_ix (r := rIxT K) ix_tup (pv 2) pe_int (fun _ _ => rfl)) (pe_call (ok_met T) (hr.mono (by decide)) rfl T.g_met T.k_met T.b_met .nil passL (pa_cons (pv 3) (pa_cons (pe_tup (pa_cons (pe_ix (r := rIxT K) ix_tup (pv 2) pe_int (fun _ _ => rfl)) (pa_cons (pe_callTy (r := rLst K) cl_lst rfl T.n_list (by decide +kernel) (pa_cons (pe_ix (r := rIxT K) ix_tup (pv 2) pe_int (fun _ _ => rfl)) pa_nil)) pa_nil))) pa_nil))) rfl))), ?_⟩
    walk_at "w"
    refine w_mth S (by decide +kernel) (by decide +kernel) ?_
    walk_at "w"
    refine w_ixT 0 (hx M) rfl (d := .str key) rfl fun vk rk => ?_
    obtain rfl := rk.str_inv
    walk_at "w"
    refine ⟨M, ds, n, st, v, k, key, rfl, fr, S, hn, fun kk kv ek hk hkv v1 H1 s1 r1 => ?_, fun hk => k2 hk⟩
    subst ek
    have S1 := S.same s1
    have fr1 := fr.same s1
    have hx1 := (hx M).same s1
    obtain ⟨dk, hdk⟩ : ∃ dk, ds[kk]? = some dk := ⟨_, List.getElem?_eq_getElem (by rw [S.dl]; exact hk)⟩
    obtain ⟨sok, kvl, k1⟩ := k1 kk kv dk rfl hk hkv hdk
    walk_at "w"
    refine w_ixT 1 hx1 rfl (d := markD sh.1) rfl fun v2 r2 => ?_
    walk_at "w"
    refine w_ixT 2 hx1 rfl (d := .tuple (sh.2.map rowD)) rfl fun v3 r3 => ?_
    walk_at "w"
    refine w_listT fr1 r3 fun v4 H4 s4 r4 => ?_
    walk_at "w"
    refine w_newT (Rp.shelf (s := sh) (r2.same s4) r4) (by show 2 ≤ sizeLine; decide) fun v5 H5 s5 r5 => ?_
    have r5 : Rp M H5 v5 (shelfD sh) := r5
    have s15 := Same.trans s4 s5
    have fr5 := fr1.same s15
    walk_at "w"
    refine ⟨M, n, v1, v5, shelfOf n kv key, sh, rfl, fr5, r1.same s15, r5, sok.len, hsh.len, hn, sok.rin, hsh.rin, sok.few, hsh.few, fun v6 H6 s6 r6 => ?_⟩
    have r6 := r6.old fr5
    have S6 := (S1.same s15).same s6
    walk_at "w"
    refine w_kept S6 T.cl T.nA_kept fun l ml hl => ?_
    walk_at "w"
    refine w_dictAt S6 hl hk fun d2 kv2 kvs hd2 hkv2 hdk2 rel => ?_
    rw [hdk] at hd2
    cases hd2
    rw [hkv] at hkv2
    cases hkv2
    walk_at "w"
    refine w_ixT 0 ((hx1.same s15).same s6) rfl (d := .str key) rfl fun vk rk => ?_
    obtain rfl := rk.str_inv
    refine ⟨dk, _, rfl, DPut.k (k := Sum.inr key) hdk2 (by rw [rel.len]; exact sz_smallL (by omega)), ?_⟩
    exact k1 _ (But.trans (But.same (Same.trans s1 (Same.trans s15 s6))) (But.upd _)) (S6.put hdk hkv r6 hdk2 rel)
end
end Sb

namespace Sb
open PySem L2 PyProof.Rows
/-- the keys told -/
def keysOf (n : Nat) (kv : KV1) : List Str := sortX ((kv.map (·.1)).filter fun s => decide (0 < (shelfOf n kv s).2.length))
def keysD (ks : List Str) : PyData := .list (ks.map PyData.str)
theorem w_iKeys {te : TE} {σ : L2.St} {H : Hp} {R : It → Hp → Prop} (q : te σ H fun x H1 => ∃ d o, x = .ref d ∧ ((∃ kvs, H1 d = some (.frz o (.dK kvs)) ∧ R (Itk d o kvs) H1) ∨ ∃ kvs, H1 d = some (.frz o (.dT kvs)) ∧ R (Itkt d o kvs) H1)) : iKeys te σ H R := q
def sp_S_keys (a : Ad) : Sp := fun vs H Q E => ∃ (M : Addr → Prop) (ds : List Addr) (n : Nat) (st : Kept) (v : V) (k : Int), vs = [v, .int k] ∧ StoreAt M H a.C v ds n st ∧ n ≤ 9 ∧
  (∀ (kk : Nat) (kv : KV1), k = kk → kk < n → st[kk]? = some kv → kv.length ≤ 1000 ∧ (∀ s ∈ kv.map (·.1), ShOk n (shelfOf n kv s)) ∧ ∀ v' H', Same H H' → Rp (Old H) H' v' (keysD (keysOf n kv)) → Q v' H') ∧ (¬ (0 ≤ k ∧ k < n) → E (.ref a.C_NoKeeper) none H)
section
variable {P : Program} {w : World} {K : Frag} {mg : Str → Option Value} {base : Heap} {a : Ad}
local macro_rules | `(tactic| walk_at "e1") => `(tactic| first
  | ((with_reducible refine' w_var ?wh ?_); (case wh => rfl))
  | with_reducible refine w_c ?_
  | with_reducible refine w_projn ?_
  | with_reducible refine w_projr ?_
  | with_reducible refine w_op ?_
  | with_reducible refine w_cons ?_
  | with_reducible refine w_nil ?_
  | with_reducible refine w_I0 ?_
  | ((with_reducible refine w_I ?wc ?_); (case wc => first | (show (0 : Int) < _; decide) | exact ⟨by decide, by decide⟩ | exact ⟨by decide, by decide, by decide⟩ | exact Or.inr ⟨by decide, by decide⟩ | exact Or.inl ⟨by decide, by decide⟩ | (show (0 : Int) < _; omega) | exact ⟨by omega, by omega⟩))
  | with_reducible refine w_bl ?_
  | with_reducible refine w_test ?_
  | with_reducible refine w_tB ?_
  | with_reducible refine w_set ?_
  | with_reducible refine w_ifS ?_
  | with_reducible refine w_if ?_
  | with_reducible refine w_or ?_
  | with_reducible refine w_and ?_
  | with_reducible refine w_not ?_
  | with_reducible refine w_orV ?_
  | with_reducible refine w_andV ?_
  | with_reducible refine w_notV ?_
  | with_reducible refine w_ret ?_
  | with_reducible refine w_retN ?_
  | with_reducible refine w_drop ?_
  | with_reducible refine w_next ?_
  | with_reducible refine w_un ?_
  | with_reducible refine w_CB ?_
  | with_reducible refine w_call ?_
  | with_reducible refine w_callS ?_
  | with_reducible refine w_gName ?_
  | with_reducible refine w_asg ?_
  | with_reducible refine w_tTup ?_
  | with_reducible refine w_tLst ?_
  | with_reducible refine w_lc ?_
  | with_reducible refine w_iRng1 ?_
  | with_reducible refine w_iRng2 ?_
  | with_reducible refine w_iList ?_
  | with_reducible refine w_iTup ?_
  | with_reducible refine w_for ?_
  | with_reducible refine w_chain ?_
  | with_reducible refine w_sl ?_
  | with_reducible refine w_part ?_
  | with_reducible refine w_nopart ?_
  | with_reducible refine w_exint ?_
  | with_reducible refine w_dput ?_
  | with_reducible refine w_gSub ?_
  | with_reducible refine w_tFld ?_
  | with_reducible refine w_tMeth ?_
  | with_reducible refine w_sFld ?_
  | with_reducible refine w_dget2 ?_
  | with_reducible refine w_dget ?_
  | with_reducible refine w_bm ?_
  | with_reducible refine w_isiII ?_
  | with_reducible refine w_isiIB ?_
  | with_reducible refine w_isiBB ?_
  | with_reducible refine w_max ?_
  | ((with_reducible refine w_eq ?we ?_); (case we => rfl))
  | ((with_reducible refine w_ne ?we ?_); (case we => rfl)))
local macro_rules | `(tactic| walk_at "w1") => `(tactic| first | walk_at "e1" | with_reducible refine w_seq ?_)
local macro_rules | `(tactic| walk_at "e") => `(tactic| repeat walk_at "e1")
local macro_rules | `(tactic| walk_at "w") => `(tactic| repeat walk_at "w1")

theorem ok_S_keys (T : Txt K mg a) : FnOk P w K mg base (L2.CX P w) 2 a.f_S_keys a.d_S_keys ["self", "keeper"] (sp_S_keys a) := by
  refine T.F_S_keys.okX sc_S_keys (fun vs H Q E h => ?_) (fun cdv A outer s H vs Q E hr h => ?_)
  · obtain ⟨M, ds, n, st, v, k, rfl, _⟩ := h; rfl
  · obtain ⟨M, ds, n, st, v, k, rfl, S, hn, k1, k2⟩ := h
    have hu := hu_of hr
    refine ⟨_, (pss_cons (ps_expr (pe_meth (pv 0) T.cl T.m_S_need_keeper (ok_S_need_keeper T) (hr.mono (by decide)) T.b_S_need_keeper .nil (passes_call (takes_of rfl rfl rfl rfl) (fun _ _ _ _ h => h)) (pa_cons (pv 1) pa_nil)))
  (pss_one (ps_ret (pe_callB (r := rSortedX K) cr_sortedX rfl T.n_sorted (by decide +kernel) (pa_cons (pe_lock (pe_lc (own := [("key", 2)]) rfl sc_S_keys.nd (pi_keys (pe_ix (r := rIxL K) ix_list (pe_fldK K rfl (pv 0) rfl) (pv 1) (fun _ _ => rfl))) (blkOk_by (own := [("key", 2)]) (N := N_S_keys) (sc := defScope s_S_keys) (by decide +kernel)) (fun _ _ _ _ _ => (pg_name (i := 2) sc_S_keys.nd rfl (by first | exact Or.inl rfl | exact Or.inr rfl))) (fun _ _ _ _ _ => (pts_one (pt_cmpR op_gt (pe_callB (r := rLen K) cl_len rfl T.n_len (by decide +kernel) (pa_cons (pe_ix (r := rIxT K) ix_tup (pe_dget hu (pe_ix (r := rIxL K) ix_list (pe_fldK K rfl (pv 0) rfl) (pv 1) (fun _ _ => rfl)) (pv 2) (fun _ _ => rfl)) pe_int (fun _ _ => rfl)) pa_nil)) pe_int (nomark _)))) (fun _ _ _ _ _ => (pv 2)))) pa_nil))))), ?_⟩
    walk_at "w"
    refine w_mth S (by decide +kernel) (by decide +kernel) ?_
    walk_at "w"
    refine ⟨M, ds, n, st, v, k, rfl, S, hn, fun hk => ?_, fun hk => k2 hk⟩
    obtain ⟨kk, rfl⟩ : ∃ kk : Nat, k = kk := ⟨k.toNat, by omega⟩
    have hkn : kk < n := by omega
    obtain ⟨d, hd⟩ : ∃ d, ds[kk]? = some d := ⟨_, List.getElem?_eq_getElem (by rw [S.dl]; exact hkn)⟩
    obtain ⟨kv, hkv⟩ : ∃ kv, st[kk]? = some kv := ⟨_, List.getElem?_eq_getElem (by rw [S.sl]; exact hkn)⟩
    obtain ⟨kvl, oks, k1⟩ := k1 kk kv rfl hkn hkv
    obtain ⟨kvs, hdk, rel⟩ := S.dic kk d kv hd hkv
    obtain ⟨p, dx, l, vf, rfl, h1, h2, h3, h4⟩ := S.obj
    walk_at "w"
    refine ⟨d, .dK kvs, hdk, trivial, fun od => ?_⟩
    have bf : But d H (upd H d (.frz od (.dK kvs))) := But.upd _
    have ef : Ext M M H (upd H d (.frz od (.dK kvs))) := bf.ext fun xs => ⟨fun z => (by rw [hdk] at z; cases z), fun _ z => (by rw [hdk] at z; cases z)⟩
    have hp : ∀ H', Same (upd H d (.frz od (.dK kvs))) H' → H' p = some (.ins a.C dx (sflds vf l)) ∧ H' l = some (.lst (ds.map V.ref)) ∧ H' d = some (.frz od (.dK kvs)) := fun H' s =>
      ⟨s _ _ (bf _ _ (fun z => by subst z; rw [hdk] at h1; cases h1) h1), s _ _ (bf _ _ (fun z => by subst z; rw [hdk] at h4; cases h4) h4), s _ _ upd_same⟩
    have hat : (ds.map V.ref)[kk]? = some (.ref d) := by rw [List.getElem?_map, hd]; rfl
    generalize hHf : upd H d (.frz od (.dK kvs)) = Hf at bf ef hp
    obtain ⟨p1, p2, p3⟩ := hp Hf (Same.refl _)
    walk_at "w"
    refine w_iKeys ?_
    walk_at "w"
    refine ⟨p, a.C, dx, _, _, rfl, p1, T.cl, T.nA_kept, sflds_kept _ _, ?_⟩
    walk_at "w"
    refine w_ixS kk (SqL.of p2) rfl hat ?_
    refine ⟨d, od, rfl, .inl ⟨kvs, p3, fun D hD => ?_⟩⟩
    have hDd : D ≠ d := fun z => by rw [z, p3] at hD; cases hD
    refine lc_it walk_keys (fun i H' => Same Hf H' ∧ H' D = some (.lst ((((kv.map (·.1)).take i).filter fun s => decide (0 < (shelfOf n kv s).2.length)).map V.str))) ⟨Same.new hD, by simpa using upd_same⟩ (fun i H' _ q => (hp H' q.1).2.2) ?_ ?_
    · rintro i x H1 H' hi ⟨s1, hDl⟩ ⟨rfl, ky, vv, hki, rfl⟩
      rw [rel.len] at hi
      obtain ⟨xs, hx, rx⟩ := rel.at (List.getElem?_eq_getElem hi)
      rw [hx] at hki
      have hki := Option.some.inj hki
      obtain rfl : Sum.inr kv[i].1 = ky := (Prod.mk.inj hki).1
      have hkm : (kv.map (·.1))[i]? = some kv[i].1 := by rw [List.getElem?_map, List.getElem?_eq_getElem hi]; rfl
      have et : (kv.map (·.1)).take (i + 1) = (kv.map (·.1)).take i ++ [kv[i].1] := by
        rw [List.take_succ, hkm]; rfl
      generalize kv[i].1 = s at hkm et hx
      have sok := oks s (List.mem_of_getElem? hkm)
      obtain ⟨q1, q2, q3⟩ := hp H' s1
      refine w_it1 rfl ?_
      walk_at "w"
      refine ⟨p, a.C, dx, _, _, rfl, q1, T.cl, T.nA_kept, sflds_kept _ _, ?_⟩
      walk_at "w"
      refine w_ixS kk (SqL.of q2) rfl hat ?_
      walk_at "w"
      have hget : ∃ x sh, valV kvs (Sum.inr s : Key) = some x ∧ aGet kv s = some sh ∧ Rp M H' x (shelfD sh) := by
        rcases ((rel.ext ef).ext (.same s1)).get (s := s) with ⟨g1, g2⟩ | g
        · exfalso
          have : s ∈ kv.map (·.1) := List.mem_of_getElem? hkm
          obtain ⟨q, hq, e⟩ := List.mem_map.mp this
          have := aGet_any s kv
          rw [g2] at this
          have h0 : (kv.any fun p => decide (p.1 = s)) = true := List.any_eq_true.mpr ⟨q, hq, decide_eq_true e⟩
          rw [h0] at this; cases this
        · exact g
      obtain ⟨x, sh, g1, g2, g3⟩ := hget
      have esh : shelfOf n kv s = sh := by unfold shelfOf; rw [g2]; rfl
      refine ⟨d, x, rfl, .inl ⟨kvs, .inr s, .inr ⟨od, q3⟩, rfl, g1.symm⟩, ?_⟩
      walk_at "w"
      refine w_shelf1 g3 fun v2 r2 => ?_
      walk_at "w"
      refine w_lenL r2 ?_
      walk_at "w"
      rw [List.length_map]
      have hlt : ((((kv.map (·.1)).take i).filter fun s => decide (0 < (shelfOf n kv s).2.length)).map V.str).length < sizeLine := by
        refine sz_smallL ?_
        rw [List.length_map]
        have := List.length_filter_le (fun s => decide (0 < (shelfOf n kv s).2.length)) ((kv.map (·.1)).take i)
        rw [List.length_take, List.length_map] at this
        omega
      by_cases h0 : 0 < sh.2.length
      · refine iteD (by omega) ?_
        walk_at "w"
        refine ⟨_, hDl, hlt, fun b o e => ?_, ?_⟩
        · rw [upd_ne (ne_of_none e hD)]; exact s1 b o e
        · rw [upd_same, et, List.filter_append, List.map_append, List.filter_cons_of_pos (by rw [esh]; exact decide_eq_true h0)]; rfl
      · refine iteDn (by omega) ?_
        refine ⟨s1, ?_⟩
        rw [hDl, et, List.filter_append, List.filter_cons_of_neg (by rw [esh]; simpa using h0)]
        simp
    · rintro H' ⟨s1, hDl⟩
      obtain ⟨q1, q2, q3⟩ := hp H' s1
      refine ⟨q3, ?_⟩
      have sH : Same H (upd H' d (.dK kvs)) := fun b o e => by
        by_cases z : b = d
        · subst z; rw [upd_same, ← hdk]; exact e
        · rw [upd_ne z]; exact s1 _ _ (bf _ _ z e)
      have hDl : upd H' d (.dK kvs) D = some (.lst ((((kv.map (·.1)).take kvs.length).filter fun s => decide (0 < (shelfOf n kv s).2.length)).map V.str)) := by rw [upd_ne hDd]; exact hDl
      rw [rel.len, ← List.length_map (as := kv) (f := (·.1)), List.take_length] at hDl
      walk_at "w"
      refine ⟨D, _, rfl, SqL.of hDl, fun q hq => ?_⟩
      refine k1 _ _ (Same.trans sH (Same.new hq)) (.lstA (fun z => z (sH.free hq)) upd_same RpA.strs)
end
end Sb

namespace Sb
open PySem L2 PyProof.Rows
/-- the one key, told where something stands -/
def oneKeys (key : Str) (s : Shelf) : List Str := if s.2 = [] then [] else [key]
theorem sortX_one (x : Str) : sortX [x] = [x] := (sortX_uniq (List.Perm.refl _) (List.pairwise_singleton _ _)).symm
theorem sortX_nil : sortX [] = [] := (sortX_uniq (List.Perm.refl _) List.Pairwise.nil).symm
theorem keysOf_one {n : Nat} {key : Str} {kv : KV1} (h : One key kv) : keysOf n kv = oneKeys key (shelfOf n kv key) := by
  unfold keysOf oneKeys
  rcases h with rfl | ⟨sh, rfl⟩
  · show sortX [] = if ([] : List Row) = [] then [] else [key]
    rw [if_pos rfl, sortX_nil]
  · have e : shelfOf n [(key, sh)] key = sh := by
      unfold shelfOf
      rw [aGet_cons, if_pos rfl]; rfl
    rw [e]
    show sortX ([key].filter _) = _
    rw [List.filter_cons, e]
    by_cases h : sh.2 = []
    · rw [if_pos h, if_neg (by rw [h]; simp)]
      exact sortX_nil
    · rw [if_neg h, if_pos (decide_eq_true (List.length_pos_iff.mpr h))]
      exact sortX_one key
section
variable {a : Ad} {M M' : Addr → Prop} {H : Hp} {v x : V} {ds : List Addr} {n : Nat} {key : Str} {f : Nat → Shelf} {Q : VK} {E : XK} {k : Nat} {i : Int} {m : List Int} {val : Int} {sh : Shelf}
theorem look_one (S : OneAt M H a.C v ds n key f) (fr : Fr M H) (hn : n ≤ 9) (ei : i = k) (hk : k < n) (ok : ShOk n (f k)) (q : ∀ v' H', Same H H' → Rp (Old H) H' v' (lookD (f k)) → Q v' H') : sp_S_look a [v, .int i, .str key] H Q E := by
  obtain ⟨st, kv, dk, S, h1, h2, h3, h4, b⟩ := S.at hk
  refine ⟨M, ds, n, st, v, i, key, rfl, fr, S, hn, fun kk kv' e hkk hkv => ?_, fun z => absurd ⟨by omega, by omega⟩ z⟩
  obtain rfl : kk = k := by omega
  rw [h1] at hkv
  cases hkv
  rw [h4]
  exact ⟨ok, q⟩
/-- a look at another key -/
theorem look_other {key' : Str} (S : OneAt M H a.C v ds n key f) (fr : Fr M H) (hn : n ≤ 9) (ei : i = k) (hk : k < n) (ne : ¬ key' = key) (q : ∀ v' H', Same H H' → Rp (Old H) H' v' (lookD (List.replicate n 0, [])) → Q v' H') : sp_S_look a [v, .int i, .str key'] H Q E := by
  obtain ⟨st, kv, dk, S, h1, h2, h3, h4, b⟩ := S.at hk
  refine ⟨M, ds, n, st, v, i, key', rfl, fr, S, hn, fun kk kv' e hkk hkv => ?_, fun z => absurd ⟨by omega, by omega⟩ z⟩
  obtain rfl : kk = k := by omega
  rw [h1] at hkv
  cases hkv
  rw [h3.other ne]
  exact ⟨.start n, q⟩
theorem letter_one (S : OneAt M H a.C v ds n key f) (fr : Fr M H) (hn : n ≤ 9) (ei : i = k) (hk : k < n) (q : ∀ v' H', Same H H' → (∀ M', Rp M' H' v' (letterD key (f k))) → Q v' H') : sp_S_letter a [v, .int i, .str key] H Q E := by
  obtain ⟨st, kv, dk, S, h1, h2, h3, h4, b⟩ := S.at hk
  refine ⟨M, ds, n, st, v, i, key, rfl, fr, S, hn, fun kk kv' e hkk hkv => ?_, fun z => absurd ⟨by omega, by omega⟩ z⟩
  obtain rfl : kk = k := by omega
  rw [h1] at hkv
  cases hkv
  rw [h4]
  exact q
theorem keys_one (S : OneAt M H a.C v ds n key f) (hn : n ≤ 9) (ei : i = k) (hk : k < n) (ok : ShOk n (f k)) (q : ∀ v' H', Same H H' → Rp (Old H) H' v' (keysD (oneKeys key (f k))) → Q v' H') : sp_S_keys a [v, .int i] H Q E := by
  obtain ⟨st, kv, dk, S, h1, h2, h3, h4, b⟩ := S.at hk
  refine ⟨M, ds, n, st, v, i, rfl, S, hn, fun kk kv' e hkk hkv => ?_, fun z => absurd ⟨by omega, by omega⟩ z⟩
  obtain rfl : kk = k := by omega
  rw [h1] at hkv
  cases hkv
  have := h3.len
  refine ⟨by omega, fun s hs => ?_, ?_⟩
  · by_cases e : s = key
    · rw [e, h4]; exact ok
    · rw [h3.other e]; exact .start n
  · rw [keysOf_one h3, h4]
    exact q
theorem put_one (S : OneAt M H a.C v ds n key f) (fr : Fr M H) (hn : n ≤ 9) (ei : i = k) (hk : k < n) (hx : Rp M' H x (markD m)) (hm : isMk n (markD m) = true) (ok : ShOk n (f k)) (q : ∀ H', Keep H H' → OneAt M H' a.C v ds n key (setF f k (putOn (f k) k val m)) → Q .non H') :
    sp_S_put a [v, .int i, .str key, .int val, x] H Q E := by
  obtain ⟨st, kv, dk, S, h1, h2, h3, h4, b⟩ := S.at hk
  refine ⟨M, M', ds, n, st, v, x, i, key, val, markD m, rfl, fr, S, hn, hx, okMk_mark m, fun kk kv' dk' m' e hkk hkv hdk em hm' => ?_, fun z => absurd ⟨by omega, by omega⟩ z, fun _ z => by rw [hm] at z; cases z⟩
  obtain rfl : kk = k := by omega
  rw [h1] at hkv
  cases hkv
  rw [h2] at hdk
  cases hdk
  obtain rfl : m = m' := by
    have : m.map PyData.int = m'.map PyData.int := by injection em
    exact (List.map_inj_right fun x y h => by injection h).mp this
  have := h3.len
  rw [h4]
  exact ⟨ok, by omega, fun H' bt S' => q H' (S.keep S' (List.mem_of_getElem? h2) bt) (OneAt.put b h1 S')⟩
theorem drop_one (S : OneAt M H a.C v ds n key f) (fr : Fr M H) (hn : n ≤ 9) (ei : i = k) (hk : k < n) (hx : Rp M' H x (markD m)) (hm : isMk n (markD m) = true) (ok : ShOk n (f k)) (q : ∀ H', Keep H H' → OneAt M H' a.C v ds n key (setF f k (droppedS (f k) m)) → Q .non H') :
    sp_S_drop a [v, .int i, .str key, x] H Q E := by
  obtain ⟨st, kv, dk, S, h1, h2, h3, h4, b⟩ := S.at hk
  refine ⟨M, M', ds, n, st, v, x, i, key, markD m, rfl, fr, S, hn, hx, okMk_mark m, fun kk kv' dk' m' e hkk hkv hdk em hm' => ?_, fun z => absurd ⟨by omega, by omega⟩ z, fun _ z => by rw [hm] at z; cases z⟩
  obtain rfl : kk = k := by omega
  rw [h1] at hkv
  cases hkv
  rw [h2] at hdk
  cases hdk
  obtain rfl : m = m' := by
    have : m.map PyData.int = m'.map PyData.int := by injection em
    exact (List.map_inj_right fun x y h => by injection h).mp this
  have := h3.len
  rw [h4]
  exact ⟨ok, by omega, fun H' bt S' => q H' (S.keep S' (List.mem_of_getElem? h2) bt) (OneAt.put b h1 S')⟩
theorem take_one (S : OneAt M H a.C v ds n key f) (fr : Fr M H) (hn : n ≤ 9) (ei : i = k) (hk : k < n) (hx : ∀ M', Rp M' H x (letterD key sh)) (ok : ShOk n (f k)) (oks : ShOk n sh) (q : ∀ H', Keep H H' → OneAt M H' a.C v ds n key (setF f k (metS (f k) sh)) → Q .non H') :
    sp_S_take a [v, .int i, x] H Q E := by
  obtain ⟨st, kv, dk, S, h1, h2, h3, h4, b⟩ := S.at hk
  refine ⟨M, ds, n, st, v, x, i, key, sh, rfl, fr, S, hn, hx, oks, fun kk kv' dk' e hkk hkv hdk => ?_, fun z => absurd ⟨by omega, by omega⟩ z⟩
  obtain rfl : kk = k := by omega
  rw [h1] at hkv
  cases hkv
  rw [h2] at hdk
  cases hdk
  have := h3.len
  rw [h4]
  exact ⟨ok, by omega, fun H' bt S' => q H' (S.keep S' (List.mem_of_getElem? h2) bt) (OneAt.put b h1 S')⟩
end
end Sb
namespace Sb
open PySem L2 PyProof.Rows
def rMake (C : Addr) (sp : Sp) (dvs : List V) (E : XK) (vs : List V) (H1 : Hp) (Q : VK) : Prop := ∀ x dx, H1 x = none → H1 dx = none → dx ≠ x →
  sp (.ref x :: (vs ++ dvs)) (upd (upd H1 dx (.own x)) x (.ins C dx [])) (fun v H2 => v = .non ∧ Q (.ref x) H2) E
theorem w_tMake {C : Addr} {sp : Sp} {dvs : List V} {E : XK} {t : TA} {σ : L2.St} {H : Hp} {Q : VK} (q : t σ H fun vs H1 => rMake C sp dvs E vs H1 Q) : tMake C sp dvs E t σ H Q := q
/-- a store is made -/
theorem make_one {a : Ad} {H : Hp} {E : XK} {Q : VK} {i : Int} {n : Nat} (key : Str) (ei : i = n) (h1 : 1 ≤ n) (h9 : n ≤ 9) (q : ∀ v H' ds, Same H H' → OneAt (Old H) H' a.C v ds n key (fun _ => (List.replicate n 0, [])) → (∀ d ∈ ds, H d = none) → Q v H') : rMake a.C (sp_S_init a) [] E [.int i] H Q := by
  intro x dx hx hdx ne
  subst ei
  refine ⟨x, dx, _, rfl, upd_same, fun _ ds H' bt S hd => ⟨rfl, ?_⟩, fun z => absurd ⟨by omega, by omega⟩ z⟩
  have s0 : Same H (upd (upd H dx (.own x)) x (.ins a.C dx [])) := fun b o e => by
    rw [upd_ne (ne_of_none e hx), upd_ne (ne_of_none e hdx)]; exact e
  refine q _ H' ds (fun b o e => bt b o (ne_of_none e hx) (s0 b o e)) ?_ fun d hd' => s0.free (hd d hd')
  rw [Int.toNat_natCast] at S
  exact (OneAt.start S).less fun b hb z => hb (s0.free z)
end Sb
namespace Sb
open PySem L2 PyProof.Rows
theorem cut_int {ns : List Int} {ys : List V} {lo hi : Option Int} (h : cutV (ns.map V.int) lo hi = ys) {i : Nat} {y : V} (e : ys[i]? = some y) : ∃ c, y = .int c := by
  have h1 : y ∈ ns.map V.int := by
    have h2 := List.mem_of_getElem? e
    rw [← h] at h2
    exact List.mem_of_mem_drop (List.mem_of_mem_take h2)
  obtain ⟨c, _, rfl⟩ := List.mem_map.mp h1
  exact ⟨c, rfl⟩
theorem mod_nat (c : Int) {n : Nat} (h : 1 ≤ n) : ∃ k : Nat, c % (n : Int) = k ∧ k < n := ⟨(c % (n : Int)).toNat, by have := Int.emod_nonneg c (show (n : Int) ≠ 0 by omega); omega, by
  have := Int.emod_nonneg c (show (n : Int) ≠ 0 by omega)
  have := Int.emod_lt_of_pos c (show (0 : Int) < n by omega)
  omega⟩
theorem w_gTup {K : Frag} {n : Nat} {t : TGs} {p : Addr} {xs : List V} {σ : L2.St} {H : Hp} {Q : L2.St → Hp → Prop} (h : H p = some (.tup xs)) (hl : xs.length = n) (q : t xs σ H Q) : gTup K n t (.ref p) σ H Q := ⟨p, xs, rfl, SqT.of h, hl, q⟩
theorem w_gCons {t : TG} {u : TGs} {v : V} {r : List V} {σ : L2.St} {H : Hp} {Q : L2.St → Hp → Prop} (q : t v σ H fun σ' H' => u r σ' H' Q) : gCons t u (v :: r) σ H Q := ⟨v, r, rfl, q⟩
theorem w_gNil {σ : L2.St} {H : Hp} {Q : L2.St → Hp → Prop} (q : Q σ H) : gNil [] σ H Q := ⟨rfl, q⟩
end Sb

namespace Sb
open PySem L2
section
variable {K : Frag} {M : Addr → Prop} {H : Hp} {v x y : V} {Q : VK}
/-- isinstance of what was caught, its class told by the reading -/
def rIsX (K : Frag) (cls : Value) (dd : Option Addr) (ae : Addr) : List V → Hp → VK → Prop := fun xs H Q => ∃ D, cls = .ref D ∧ dd = none ∧ ExcC K D ∧ rIsE K D ae xs H Q
theorem call_isX {X : Cx} {ae : Addr} {cls : Value} {dd : Option Addr} {oe : Obj} {pn : List (Addr × Obj)} (hz : Zc cls dd oe) (hf : ∃ vs, oe.data = .fields vs) : CallR (X.suite ae ((ae, oe) :: pn)) (.builtin "isinstance") (rIsX X.K cls dd ae) := by
  intro pins s σ H xs us Q I r h
  obtain ⟨D, rfl, rfl, C, h⟩ := h
  exact call_isE C hz hf pins s σ H xs us Q I r h
theorem kit_ref {D C : Addr} {b : Bool} (hd : PySem.W.hasDictIn K C = true) (ht : PySem.W.typeIn K (.ref C) = some (.type "type")) (hs : PySem.W.subIn K (.ref D) (.ref C) = some b) (e : D = C → b = true) : PySem.W.kitOne K (.ref D) (.ref C) = some b := by
  have hc : (PySem.W.clsIn K C).isSome = true := by
    unfold PySem.W.hasDictIn at hd
    cases h : PySem.W.clsIn K C with
    | none => rw [h] at hd; cases hd
    | some c => rfl
  unfold PySem.W.kitOne PySem.W.kitCls
  by_cases q : (Value.ref D == Value.ref C) = true
  · rw [if_pos q]
    have : D = C := by simpa using q
    rw [e this]
  · rw [if_neg q]
    simp only [hc, ht, Bool.true_and]
    rw [if_pos (by decide)]
    exact hs
theorem kit_no {D C : Addr} (hd : PySem.W.hasDictIn K C = true) (ht : PySem.W.typeIn K (.ref C) = some (.type "type")) (hs : PySem.W.subIn K (.ref D) (.ref C) = some false) (hc : PySem.W.subIn K (.ref C) (.ref C) = some true) : PySem.W.kitOne K (.ref D) (.ref C) = some false :=
  kit_ref hd ht hs fun e => by subst e; rw [hs] at hc; cases hc
theorem kit_ve {D : Addr} (hs : PySem.W.subIn K (.ref D) (.type "ValueError") = some true) : PySem.W.kitOne K (.ref D) (.type "ValueError") = some true := by
  unfold PySem.W.kitOne PySem.W.kitCls
  rw [if_neg (by simp)]
  simp only
  rw [if_pos (by decide +kernel)]
  exact hs
theorem w_isXR {D C ae : Addr} {b : Bool} (e : ExcC K D) (k : PySem.W.kitOne K (.ref D) (.ref C) = some b) (q : Q (.bl b) H) : rIsX K (.ref D) none ae [.ref ae, .ref C] H Q :=
  ⟨D, rfl, rfl, e, .ref C, .ref C, b, rfl, fun u r => r, k, q⟩
theorem w_isXV {D ae : Addr} (e : ExcC K D) (k : PySem.W.subIn K (.ref D) (.type "ValueError") = some true) (q : Q (.bl true) H) : rIsX K (.ref D) none ae [.ref ae, .ty "ValueError"] H Q :=
  ⟨D, rfl, rfl, e, .ty "ValueError", .type "ValueError", true, rfl, fun u r => r, kit_ve k, q⟩
/-- xs.count(True) of truths -/
def rCountB (K : Frag) : V → List V → Hp → VK → Prop := fun x xs H Q => ∃ (p : Addr) (bs : List Bool) (k : Bool), x = .ref p ∧ xs = [.bl k] ∧ SqL K H p (bs.map V.bl) ∧ Q (.int (bs.count k : Nat)) H
theorem reads_bools {h : Heap} : ∀ bs : List Bool, ∃ as, ReadsAll h (bs.map Value.bool) (bs.map PyData.bool) as
  | [] => ⟨[], .nil⟩
  | b :: bs => let ⟨as, r⟩ := reads_bools bs; ⟨_, .cons (.bool b) r⟩
theorem count_bools (k : Bool) : ∀ bs : List Bool, PySem.Spec.countIn (.bool k) (bs.map PyData.bool) = (bs.count k : Nat)
  | [] => rfl
  | b :: bs => by
    rw [List.map_cons]
    unfold PySem.Spec.countIn
    rw [count_bools k bs, List.count_cons]
    cases b <;> cases k <;> simp [PySem.Spec.same] <;> omega
theorem mt_countB {X : Cx} : MtR X "list.count" (rCountB X.K) := by
  intro pins s σ H x xs v us Q I rx rxs h
  obtain ⟨p, bs, k, rfl, rfl, hs, q⟩ := h
  cases rx
  obtain ⟨u, rfl, ru⟩ := rxs.one
  cases ru
  obtain ⟨its, rv, hl, hlen⟩ := I.list hs
  obtain rfl := Vals.bls rv
  obtain ⟨as, ra⟩ := reads_bools (h := s.heap) bs
  refine PyProof.Rows.count_list_bools hl.isList ra (by simp; exact ⟨fun _ => rfl, fun _ => rfl⟩) ?_
  rw [count_bools]
  exact ⟨.int (bs.count k : Nat), H, I.tok _, ⟨_, rfl⟩, q⟩
end
end Sb

set_option Elab.async false
set_option maxRecDepth 100000
set_option maxHeartbeats 4000000
set_option linter.all false
/-! A def that is called out of an except suite and gets the error that the suite holds; a make within a try. -/
namespace Sb
open PySem PySem.Spec PyProof.Rows L2
/-- a def's promise where the object of the pair p is pinned -/
structure FnP (P : Program) (w : World) (K : Frag) (mg : Str → Option Value) (base : Heap) (CX : CXT) (k : Nat) (p : Addr × Obj) (f : Addr) (fd : FuncData) (ps : List Str) (sp : Sp) : Prop where
  len : ∀ (vs : List V) (H : Hp) (Q : VK) (E : XK), sp vs H Q E → vs.length = ps.length
  run : ∀ {A : Around} {outer : List Env} {s : Shared} {H : Hp} {args : Args} {us : List Value} {vs : List V} {Q : VK} {E : XK}, L2H.RoomH k A → L2H.PinOk outer H s p → Env0 P w K mg base A outer s H →
    BindsTo s fd args (ps.zip us) → Vals vs us → sp vs H Q E → codeAny (model P w) A (.call (.ref f) args) (CR CX outer P w H s Q E) s
section
variable {P : Program} {w : World} {K : Frag} {mg : Str → Option Value} {base : Heap} {CX : CXT}
theorem _root_.L2.Fun.okP {x qual : Str} {st : Stmt} {f : Addr} {fd : FuncData} {N ps : List Str} {k : Nat} {sp : Sp} {p : Addr × Obj} (F : Fun K x qual st f fd) (S : FnScope N ps (defScope st)) (len : ∀ (vs : List V) (H : Hp) (Q : VK) (E : XK), sp vs H Q E → vs.length = ps.length)
    (body : ∀ (cdv : Value) (A : Around) (outer : List Env) (s : Shared) (H : Hp) (vs : List V) (Q : VK) (E : XK), L2H.RoomH k (A.deeper (envOfC qual (defScope st) s.heap.objs.size f cdv)) → sp vs H Q E →
      ∃ t, PSs (L2H.cxH CX P w K mg base N qual (defScope st) f cdv A outer s H E p) (defBody st) t ∧ t { nx := fun _ H' => Q .non H', rt := Q } (L2.start N vs) H) : FnP P w K mg base CX (k + 1) p f fd ps sp := by
  obtain ⟨oc, od, kV, doc, pm, an, cdv, ct, osl, rfl, lk, hcd⟩ := F.ex
  refine ⟨len, ?_⟩
  intro A outer s H args us vs Q E room pin e0 hbind rel hsp
  have inK : K.In s.heap := e0.mod.kin.keeps fun b o e => (e0.bs b o e).1
  have nolim : s.heap.NoLimit := e0.mod.nolimit.keeps fun b o e => (e0.bs b o e).1
  have kinds : ∀ y ∈ ps.zip us, (defScope st).names.lookup y.1 = some .local ∨ ((defScope st).names.lookup y.1 = some .cell ∧ ((cellsFrom (s.heap.objs.size + 1) (defScope st).names []).lookup y.1).isSome = true) := by
    rintro ⟨n, u⟩ hy
    have hn := (List.of_mem_zip hy).1
    exact (S.par n hn).imp id fun q => ⟨q, PySem.W.cellsFrom_some _ _ _ (.inl q)⟩
  obtain ⟨t, ht, hq⟩ := body cdv A outer s H vs Q E (room.deeper _) hsp
  refine codeAny_call_function room.depth (inK _ _ lk) rfl S.co S.gen rfl (PySem.W.codeRec_of inK hcd) (hbind _ _ _ _ ?_)
  refine wpAny_newFunctionEnv_cells S.kind kinds fun env he s1 new => ?_
  subst he
  refine ⟨nolim.keeps new.toInCall.keep, codeAny_func ?_⟩
  have I := L2H.inv_startH (CX := CX) (E := E) S pin e0 (len _ _ _ _ hsp) rel new
  refine wpAny_mono (ht.run [] s1 _ H _ I hq) ?_ fun e s' z => z
  intro fl s' z
  cases fl with
  | ret u =>
    obtain ⟨v, σ', H', J, rv, q⟩ := z
    exact ⟨v, H', J.os, J.bare, J.base, J.hok, rv, q⟩
  | next =>
    obtain ⟨σ', H', J, q⟩ := z
    exact ⟨.non, H', J.os, J.bare, J.base, J.hok, rfl, q⟩
  | brk => exact z.elim fun _ z => z.elim fun _ z => False.elim z.2
  | cont => exact z.elim fun _ z => z.elim fun _ z => False.elim z.2
end
/-- .. its call -/
theorem pe_callP {X : Cx} {CX : CXT} {k : Nat} {p : Addr × Obj} {f : Addr} {fd : FuncData} {ps : List Str} {sp : Sp} {E : XK} {x : Str} {q pos : Pos} {e : Expr} {es : List Expr} {t : TA} (F : FnP X.prog X.w X.K X.mg X.base CX k p f fd ps sp) (hr : L2H.RoomH k X.A) (hp : p ∈ X.pn)
    (hg : Gl X x) (hm : X.mg x = some (.ref f)) (hk : PySem.W.keepIn X.K (.ref f) = true) (hb : Binds X.K fd ps []) (hx : Passes CX X E) (ha : PA X (e :: es) t)
    (hd : (x == ("__debug__" : Str)) = false := by decide) (hst : starEach (e :: es) X.env = (false, eval e X.env) :: starEach es X.env := by rfl) (hpl : (backTo pos (starEach es X.env)).any (·.1) = false := by rfl) :
    PE X (.Call (.Name x q) (e :: es) [] pos) (tCallS sp (fun _ => E) t) := by
  refine ⟨fun pins s σ H Q I h => wpAny_Call_Name_kw (ld_glob I hg hm ?_ hd)⟩
  refine PySem.W.callWith_K (h₀ := X.base) I.ok.mod.kin hk (thn (ha.run pos pins s σ H _ I h) ?_) hst hpl
  rintro us s1 ⟨vs, H1, I1, r, hsp⟩
  refine ⟨I1.kIn, ?_⟩
  have hl : us.length = ps.length := r.length.symm.trans (F.len _ _ _ _ hsp)
  have bnd := hb s1 us I1.kIn (by rw [List.append_nil]; exact hl)
  rw [List.append_nil] at bnd
  have at_ := I1.pin p (List.mem_append_left _ hp)
  have pin : L2H.PinOk X.stack H1 s1 p := ⟨at_.1, at_.2.1, fun z => (List.mem_cons.mp (I1.stkSub p.1 z)).elim at_.2.2.1 at_.2.2.2.1, at_.2.2.2.2⟩
  refine wpAny_call (codeAny_mono (F.run (args := ⟨us, []⟩) hr pin I1.env0 bnd r hsp) ?_)
  intro res s' hq
  cases res with
  | error er => exact hx pins σ H1 s1 er s' I1 hq
  | ok fl =>
    cases fl with
    | ret u => exact I1.after hq
    | next => exact hq.elim
    | brk => exact hq.elim
    | cont => exact hq.elim
/-- isinstance of the pinned error -/
theorem call_isP {X : Cx} {ae : Addr} {cls : Value} {dd : Option Addr} {oe : Obj} (hz : Zc cls dd oe) (hf : ∃ vs, oe.data = .fields vs) (hp : (ae, oe) ∈ X.pn) : CallR X (.builtin "isinstance") (rIsX X.K cls dd ae) := by
  intro pins s σ H xs us Q I r h
  obtain ⟨D, rfl, rfl, C, c, cv, b, rfl, hcv, e, q⟩ := h
  cases r with
  | cons rx rr =>
    cases rr with
    | cons rt rz =>
      cases rz
      cases rx
      cases hcv _ rt
      have hget := (I.pin (ae, oe) (List.mem_append_left _ hp)).1
      have inst : PySem.W.InstAt s.heap ae oe D none := by
        obtain ⟨vs, hv⟩ := hf
        obtain ⟨oc, od, oda, osl⟩ := oe
        obtain ⟨z1, z2⟩ := hz
        dsimp only at z1 z2 hv
        subst z1 z2 hv
        exact ⟨hget, rfl, rfl, trivial⟩
      have kit := PySem.W.handS_kitx_exc (x := ae) (ox := oe) C.hg C.hk C.hs C.hd C.ha C.hn C.ht C.hm
      exact PySem.W.kia_one (kit) I.kIn inst e (fun z => nomatch z) fun tk => ⟨.bl b, H, I.kept (t' := tk) (fun _ _ z => z), rfl, q⟩
/-- a make within a try: what is let out goes to the try, whatever the slots hold -/
theorem passW (n : Nat) {X : Cx} {W : WX} (tk : Takes X W) (hn : X.N.length = n) : Passes (L2.CX X.prog X.w) X (fun cls d H => ∀ σ : L2.St, σ.length = n → W cls d σ H) := fun pins σ H s e s' I c =>
  tk e s' (XE.of_call I (fun cls d H' h => h σ (by rw [I.len]; exact hn)) c)
theorem roomH_mark {k : Nat} {A : Around} {v : Option Value} (r : Room k A) : L2H.RoomH k (A.mark v) := ⟨r.dp, r.un⟩
end Sb

namespace Sb
open PySem PySem.Spec PyProof.Rows PySem.SeqAt L2
/-! an instance (or None) beside a text -/
theorem str_eq_ins (b : Str) (u : Tok) (x C dx : Addr) : Meets (Builtin.«str.__eq__» ⟨[.str b u, .ref x], []⟩) (fun _ R s => s.heap.get? x = some (PySem.W.instObj C dx) ∧ R (.ok (.ret .notImplemented)) s) := .of_wp fun prog w A R s h => by
  obtain ⟨hp, g, d, tk, os⟩ := s
  obtain ⟨hl, h⟩ := h
  unfold PySem.W.instObj at hl
  wp_walk using wpAny_loadPart' hl, wpAny_load hl
  exact ⟨_, rfl, h⟩
section
variable {M : Model} {prog : Program} {w : World} {A : Around} {E : Value → Shared → Prop} {s : Shared} {K : Frag} {x C dx : Addr} {od : Option Obj} {b : Str} {u : Tok}
theorem same_str {R : Bool → Shared → Prop} (h : R false s) : wpAny M A (isSame (.ref x) (.str b u)) R E s := wpAny_of_eq (rfl : isSame (.ref x) (.str b u) = pure false) h
theorem obj_eq_str {Q : Fin → Shared → Prop} (hq : Q (.done (.ret .notImplemented)) s) : wpAny M A (Builtin.«object.__eq__» ⟨[.ref x, .str b u], []⟩) Q E s := by
  unfold Builtin.«object.__eq__»
  repeat (first | with_reducible refine same_str ?_ | wp_step)
  exact hq
theorem sub_str_own : PySem.W.subIn K (.type "str") (.ref C) = some false := by
  have e : fastBuiltinMro "str" = some [.type "str", .type "object"] := by decide +kernel
  show (fastBuiltinMro "str").map (·.contains (.ref C)) = some false
  rw [e]
  first
    | rfl
    | simp
/-- x == "..", x an instance of a class without an __eq__ of its own -/
theorem rc_ins_str {Q : Value → Shared → Prop} (room : A.units < cLine) (inK : K.In s.heap) (I : PySem.W.InstAt s.heap x (PySem.W.instObj C dx) C od) (hm : PySem.W.mroIn K C (.type "object") = some true) (hs : PySem.W.findIn K (.ref C) "__eq__" = some (some (.builtin "object.__eq__")))
    (h : Q (.bool false) s) : wpAny (model prog w) A (richCompare .Eq (.ref x) (.str b u)) Q E s := by
  have left : wpAny (model prog w) A (tryCompare (.ref x) "__eq__" (.str b u)) (fun r s' => r = none ∧ s' = s) E s := by
    unfold tryCompare
    refine wpAny_bind (HN.ifBound_objEq inK I hs ?_)
    exact wpAny_call (codeAny_call_builtin F.cmp_object.eq.plain F.cmpEntry_eq (PySem.W.check_slot F.cmpKind_eq F.cmpSplit_eq (I.type.andThen (PySem.W.looks_mroIn inK hm)) (F.cmpArgs_eq _ _) (obj_eq_str (wpAny_pure ⟨rfl, rfl⟩))))
  have right : wpAny (model prog w) A (tryCompare (.str b u) "__eq__" (.ref x)) (fun r s' => r = none ∧ s' = s) E s :=
    wpAny_tryCompare_declines (typeIs_str s b u) F.slot_str_eq_refl (call_meets F.slot_str_eq_refl (typeIs_str s b u) F.entry_str_eq (F.args_str_eq_2 _ _) (str_eq_ins b u x C dx) ⟨I.at_, rfl, rfl, rfl⟩)
  simp only [richCompare, cmpInfo_Eq, oneThing_ref]
  refine wpAny_holding (wpAny_bind (wpAny_cRoomFor room ?_))
  refine wpAny_bind (I.type.here ?_)
  refine wpAny_bind (wpAny_typeOf (typeIs_str s b u) ?_)
  split
  · refine wpAny_bind ((PySem.W.looks_subIn inK sub_str_own).here ?_)
    simp only [Bool.false_eq_true, if_false, Bool.not_false, if_true]
    refine wpAny_bind (m := tryCompare (.ref x) _ (.str b u)) (wpAny_mono left ?_ fun _ _ e => e)
    rintro r s1 ⟨rfl, rfl⟩
    refine wpAny_bind (m := tryCompare (.str b u) _ (.ref x)) (wpAny_mono right ?_ fun _ _ e => e)
    rintro r s2 ⟨rfl, rfl⟩
    exact wpAny_bind (wpAny_rule (wpAny_bind (same_str (wpAny_pure h))))
  · rename_i q
    exact absurd (by simp) q
end
/-- None, or an instance without an __eq__ of its own, beside a text -/
def rEqNS (K : Frag) : R2 := fun x y H Q => (∃ b, y = .str b) ∧ (x = .non ∨ ∃ a C dx fs, x = .ref a ∧ H a = some (.ins C dx fs) ∧ PySem.W.mroIn K C (.type "object") = some true ∧ PySem.W.findIn K (.ref C) "__eq__" = some (some (.builtin "object.__eq__"))) ∧ Q (.bl false) H
theorem op_eqNS {X : Cx} (hu : X.A.units + 64 < cLine) : OpR X (compareOp .Eq) (rEqNS X.K) := by
  intro pins s σ H x y v u Q I rx ry h
  obtain ⟨⟨b, rfl⟩, rfl | ⟨a, C, dx, fs, rfl, ha, hm, hs⟩, q⟩ := h
  · exact op_eq pins s σ H .non (.str b) v u Q I rx ry ⟨rfl, q⟩
  · cases rx
    obtain ⟨t, rfl⟩ := ry
    obtain ⟨mA, O, _⟩ := ins_get I.hok ha
    obtain ⟨od, J, _⟩ := O.look
    have J : PySem.W.InstAt s.heap a (PySem.W.instObj C dx) C (some od) := J
    exact rc_ins_str (by omega) I.kIn J hm hs ⟨.bl false, H, I, rfl, q⟩
end Sb

namespace Sb
open PySem L2
def cell (ns : List Int) (k : Nat) : Int := ns.getD k 0
def sp_cell (K : Frag) : Sp := fun vs H Q _ => ∃ (b : Addr) (ns : List Int) (k : Nat), vs = [.ref b, .int k] ∧ SqL K H b (ns.map V.int) ∧ Q (.int (cell ns k)) H
section
variable {P : Program} {w : World} {K : Frag} {mg : Str → Option Value} {base : Heap} {a : Ad}
local macro_rules | `(tactic| walk_at "e1") => `(tactic| first
  | ((with_reducible refine' w_var ?wh ?_); (case wh => rfl))
  | with_reducible refine w_c ?_
  | with_reducible refine w_projn ?_
  | with_reducible refine w_projr ?_
  | with_reducible refine w_op ?_
  | with_reducible refine w_cons ?_
  | with_reducible refine w_nil ?_
  | with_reducible refine w_I0 ?_
  | ((with_reducible refine w_I ?wc ?_); (case wc => first | (show (0 : Int) < _; decide) | exact ⟨by decide, by decide⟩ | exact ⟨by decide, by decide, by decide⟩ | exact Or.inr ⟨by decide, by decide⟩ | exact Or.inl ⟨by decide, by decide⟩ | (show (0 : Int) < _; omega) | exact ⟨by omega, by omega⟩))
  | with_reducible refine w_bl ?_
  | with_reducible refine w_test ?_
  | with_reducible refine w_tB ?_
  | with_reducible refine w_set ?_
  | with_reducible refine w_ifS ?_
  | with_reducible refine w_if ?_
  | with_reducible refine w_or ?_
  | with_reducible refine w_and ?_
  | with_reducible refine w_not ?_
  | with_reducible refine w_orV ?_
  | with_reducible refine w_andV ?_
  | with_reducible refine w_notV ?_
  | with_reducible refine w_ret ?_
  | with_reducible refine w_retN ?_
  | with_reducible refine w_drop ?_
  | with_reducible refine w_next ?_
  | with_reducible refine w_un ?_
  | with_reducible refine w_CB ?_
  | with_reducible refine w_call ?_
  | with_reducible refine w_callS ?_
  | with_reducible refine w_gName ?_
  | with_reducible refine w_asg ?_
  | with_reducible refine w_tTup ?_
  | with_reducible refine w_tLst ?_
  | with_reducible refine w_lc ?_
  | with_reducible refine w_iRng1 ?_
  | with_reducible refine w_iRng2 ?_
  | with_reducible refine w_iList ?_
  | with_reducible refine w_iTup ?_
  | with_reducible refine w_for ?_
  | with_reducible refine w_chain ?_
  | with_reducible refine w_sl ?_
  | with_reducible refine w_part ?_
  | with_reducible refine w_nopart ?_
  | with_reducible refine w_exint ?_
  | with_reducible refine w_dput ?_
  | with_reducible refine w_gSub ?_
  | with_reducible refine w_sFld ?_
  | with_reducible refine w_dget2 ?_
  | with_reducible refine w_dget ?_
  | with_reducible refine w_bm ?_
  | with_reducible refine w_isiII ?_
  | with_reducible refine w_isiIB ?_
  | with_reducible refine w_isiBB ?_
  | with_reducible refine w_max ?_
  | ((with_reducible refine w_eq ?we ?_); (case we => rfl))
  | ((with_reducible refine w_ne ?we ?_); (case we => rfl)))
local macro_rules | `(tactic| walk_at "w1") => `(tactic| first | walk_at "e1" | with_reducible refine w_seq ?_)
local macro_rules | `(tactic| walk_at "e") => `(tactic| repeat walk_at "e1")
local macro_rules | `(tactic| walk_at "w") => `(tactic| repeat walk_at "w1")

theorem ok_l_cell_at (T : Txt K mg a) : FnOk P w K mg base (L2.CX P w) 1 a.f_l_cell_at a.d_l_cell_at ["_law_script", "_law_k"] (sp_cell K) := by
  refine T.F_l_cell_at.okX sc_l_cell_at (fun vs H Q E h => ?_) (fun cdv A outer s H vs Q E hr h => ?_)
  · obtain ⟨b, ns, k, rfl, _⟩ := h; rfl
  · obtain ⟨b, ns, k, rfl, hs, q⟩ := h
    refine ⟨_, (pss_cons (ps_if (pt_cmpR op_lt (pv 1) (pe_callB (r := rLen K) cl_len rfl T.n_len (by decide +kernel) (pa_cons (pv 0) pa_nil)) (nomark _)) (pss_one (ps_ret (pe_ix (r := rIxL K) ix_list (pv 0) (pv 1) (fun _ _ => rfl)))) pss_nil)
  (pss_one (ps_ret pe_int))), ?_⟩
    walk_at "w"
    refine w_lenS hs ?_
    walk_at "w"
    rw [List.length_map]
    refine ite2 (fun h1 => ?_) (fun h1 => ?_)
    · have hk : k < ns.length := by have := of_decide_eq_true h1; omega
      walk_at "w"
      refine w_ixS k hs rfl (v := .int (cell ns k)) ?_ ?_
      · unfold cell
        rw [List.getElem?_map, List.getD_eq_getElem?_getD, List.getElem?_eq_getElem hk]; rfl
      · exact q
    · have hk : ¬ k < ns.length := fun z => h1 (decide_eq_true (by omega))
      walk_at "w"
      have e : cell ns k = 0 := by
        unfold cell
        rw [List.getD_eq_getElem?_getD, List.getElem?_eq_none (by omega)]; rfl
      rw [e] at q
      exact q
end
end Sb

namespace Sb
open PySem L2 PyProof.Rows
def sp_l_kind (a : Ad) (cls : Value) (dd : Option Addr) (ae : Addr) : Sp := fun vs H Q _ => vs = [.ref ae] ∧ dd = none ∧ ((cls = .ref a.C_NoKeeper ∧ ∀ H', Same H H' → Q (.str "keeper") H') ∨ (cls = .ref a.C_BadMark ∧ ∀ H', Same H H' → Q (.str "mark") H') ∨ (cls = .ref a.C_BadCount ∧ ∀ H', Same H H' → Q (.str "count") H'))
def sp_l_made (a : Ad) : Sp := fun vs H Q _ => ∃ n : Int, vs = [.int n] ∧ (1 ≤ n ∧ n ≤ 9 → ∀ (x dx : Addr) (fs : List (Str × V)) (H' : Hp), Same H H' → H' x = some (.ins a.C dx fs) → Q (.ref x) H') ∧ (¬ (1 ≤ n ∧ n ≤ 9) → ∀ H', Same H H' → Q .non H')
section
variable {P : Program} {w : World} {K : Frag} {mg : Str → Option Value} {base : Heap} {a : Ad}
local macro_rules | `(tactic| walk_at "e1") => `(tactic| first
  | ((with_reducible refine' w_var ?wh ?_); (case wh => rfl))
  | with_reducible refine w_c ?_
  | with_reducible refine w_projn ?_
  | with_reducible refine w_projr ?_
  | with_reducible refine w_op ?_
  | with_reducible refine w_cons ?_
  | with_reducible refine w_nil ?_
  | with_reducible refine w_I0 ?_
  | ((with_reducible refine w_I ?wc ?_); (case wc => first | (show (0 : Int) < _; decide) | exact ⟨by decide, by decide⟩ | exact ⟨by decide, by decide, by decide⟩ | exact Or.inr ⟨by decide, by decide⟩ | exact Or.inl ⟨by decide, by decide⟩ | (show (0 : Int) < _; omega) | exact ⟨by omega, by omega⟩))
  | with_reducible refine w_bl ?_
  | with_reducible refine w_test ?_
  | with_reducible refine w_tB ?_
  | with_reducible refine w_set ?_
  | with_reducible refine w_ifS ?_
  | with_reducible refine w_if ?_
  | with_reducible refine w_or ?_
  | with_reducible refine w_and ?_
  | with_reducible refine w_not ?_
  | with_reducible refine w_orV ?_
  | with_reducible refine w_andV ?_
  | with_reducible refine w_notV ?_
  | with_reducible refine w_ret ?_
  | with_reducible refine w_retN ?_
  | with_reducible refine w_drop ?_
  | with_reducible refine w_next ?_
  | with_reducible refine w_un ?_
  | with_reducible refine w_CB ?_
  | with_reducible refine w_call ?_
  | with_reducible refine w_callS ?_
  | with_reducible refine w_gName ?_
  | with_reducible refine w_gCons ?_
  | with_reducible refine w_gNil ?_
  | with_reducible refine w_iEnum ?_
  | with_reducible refine w_tMake ?_
  | with_reducible refine w_asg ?_
  | with_reducible refine w_tTup ?_
  | with_reducible refine w_tLst ?_
  | with_reducible refine w_lc ?_
  | with_reducible refine w_iRng1 ?_
  | with_reducible refine w_iRng2 ?_
  | with_reducible refine w_iList ?_
  | with_reducible refine w_iTup ?_
  | with_reducible refine w_for ?_
  | with_reducible refine w_chain ?_
  | with_reducible refine w_sl ?_
  | with_reducible refine w_part ?_
  | with_reducible refine w_nopart ?_
  | with_reducible refine w_exint ?_
  | with_reducible refine w_dput ?_
  | with_reducible refine w_gSub ?_
  | with_reducible refine w_tFld ?_
  | with_reducible refine w_tMeth ?_
  | with_reducible refine w_sFld ?_
  | with_reducible refine w_dget2 ?_
  | with_reducible refine w_dget ?_
  | with_reducible refine w_bm ?_
  | with_reducible refine w_isiII ?_
  | with_reducible refine w_isiIB ?_
  | with_reducible refine w_isiBB ?_
  | with_reducible refine w_max ?_
  | ((with_reducible refine w_eq ?we ?_); (case we => rfl))
  | ((with_reducible refine w_ne ?we ?_); (case we => rfl)))
local macro_rules | `(tactic| walk_at "w1") => `(tactic| first | walk_at "e1" | with_reducible refine w_seq ?_)
local macro_rules | `(tactic| walk_at "e") => `(tactic| repeat walk_at "e1")
local macro_rules | `(tactic| walk_at "w") => `(tactic| repeat walk_at "w1")

theorem ok_l_kind (T : Txt K mg a) {ae : Addr} {oe : Obj} {cls : Value} {dd : Option Addr} (hz : Zc cls dd oe) (hf : ∃ vs, oe.data = .fields vs) : FnP P w K mg base (L2.CX P w) 1 (ae, oe) a.f_l_kind a.d_l_kind ["_law_e"] (sp_l_kind a cls dd ae) := by
  refine T.F_l_kind.okP sc_l_kind (fun vs H Q E h => ?_) (fun cdv A outer s H vs Q E hr h => ?_)
  · obtain ⟨rfl, _⟩ := h; rfl
  · obtain ⟨rfl, ed, h⟩ := h
    refine ⟨_, (pss_cons (ps_set (i := 1) sc_l_kind.nd rfl (Or.inl rfl) (pe_lst (pa_cons (pe_callB (r := rIsX K cls dd ae) (call_isP hz hf (List.mem_singleton.mpr rfl)) rfl T.n_isinstance (by decide +kernel) (pa_cons (pv 0) (pa_cons (pe_glob (v := .ref a.C_NoKeeper) rfl T.g_NoKeeper rfl) pa_nil))) (pa_cons (pe_callB (r := rIsX K cls dd ae) (call_isP hz hf (List.mem_singleton.mpr rfl)) rfl T.n_isinstance (by decide +kernel) (pa_cons (pv 0) (pa_cons (pe_glob (v := .ref a.C_BadMark) rfl T.g_BadMark rfl) pa_nil))) (pa_cons (pe_callB (r := rIsX K cls dd ae) (call_isP hz hf (List.mem_singleton.mpr rfl)) rfl T.n_isinstance (by decide +kernel) (pa_cons (pv 0) (pa_cons (pe_glob (v := .ref a.C_BadCount) rfl T.g_BadCount rfl) pa_nil))) (pa_cons (pe_callB (r := rIsX K cls dd ae) (call_isP hz hf (List.mem_singleton.mpr rfl)) rfl T.n_isinstance (by decide +kernel) (pa_cons (pv 0) (pa_cons (pe_glob (v := .ref a.C_BadNote) rfl T.g_BadNote rfl) pa_nil))) pa_nil))))))
  (pss_cons (ps_if (PW.pt (pw_or (pt_not (pt_val (pe_callB (r := rIsX K cls dd ae) (call_isP hz hf (List.mem_singleton.mpr rfl)) rfl T.n_isinstance (by decide +kernel) (pa_cons (pv 0) (pa_cons (pe_bltn (v := .ty "ValueError") (u := .type "ValueError") rfl T.n_ValueError (by decide +kernel) rfl) pa_nil))))) (pw_or1 (pt_cmpR op_ne (pe_bmK K rfl PySem.F.plainAttrs_list PySem.F.slot_list_count PySem.F.type_list_count (r := rCountB K) mt_countB (pv 1) (pa_cons pe_bl pa_nil)) pe_int (nomark _))))) (pss_one (ps_ret pe_str)) pss_nil)
  (pss_one (ps_ret (pe_ix (r := rIxL K) ix_list (pe_lst (pa_cons pe_str (pa_cons pe_str (pa_cons pe_str (pa_cons pe_str pa_nil))))) (pe_bmK K rfl PySem.F.plainAttrs_list PySem.F.slot_list_index PySem.F.type_list_index mt_index (pv 1) (pa_cons pe_bl pa_nil)) (fun _ _ => rfl)))))), ?_⟩
    subst ed
    have fin : ∀ {kp lp : Addr} {H1 : Hp} (bs : List Bool) (j : Nat) (t : Str), H1 kp = some (.lst (bs.map V.bl)) → H1 lp = none → bs[j]? = some true → (∀ m, m < j → bs[m]? = some false) →
        ([(("keeper" : Str)), "mark", "count", "note"] : List Str)[j]? = some t → Same H H1 → (∀ H', Same H H' → Q (.str t) H') →
        rIndex K (.ref kp) [.bl true] (upd H1 lp (.lst (([("keeper" : Str), "mark", "count", "note"] : List Str).map V.str))) fun i H2 => rIxL K (.ref lp) i H2 Q := fun {kp lp H1} bs j t h1 h2 h3 h4 h5 s q => by
      refine ⟨kp, bs.map V.bl, .bl true, j, .bl true, rfl, rfl, SqL.of (by rw [upd_ne (ne_of_none h1 h2)]; exact h1), rfl, ?_, by rw [List.getElem?_map, h3]; rfl, rfl, fun m z hm hz => ?_, ?_⟩
      · exact List.all_eq_true.mpr fun v hv => by
          obtain ⟨b, _, rfl⟩ := List.mem_map.mp hv
          rfl
      · rw [List.getElem?_map, h4 m hm] at hz
        cases hz
        rfl
      · exact w_ixS j (SqL.of upd_same) rfl (by rw [List.getElem?_map, h5]; rfl) (q _ fun b o e => by rw [upd_ne (ne_of_none (s b o e) h2)]; exact s b o e)
    rcases h with ⟨rfl, q⟩ | ⟨rfl, q⟩ | ⟨rfl, q⟩
    · walk_at "w"
      refine w_isXR T.e_NoKeeper (kit_ref T.h_NoKeeper T.t_NoKeeper T.s_NoKeeper_NoKeeper fun _ => rfl) ?_
      walk_at "w"
      refine w_isXR T.e_NoKeeper (kit_no T.h_BadMark T.t_BadMark T.s_NoKeeper_BadMark T.s_BadMark_BadMark) ?_
      walk_at "w"
      refine w_isXR T.e_NoKeeper (kit_no T.h_BadCount T.t_BadCount T.s_NoKeeper_BadCount T.s_BadCount_BadCount) ?_
      walk_at "w"
      refine w_isXR T.e_NoKeeper (kit_no T.h_BadNote T.t_BadNote T.s_NoKeeper_BadNote T.s_BadNote_BadNote) ?_
      walk_at "w"
      refine ⟨by decide, fun kp hk => ?_⟩
      walk_at "w"
      refine w_isXV T.e_NoKeeper T.v_NoKeeper ?_
      walk_at "w"
      refine iteF ?_
      walk_at "w"
      refine ⟨ty_lst (SqL.of upd_same), ?_⟩
      walk_at "w"
      refine ⟨kp, [true, false, false, false], true, rfl, rfl, SqL.of upd_same, ?_⟩
      walk_at "w"
      refine iteF ?_
      walk_at "w"
      refine ⟨by decide, fun lp hl => ?_⟩
      walk_at "w"
      refine ⟨ty_lst (SqL.of (by rw [upd_ne (ne_of_none upd_same hl)]; exact upd_same)), ?_⟩
      walk_at "w"
      exact fin [true, false, false, false] 0 "keeper" upd_same hl rfl (fun m hm => absurd hm (Nat.not_lt_zero m)) rfl (Same.new hk) q
    · walk_at "w"
      refine w_isXR T.e_BadMark (kit_no T.h_NoKeeper T.t_NoKeeper T.s_BadMark_NoKeeper T.s_NoKeeper_NoKeeper) ?_
      walk_at "w"
      refine w_isXR T.e_BadMark (kit_ref T.h_BadMark T.t_BadMark T.s_BadMark_BadMark fun _ => rfl) ?_
      walk_at "w"
      refine w_isXR T.e_BadMark (kit_no T.h_BadCount T.t_BadCount T.s_BadMark_BadCount T.s_BadCount_BadCount) ?_
      walk_at "w"
      refine w_isXR T.e_BadMark (kit_no T.h_BadNote T.t_BadNote T.s_BadMark_BadNote T.s_BadNote_BadNote) ?_
      walk_at "w"
      refine ⟨by decide, fun kp hk => ?_⟩
      walk_at "w"
      refine w_isXV T.e_BadMark T.v_BadMark ?_
      walk_at "w"
      refine iteF ?_
      walk_at "w"
      refine ⟨ty_lst (SqL.of upd_same), ?_⟩
      walk_at "w"
      refine ⟨kp, [false, true, false, false], true, rfl, rfl, SqL.of upd_same, ?_⟩
      walk_at "w"
      refine iteF ?_
      walk_at "w"
      refine ⟨by decide, fun lp hl => ?_⟩
      walk_at "w"
      refine ⟨ty_lst (SqL.of (by rw [upd_ne (ne_of_none upd_same hl)]; exact upd_same)), ?_⟩
      walk_at "w"
      exact fin [false, true, false, false] 1 "mark" upd_same hl rfl (fun m hm => match m, hm with | 0, _ => rfl) rfl (Same.new hk) q
    · walk_at "w"
      refine w_isXR T.e_BadCount (kit_no T.h_NoKeeper T.t_NoKeeper T.s_BadCount_NoKeeper T.s_NoKeeper_NoKeeper) ?_
      walk_at "w"
      refine w_isXR T.e_BadCount (kit_no T.h_BadMark T.t_BadMark T.s_BadCount_BadMark T.s_BadMark_BadMark) ?_
      walk_at "w"
      refine w_isXR T.e_BadCount (kit_ref T.h_BadCount T.t_BadCount T.s_BadCount_BadCount fun _ => rfl) ?_
      walk_at "w"
      refine w_isXR T.e_BadCount (kit_no T.h_BadNote T.t_BadNote T.s_BadCount_BadNote T.s_BadNote_BadNote) ?_
      walk_at "w"
      refine ⟨by decide, fun kp hk => ?_⟩
      walk_at "w"
      refine w_isXV T.e_BadCount T.v_BadCount ?_
      walk_at "w"
      refine iteF ?_
      walk_at "w"
      refine ⟨ty_lst (SqL.of upd_same), ?_⟩
      walk_at "w"
      refine ⟨kp, [false, false, true, false], true, rfl, rfl, SqL.of upd_same, ?_⟩
      walk_at "w"
      refine iteF ?_
      walk_at "w"
      refine ⟨by decide, fun lp hl => ?_⟩
      walk_at "w"
      refine ⟨ty_lst (SqL.of (by rw [upd_ne (ne_of_none upd_same hl)]; exact upd_same)), ?_⟩
      walk_at "w"
      exact fin [false, false, true, false] 2 "count" upd_same hl rfl (fun m hm => match m, hm with | 0, _ => rfl | 1, _ => rfl) rfl (Same.new hk) q
theorem ok_l_made (T : Txt K mg a) : FnOk P w K mg base (L2.CX P w) 4 a.f_l_made a.d_l_made ["_law_many"] (sp_l_made a) := by
  refine T.F_l_made.okX sc_l_made (fun vs H Q E h => ?_) (fun cdv A outer s H vs Q E hr h => ?_)
  · obtain ⟨n, rfl, _⟩ := h; rfl
  · obtain ⟨n, rfl, q1, q2⟩ := h
    refine ⟨_, (pss_cons (ps_try_as (i := 1) rfl rfl sc_l_made.nd rfl rfl ⟨rfl, by decide, .inl T.g_ShelfError⟩ takes0 (fun W pn xe tk ow => (pss_one (ps_ret (pe_make T.mks (ok_S_init T) (hr.mono (by decide)) rfl T.g_Store T.b_S_init .nil (passW 2 tk rfl) (pa_cons (pv 0) pa_nil))))) (fun ae oe cls dd pn hz hf => (pss_one (ps_if (pt_cmpR op_eq (pe_callP (ok_l_kind T hz hf) (roomH_mark (hr.mono (by decide))) List.mem_cons_self rfl T.g_l_kind T.k_l_kind T.b_l_kind passL (pa_cons (pv 1) pa_nil)) pe_str (nomark _)) (pss_one (ps_ret pe_non)) pss_nil))))
  (pss_one (ps_ret pe_str))), ?_⟩
    walk_at "w"
    intro x dx hx hdx ne
    have s0 : Same H (upd (upd H dx (.own x)) x (.ins a.C dx [])) := fun b o e => by
      rw [upd_ne (ne_of_none e hx), upd_ne (ne_of_none e hdx)]; exact e
    refine ⟨x, dx, n, rfl, upd_same, fun hn ds H' bt S hd => ⟨rfl, ?_⟩, fun hn => ?_⟩
    · obtain ⟨p, dx', l, vf, ev, h1, _⟩ := S.obj
      cases ev
      exact q1 hn _ _ _ _ (fun b o e => bt b o (ne_of_none e hx) (s0 b o e)) h1
    · intro σ hσ
      obtain ⟨u0, u1, rfl⟩ : ∃ u0 u1, σ = [u0, u1] := by
        match σ, hσ with
        | [u0, u1], _ => exact ⟨u0, u1, rfl⟩
      refine ⟨true, PySem.W.exm_ref T.b_ShelfError T.h_ShelfError T.t_ShelfError T.s_BadCount_ShelfError, fun _ ae ha => ?_, fun z => nomatch z⟩
      walk_at "w"
      refine ⟨rfl, rfl, .inr (.inr ⟨rfl, fun H2 s2 => ?_⟩)⟩
      walk_at "w"
      refine iteT ?_
      walk_at "w"
      exact q2 hn _ (Same.trans s0 s2)
end
end Sb

namespace Sb
open PySem L2 PyProof.Rows
abbrev NoM : Addr → Prop := fun _ => False
section
variable {K : Frag} {M : Addr → Prop} {H : Hp} {x y : V} {m : List Int} {ds es : List PyData} {Q : VK}
theorem w_slFrom (h : Rp M H x (markD m)) {i : Int} (j : Nat) (ei : i = j) (h1 : 1 ≤ j) (hl : j ≤ m.length) (q : ∀ v H2, Same H H2 → Rp NoM H2 v (.tuple ((m.drop j).map PyData.int)) → Q v H2) : rSlT K x (some i) none H Q := by
  subst ei
  obtain ⟨a, xs, rfl, ha, r⟩ := Rp.tup_inv (ds := m.map PyData.int) h
  rw [r.ints_inv] at ha
  have e1 : HT.sIx (m.map V.int).length 0 (some (j : Int)) = j := by rw [HT.sIx_nat, List.length_map]; omega
  have e2 : HT.sIx (m.map V.int).length (m.map V.int).length none = m.length := by rw [HT.sIx_none, List.length_map]
  refine ⟨a, _, rfl, SqT.of ha, fun z => by rw [e1] at z; omega, fun p hp => q _ _ (Same.new hp) ?_⟩
  have e3 : cutV (m.map V.int) (some (j : Int)) none = (m.drop j).map V.int := by
    unfold cutV
    rw [e1, e2, List.take_of_length_le (by rw [List.length_drop, List.length_map]; omega), List.map_drop]
  rw [e3]
  exact .tupA upd_same RpA.ints
theorem w_slTo (h : Rp M H x (markD m)) {i : Int} (j : Nat) (ei : i = j) (hl : j < m.length) (q : ∀ v H2, Same H H2 → Rp NoM H2 v (.tuple ((m.take j).map PyData.int)) → Q v H2) : rSlT K x none (some i) H Q := by
  subst ei
  obtain ⟨a, xs, rfl, ha, r⟩ := Rp.tup_inv (ds := m.map PyData.int) h
  rw [r.ints_inv] at ha
  have e1 : HT.sIx (m.map V.int).length (m.map V.int).length (some (j : Int)) = j := by rw [HT.sIx_nat, List.length_map]; omega
  have e2 : HT.sIx (m.map V.int).length 0 none = 0 := HT.sIx_none ..
  refine ⟨a, _, rfl, SqT.of ha, fun z => by have z := z.2; rw [e1, List.length_map] at z; omega, fun p hp => q _ _ (Same.new hp) ?_⟩
  have e3 : cutV (m.map V.int) none (some (j : Int)) = (m.take j).map V.int := by
    unfold cutV
    rw [e1, e2, List.drop_zero, List.map_take]; rfl
  rw [e3]
  exact .tupA upd_same RpA.ints
theorem w_catD (h : Rp NoM H x (.tuple ds)) (h' : Rp NoM H y (.tuple es)) (hl : ds.length + es.length ≤ 1000) (q : ∀ v H2, Same H H2 → Rp NoM H2 v (.tuple (ds ++ es)) → Q v H2) : rCatA K x y H Q := by
  obtain ⟨a, xs, rfl, ha, r⟩ := h.tup_inv
  obtain ⟨b, ys, rfl, hb, t⟩ := h'.tup_inv
  refine ⟨a, b, xs, ys, rfl, rfl, SqT.of ha, SqT.of hb, sz_small (by rw [r.1, t.1]; omega), fun e => ?_, fun _ e => ?_, fun _ _ p hp => q _ _ (Same.new hp) (.tupA upd_same ((r.append t).same (Same.new hp)))⟩
  · have e : ds = [] := List.eq_nil_of_length_eq_zero (by rw [← r.1, e]; rfl)
    subst e
    exact q _ _ (Same.refl _) h'
  · have e : es = [] := List.eq_nil_of_length_eq_zero (by rw [← t.1, e]; rfl)
    subst e
    rw [List.append_nil] at q
    exact q _ _ (Same.refl _) h
end
theorem ok_mix {A B : List Int} {z : PyData} (h : flatD z = true) : okMk (.tuple (A.map PyData.int ++ [z] ++ B.map PyData.int)) = true := by
  show (A.map PyData.int ++ [z] ++ B.map PyData.int).all flatD = true
  rw [List.all_append, List.all_append, List.all_map, List.all_map]
  have e : ∀ l : List Int, l.all (flatD ∘ PyData.int) = true := fun l => List.all_eq_true.mpr fun _ _ => rfl
  rw [e, e, List.all_cons, h]; rfl
theorem no_mix {n : Nat} {A B : List PyData} {z : PyData} (h : goodI z = false) : isMk n (.tuple (A ++ [z] ++ B)) = false := by
  show (decide ((A ++ [z] ++ B).length = n) && (A ++ [z] ++ B).all goodI) = false
  rw [List.all_append, List.all_append, List.all_cons, h]
  simp
theorem no_len {n : Nat} {A : List PyData} (h : ¬ A.length = n) : isMk n (.tuple A) = false := by
  show (decide (A.length = n) && A.all goodI) = false
  rw [decide_eq_false h]; rfl
def sp_l_spoilt : Sp := fun vs H Q _ => ∃ (M : Addr → Prop) (x : V) (c : Int) (m : List Int) (n : Nat), vs = [x, .int c] ∧ Rp M H x (markD m) ∧ m.length = n ∧ 1 ≤ n ∧ n ≤ 9 ∧
  ∀ (v' : V) (d : PyData) (H' : Hp), Same H H' → Rp NoM H' v' d → okMk d = true → isMk n d = false → Q v' H'
section
variable {P : Program} {w : World} {K : Frag} {mg : Str → Option Value} {base : Heap} {a : Ad}
local macro_rules | `(tactic| walk_at "e1") => `(tactic| first
  | ((with_reducible refine' w_var ?wh ?_); (case wh => rfl))
  | with_reducible refine w_c ?_
  | with_reducible refine w_projn ?_
  | with_reducible refine w_projr ?_
  | with_reducible refine w_op ?_
  | with_reducible refine w_cons ?_
  | with_reducible refine w_nil ?_
  | with_reducible refine w_I0 ?_
  | ((with_reducible refine w_I ?wc ?_); (case wc => first | (show (0 : Int) < _; decide) | exact ⟨by decide, by decide⟩ | exact ⟨by decide, by decide, by decide⟩ | exact Or.inr ⟨by decide, by decide⟩ | exact Or.inl ⟨by decide, by decide⟩ | (show (0 : Int) < _; omega) | exact ⟨by omega, by omega⟩))
  | with_reducible refine w_bl ?_
  | with_reducible refine w_test ?_
  | with_reducible refine w_tB ?_
  | with_reducible refine w_set ?_
  | with_reducible refine w_ifS ?_
  | with_reducible refine w_if ?_
  | with_reducible refine w_or ?_
  | with_reducible refine w_and ?_
  | with_reducible refine w_not ?_
  | with_reducible refine w_orV ?_
  | with_reducible refine w_andV ?_
  | with_reducible refine w_notV ?_
  | with_reducible refine w_ret ?_
  | with_reducible refine w_retN ?_
  | with_reducible refine w_drop ?_
  | with_reducible refine w_next ?_
  | with_reducible refine w_un ?_
  | with_reducible refine w_CB ?_
  | with_reducible refine w_call ?_
  | with_reducible refine w_callS ?_
  | with_reducible refine w_gName ?_
  | with_reducible refine w_gCons ?_
  | with_reducible refine w_gNil ?_
  | with_reducible refine w_iEnum ?_
  | with_reducible refine w_tMake ?_
  | with_reducible refine w_asg ?_
  | with_reducible refine w_tTup ?_
  | with_reducible refine w_tLst ?_
  | with_reducible refine w_lc ?_
  | with_reducible refine w_iRng1 ?_
  | with_reducible refine w_iRng2 ?_
  | with_reducible refine w_iList ?_
  | with_reducible refine w_iTup ?_
  | with_reducible refine w_for ?_
  | with_reducible refine w_chain ?_
  | with_reducible refine w_sl ?_
  | with_reducible refine w_part ?_
  | with_reducible refine w_nopart ?_
  | with_reducible refine w_exint ?_
  | with_reducible refine w_dput ?_
  | with_reducible refine w_gSub ?_
  | with_reducible refine w_tFld ?_
  | with_reducible refine w_tMeth ?_
  | with_reducible refine w_sFld ?_
  | with_reducible refine w_dget2 ?_
  | with_reducible refine w_dget ?_
  | with_reducible refine w_bm ?_
  | with_reducible refine w_isiII ?_
  | with_reducible refine w_isiIB ?_
  | with_reducible refine w_isiBB ?_
  | with_reducible refine w_max ?_
  | ((with_reducible refine w_eq ?we ?_); (case we => rfl))
  | ((with_reducible refine w_ne ?we ?_); (case we => rfl)))
local macro_rules | `(tactic| walk_at "w1") => `(tactic| first | walk_at "e1" | with_reducible refine w_seq ?_)
local macro_rules | `(tactic| walk_at "e") => `(tactic| repeat walk_at "e1")
local macro_rules | `(tactic| walk_at "w") => `(tactic| repeat walk_at "w1")

theorem ok_l_spoilt (T : Txt K mg a) : FnOk P w K mg base (L2.CX P w) 1 a.f_l_spoilt a.d_l_spoilt ["_law_mark", "_law_cell"] sp_l_spoilt := by
  refine T.F_l_spoilt.okX sc_l_spoilt (fun vs H Q E h => ?_) (fun cdv A outer s H vs Q E hr h => ?_)
  · obtain ⟨M, x, c, m, n, rfl, _⟩ := h; rfl
  · obtain ⟨M, x, c, m, n, rfl, rx, ml, n1, n9, q⟩ := h
    refine ⟨_, (pss_cons (ps_set (i := 2) sc_l_spoilt.nd rfl (Or.inl rfl) (pe_op op_mod (pe_op op_fdiv (pv 1) pe_int) (pe_callB (r := rLen K) cl_len rfl T.n_len (by decide +kernel) (pa_cons (pv 0) pa_nil))))
  (pss_cons (ps_if (pt_cmpR op_eq (pe_op op_mod (pv 1) pe_int) pe_int (nomark _)) (pss_one (ps_ret (pe_callTy (r := rLst K) cl_lst rfl T.n_list (by decide +kernel) (pa_cons (pv 0) pa_nil)))) pss_nil)
  (pss_cons (ps_if (pt_cmpR op_eq (pe_op op_mod (pv 1) pe_int) pe_int (nomark _)) (pss_one (ps_ret (pe_slice (r := rSlT K) sl_tup (pv 0) (po_some pe_int) po_none))) pss_nil)
  (pss_cons (ps_if (pt_cmpR op_eq (pe_op op_mod (pv 1) pe_int) pe_int (nomark _)) (pss_one (ps_ret (pe_op (r := rCatA K) op_catA (pv 0) (pe_tup (pa_cons pe_int pa_nil))))) pss_nil)
  (pss_cons (ps_if (pt_cmpR op_eq (pe_op op_mod (pv 1) pe_int) pe_int (nomark _)) (pss_one (ps_ret (pe_op (r := rCatA K) op_catA (pe_op (r := rCatA K) op_catA (pe_slice (r := rSlT K) sl_tup (pv 0) po_none (po_some (pv 2))) (pe_tup (pa_cons (pe_op op_sub (pe_un un_neg pe_int) (pe_op op_mod (pe_op op_fdiv (pv 1) pe_int) pe_int)) pa_nil))) (pe_slice (r := rSlT K) sl_tup (pv 0) (po_some (pe_op op_add (pv 2) pe_int)) po_none)))) pss_nil)
  (pss_cons (ps_if (pt_cmpR op_eq (pe_op op_mod (pv 1) pe_int) pe_int (nomark _)) (pss_one (ps_ret (pe_op (r := rCatA K) op_catA (pe_op (r := rCatA K) op_catA (pe_slice (r := rSlT K) sl_tup (pv 0) po_none (po_some (pv 2))) (pe_tup (pa_cons (pe_ix (r := rIxL K) ix_list (pe_lst (pa_cons pe_bl (pa_cons pe_bl pa_nil))) (pe_op op_mod (pe_op op_fdiv (pv 1) pe_int) pe_int) (fun _ _ => rfl)) pa_nil))) (pe_slice (r := rSlT K) sl_tup (pv 0) (po_some (pe_op op_add (pv 2) pe_int)) po_none)))) pss_nil)
  (pss_cons (ps_if (pt_cmpR op_eq (pe_op op_mod (pv 1) pe_int) pe_int (nomark _)) (pss_one (ps_ret (pe_op (r := rCatA K) op_catA (pe_op (r := rCatA K) op_catA (pe_slice (r := rSlT K) sl_tup (pv 0) po_none (po_some (pv 2))) (pe_tup (pa_cons (pe_ix (r := rIxL K) ix_list (pe_lst (pa_cons pe_str (pa_cons pe_non pa_nil))) (pe_op op_mod (pe_op op_fdiv (pv 1) pe_int) pe_int) (fun _ _ => rfl)) pa_nil))) (pe_slice (r := rSlT K) sl_tup (pv 0) (po_some (pe_op op_add (pv 2) pe_int)) po_none)))) pss_nil)
  (pss_one (ps_ret (pe_ix (r := rIxL K) ix_list (pe_lst (pa_cons pe_non (pa_cons pe_str (pa_cons pe_int (pa_cons (pe_tup pa_nil) pa_nil))))) (pe_op op_mod (pe_op op_fdiv (pv 1) pe_int) pe_int) (fun _ _ => rfl))))))))))), ?_⟩
    have rx : Rp NoM H x (markD m) := rx.mark
    obtain ⟨j, ej, hj⟩ := mod_nat (c / 7) (show 1 ≤ m.length by omega)
    obtain ⟨g, eg, hg⟩ : ∃ g : Nat, c / 63 % 2 = g ∧ g < 2 := ⟨(c / 63 % 2).toNat, by omega, by omega⟩
    have mix : ∀ (z : V) (dz : PyData) (H1 : Hp), Same H H1 → Rp NoM H1 z dz → flatD dz = true → goodI dz = false → ∀ (xl : V), Rp NoM H1 xl (.tuple ((m.take j).map PyData.int)) → ∀ (Q' : VK), (∀ v' H', Same H H' → Rp NoM H' v' (.tuple ((m.take j).map PyData.int ++ [dz])) → Q' v' H') →
        rNewT [z] H1 fun y H2 => rCatA K xl y H2 Q' := fun z dz H1 s1 rz fz gz xl rl Q' q' => by
      refine w_newT (RpA.nil.cons rz) (by show 1 ≤ sizeLine; decide) fun y H2 s2 r2 => ?_
      refine w_catD (rl.same s2) r2 (by rw [List.length_map, List.length_take, List.length_singleton]; omega) fun v H3 s3 r3 => ?_
      exact q' v H3 (Same.trans s1 (Same.trans s2 s3)) r3
    have fin : ∀ (dz : PyData), flatD dz = true → goodI dz = false → ∀ (v' : V) (H1 : Hp), Same H H1 → Rp NoM H1 v' (.tuple ((m.take j).map PyData.int ++ [dz])) → rSlT K x (some ((j : Int) + 1)) none H1 fun y H2 => rCatA K v' y H2 Q := fun dz fz gz v' H1 s1 r1 => by
      refine w_slFrom (rx.same s1) (j + 1) (by omega) (by omega) (by omega) fun y H2 s2 r2 => ?_
      refine w_catD (r1.same s2) r2 (by rw [List.length_append, List.length_map, List.length_map, List.length_take, List.length_drop, List.length_singleton]; omega) fun v H3 s3 r3 => ?_
      exact q v _ H3 (Same.trans s1 (Same.trans s2 s3)) r3 (ok_mix fz) (no_mix gz)
    walk_at "w"
    refine w_lenM rx ?_
    walk_at "w"
    rw [ej]
    walk_at "w"
    refine ite2 (fun _ => ?_) (fun _ => ?_)
    · walk_at "w"
      refine w_listT (fun _ _ z => z) rx fun v H1 s1 r1 => ?_
      exact q v _ H1 s1 r1 rfl rfl
    walk_at "w"
    refine ite2 (fun _ => ?_) (fun _ => ?_)
    · walk_at "w"
      refine w_slFrom rx 1 rfl (Nat.le_refl _) (by omega) fun v H1 s1 r1 => ?_
      exact q v _ H1 s1 r1 (okMk_mark _) (no_len (by rw [List.length_map, List.length_drop]; omega))
    walk_at "w"
    refine ite2 (fun _ => ?_) (fun _ => ?_)
    · walk_at "w"
      refine w_newT (M := NoM) (ds := [PyData.int 0]) (RpA.nil.cons (.int 0)) (by show 1 ≤ sizeLine; decide) fun y H2 s2 r2 => ?_
      walk_at "w"
      refine w_catD (rx.same s2) r2 (by rw [List.length_map, List.length_singleton]; omega) fun v H3 s3 r3 => ?_
      refine q v _ H3 (Same.trans s2 s3) r3 ?_ (no_len (by rw [List.length_append, List.length_map, List.length_singleton]; omega))
      have := okMk_mark (m ++ [0])
      unfold markD at this
      rw [List.map_append] at this
      exact this
    walk_at "w"
    refine ite2 (fun _ => ?_) (fun _ => ?_)
    · walk_at "w"
      refine w_slTo rx j rfl (by omega) fun xl H1 s1 rl => ?_
      walk_at "w"
      refine ⟨_, rfl, ?_⟩
      walk_at "w"
      refine mix (.int _) (.int _) H1 s1 (.int _) rfl ?_ xl rl _ fun v' H' s' r' => ?_
      · show decide (0 ≤ _) = false
        exact decide_eq_false (by omega)
      walk_at "w"
      refine fin (.int _) rfl ?_ v' H' s' r'
      show decide (0 ≤ _) = false
      exact decide_eq_false (by omega)
    walk_at "w"
    refine ite2 (fun _ => ?_) (fun _ => ?_)
    · walk_at "w"
      refine w_slTo rx j rfl (by omega) fun xl H1 s1 rl => ?_
      walk_at "w"
      refine w_newL (M := NoM) (ds := [PyData.bool true, PyData.bool false]) (fun _ _ z => z) (RpA.nil.cons (.bl false) |>.cons (.bl true)) (by show 2 ≤ sizeLine; decide) fun v2 H2 s2 r2 => ?_
      walk_at "w"
      rw [eg]
      obtain ⟨bb, hbb⟩ : ∃ bb, [PyData.bool true, PyData.bool false][g]? = some (.bool bb) := by
        rcases (show g = 0 ∨ g = 1 by omega) with rfl | rfl
        · exact ⟨true, rfl⟩
        · exact ⟨false, rfl⟩
      refine w_ixL g r2 rfl hbb fun v3 r3 => ?_
      walk_at "w"
      refine mix _ (.bool bb) H2 (Same.trans s1 s2) r3 rfl rfl xl (rl.same s2) _ fun v' H' s' r' => ?_
      walk_at "w"
      exact fin _ rfl rfl v' H' s' r'
    walk_at "w"
    refine ite2 (fun _ => ?_) (fun _ => ?_)
    · walk_at "w"
      refine w_slTo rx j rfl (by omega) fun xl H1 s1 rl => ?_
      walk_at "w"
      refine w_newL (M := NoM) (ds := [PyData.str "0", PyData.none]) (fun _ _ z => z) (RpA.nil.cons .non |>.cons (.str _)) (by show 2 ≤ sizeLine; decide) fun v2 H2 s2 r2 => ?_
      walk_at "w"
      rw [eg]
      obtain ⟨dz, hdz, f1, f2⟩ : ∃ dz, [PyData.str "0", PyData.none][g]? = some dz ∧ flatD dz = true ∧ goodI dz = false := by
        rcases (show g = 0 ∨ g = 1 by omega) with rfl | rfl
        · exact ⟨_, rfl, rfl, rfl⟩
        · exact ⟨_, rfl, rfl, rfl⟩
      refine w_ixL g r2 rfl hdz fun v3 r3 => ?_
      walk_at "w"
      refine mix _ dz H2 (Same.trans s1 s2) r3 f1 f2 xl (rl.same s2) _ fun v' H' s' r' => ?_
      walk_at "w"
      exact fin _ f1 f2 v' H' s' r'
    walk_at "w"
    refine w_newT (M := NoM) (ds := []) RpA.nil (Nat.zero_le _) fun y H2 s2 r2 => ?_
    walk_at "w"
    refine w_newL (M := NoM) (ds := [PyData.none, PyData.str "0", PyData.int 0, .tuple []]) (fun _ _ z => z) (RpA.nil.cons r2 |>.cons (.int 0) |>.cons (.str _) |>.cons .non) (by show 4 ≤ sizeLine; decide) fun v3 H3 s3 r3 => ?_
    walk_at "w"
    obtain ⟨g4, eg4, hg4⟩ : ∃ g : Nat, c / 7 % 4 = g ∧ g < 4 := ⟨(c / 7 % 4).toNat, by omega, by omega⟩
    rw [eg4]
    obtain ⟨dz, hdz, f1, f2⟩ : ∃ dz, [PyData.none, PyData.str "0", PyData.int 0, .tuple []][g4]? = some dz ∧ okMk dz = true ∧ isMk n dz = false := by
      rcases (show g4 = 0 ∨ g4 = 1 ∨ g4 = 2 ∨ g4 = 3 by omega) with rfl | rfl | rfl | rfl
      · exact ⟨_, rfl, rfl, rfl⟩
      · exact ⟨_, rfl, rfl, rfl⟩
      · exact ⟨_, rfl, rfl, rfl⟩
      · exact ⟨_, rfl, rfl, no_len (by show ¬ 0 = n; omega)⟩
    refine w_ixL g4 r3 rfl hdz fun v4 r4 => ?_
    exact q v4 dz H3 (Same.trans s2 s3) r4 f1 f2
end
end Sb

namespace Sb
open PySem L2 PyProof.Rows
structure A06 (a : Ad) (H : Hp) (M : Addr → Prop) (ds : List Addr) (n : Nat) (f : Nat → Shelf) (v x y : V) (d : PyData) (sh : Shelf) : Prop where
  fr : Fr M H
  S : OneAt M H a.C v ds n "k" f
  n9 : n ≤ 9
  rx : Rp NoM H x d
  okd : okMk d = true
  ry : ∀ M', Rp M' H y (letterD "k" sh)
  oks : ShOk n sh
  okf : ∀ k, k < n → ShOk n (f k)
def sp_l_asked (a : Ad) : Sp := fun vs H Q E => ∃ (M : Addr → Prop) (ds : List Addr) (n : Nat) (f : Nat → Shelf) (v x y : V) (d : PyData) (sh : Shelf) (sort keeper : Int), vs = [v, .int sort, .int keeper, x, y] ∧ A06 a H M ds n f v x y d sh ∧
  (¬ (0 ≤ keeper ∧ keeper < n) → E (.ref a.C_NoKeeper) none H) ∧ (0 ≤ keeper ∧ keeper < n → (sort = 1 ∨ sort = 2) → isMk n d = false → ∀ H', Same H H' → E (.ref a.C_BadMark) none H') ∧
  (0 ≤ keeper ∧ keeper < n → ((sort = 1 ∨ sort = 2) → isMk n d = true) → ∀ H', Q .non H')
def sp_l_refusal6 (a : Ad) : Sp := fun vs H Q _ => ∃ (M : Addr → Prop) (ds : List Addr) (n : Nat) (f : Nat → Shelf) (v x y : V) (d : PyData) (sh : Shelf) (sort keeper : Int), vs = [v, .int sort, .int keeper, x, y] ∧ A06 a H M ds n f v x y d sh ∧
  (¬ (0 ≤ keeper ∧ keeper < n) → ∀ H', Same H H' → Q (.str "keeper") H') ∧ (0 ≤ keeper ∧ keeper < n → (sort = 1 ∨ sort = 2) → isMk n d = false → ∀ H', Same H H' → Q (.str "mark") H') ∧
  (0 ≤ keeper ∧ keeper < n → ((sort = 1 ∨ sort = 2) → isMk n d = true) → ∀ H', Q (.str "none") H')
def stateD (n : Nat) (f : Nat → Shelf) : List PyData := (List.range n).map (fun k => lookD (f k)) ++ (List.range n).map fun k => keysD (oneKeys "k" (f k))
def sp_l_state (a : Ad) : Sp := fun vs H Q _ => ∃ (M : Addr → Prop) (ds : List Addr) (n : Nat) (f : Nat → Shelf) (v : V), vs = [v, .int n] ∧ Fr M H ∧ OneAt M H a.C v ds n "k" f ∧ n ≤ 9 ∧ (∀ k, k < n → ShOk n (f k)) ∧
  ∀ v' H', Same H H' → Rp (Old H) H' v' (.list (stateD n f)) → Q v' H'
theorem sh_keys1 (key : Str) (h : PyData.strOk key = true) (s : Shelf) : Sh 1 (keysD (oneKeys key s)) := sh_strs fun x hx => by
  unfold oneKeys at hx
  split at hx
  · cases hx
  · rw [List.mem_singleton] at hx; subst hx; exact h
theorem sh_state (n : Nat) (f : Nat → Shelf) : Sh 3 (.list (stateD n f)) := .list fun d h => by
  rcases List.mem_append.mp h with h | h
  · obtain ⟨k, _, rfl⟩ := List.mem_map.mp h
    exact sh_look _
  · obtain ⟨k, _, rfl⟩ := List.mem_map.mp h
    exact (sh_keys1 "k" (by decide +kernel) _).mono (by decide)
theorem Rp.lst_at {M : Addr → Prop} {H : Hp} {p : Addr} {ds : List PyData} (h : Rp M H (.ref p) (.list ds)) : ∃ xs, H p = some (.lst xs) ∧ RpA M H xs ds := by
  obtain ⟨a, xs, e, _, ha, r⟩ := h.lst_inv
  cases e
  exact ⟨xs, ha, r⟩
section
variable {P : Program} {w : World} {K : Frag} {mg : Str → Option Value} {base : Heap} {a : Ad}
local macro_rules | `(tactic| walk_at "e1") => `(tactic| first
  | ((with_reducible refine' w_var ?wh ?_); (case wh => rfl))
  | with_reducible refine w_c ?_
  | with_reducible refine w_projn ?_
  | with_reducible refine w_projr ?_
  | with_reducible refine w_op ?_
  | with_reducible refine w_cons ?_
  | with_reducible refine w_nil ?_
  | with_reducible refine w_I0 ?_
  | ((with_reducible refine w_I ?wc ?_); (case wc => first | (show (0 : Int) < _; decide) | exact ⟨by decide, by decide⟩ | exact ⟨by decide, by decide, by decide⟩ | exact Or.inr ⟨by decide, by decide⟩ | exact Or.inl ⟨by decide, by decide⟩ | (show (0 : Int) < _; omega) | exact ⟨by omega, by omega⟩))
  | with_reducible refine w_bl ?_
  | with_reducible refine w_test ?_
  | with_reducible refine w_tB ?_
  | with_reducible refine w_set ?_
  | with_reducible refine w_ifS ?_
  | with_reducible refine w_if ?_
  | with_reducible refine w_or ?_
  | with_reducible refine w_and ?_
  | with_reducible refine w_not ?_
  | with_reducible refine w_orV ?_
  | with_reducible refine w_andV ?_
  | with_reducible refine w_notV ?_
  | with_reducible refine w_ret ?_
  | with_reducible refine w_retN ?_
  | with_reducible refine w_drop ?_
  | with_reducible refine w_next ?_
  | with_reducible refine w_un ?_
  | with_reducible refine w_CB ?_
  | with_reducible refine w_call ?_
  | with_reducible refine w_callS ?_
  | with_reducible refine w_gName ?_
  | with_reducible refine w_gCons ?_
  | with_reducible refine w_gNil ?_
  | with_reducible refine w_iEnum ?_
  | with_reducible refine w_tMake ?_
  | with_reducible refine w_asg ?_
  | with_reducible refine w_tTup ?_
  | with_reducible refine w_tLst ?_
  | with_reducible refine w_lc ?_
  | with_reducible refine w_iRng1 ?_
  | with_reducible refine w_iRng2 ?_
  | with_reducible refine w_iList ?_
  | with_reducible refine w_iTup ?_
  | with_reducible refine w_for ?_
  | with_reducible refine w_chain ?_
  | with_reducible refine w_sl ?_
  | with_reducible refine w_part ?_
  | with_reducible refine w_nopart ?_
  | with_reducible refine w_exint ?_
  | with_reducible refine w_dput ?_
  | with_reducible refine w_gSub ?_
  | with_reducible refine w_tFld ?_
  | with_reducible refine w_tMeth ?_
  | with_reducible refine w_sFld ?_
  | with_reducible refine w_dget2 ?_
  | with_reducible refine w_dget ?_
  | with_reducible refine w_bm ?_
  | with_reducible refine w_isiII ?_
  | with_reducible refine w_isiIB ?_
  | with_reducible refine w_isiBB ?_
  | with_reducible refine w_max ?_
  | ((with_reducible refine w_eq ?we ?_); (case we => rfl))
  | ((with_reducible refine w_ne ?we ?_); (case we => rfl)))
local macro_rules | `(tactic| walk_at "w1") => `(tactic| first | walk_at "e1" | with_reducible refine w_seq ?_)
local macro_rules | `(tactic| walk_at "e") => `(tactic| repeat walk_at "e1")
local macro_rules | `(tactic| walk_at "w") => `(tactic| repeat walk_at "w1")

theorem ok_l_asked (T : Txt K mg a) : FnOk P w K mg base (L2.CX P w) 5 a.f_l_asked a.d_l_asked ["_law_store", "_law_sort", "_law_keeper", "_law_mark", "_law_letter"] (sp_l_asked a) := by
  refine T.F_l_asked.okX sc_l_asked (fun vs H Q E h => ?_) (fun cdv A outer s H vs Q E hr h => ?_)
  · obtain ⟨M, ds, n, f, v, x, y, d, sh, sort, keeper, rfl, _⟩ := h; rfl
  · obtain ⟨M, ds, n, f, v, x, y, d, sh, sort, keeper, rfl, X, q1, q2, q3⟩ := h
    refine ⟨_, (pss_one (ps_if (pt_cmpR op_eq (pv 1) pe_int (nomark _)) (pss_one (ps_expr (pe_meth (pv 0) T.cl T.m_S_look (ok_S_look T) (hr.mono (by decide)) T.b_S_look .nil (passes_call (takes_of rfl rfl rfl rfl) (fun _ _ _ _ h => h)) (pa_cons (pv 2) (pa_cons pe_str pa_nil))))) (pss_one (ps_if (pt_cmpR op_eq (pv 1) pe_int (nomark _)) (pss_one (ps_expr (pe_meth (pv 0) T.cl T.m_S_put (ok_S_put T) (hr.mono (by decide)) T.b_S_put .nil (passes_call (takes_of rfl rfl rfl rfl) (fun _ _ _ _ h => h)) (pa_cons (pv 2) (pa_cons pe_str (pa_cons pe_int (pa_cons (pv 3) pa_nil))))))) (pss_one (ps_if (pt_cmpR op_eq (pv 1) pe_int (nomark _)) (pss_one (ps_expr (pe_meth (pv 0) T.cl T.m_S_drop (ok_S_drop T) (hr.mono (by decide)) T.b_S_drop .nil (passes_call (takes_of rfl rfl rfl rfl) (fun _ _ _ _ h => h)) (pa_cons (pv 2) (pa_cons pe_str (pa_cons (pv 3) pa_nil)))))) (pss_one (ps_if (pt_cmpR op_eq (pv 1) pe_int (nomark _)) (pss_one (ps_expr (pe_meth (pv 0) T.cl T.m_S_letter (ok_S_letter T) (hr.mono (by decide)) T.b_S_letter .nil (passes_call (takes_of rfl rfl rfl rfl) (fun _ _ _ _ h => h)) (pa_cons (pv 2) (pa_cons pe_str pa_nil))))) (pss_one (ps_if (pt_cmpR op_eq (pv 1) pe_int (nomark _)) (pss_one (ps_expr (pe_meth (pv 0) T.cl T.m_S_take (ok_S_take T) (hr.mono (by decide)) T.b_S_take .nil (passes_call (takes_of rfl rfl rfl rfl) (fun _ _ _ _ h => h)) (pa_cons (pv 2) (pa_cons (pv 4) pa_nil))))) (pss_one (ps_expr (pe_meth (pv 0) T.cl T.m_S_keys (ok_S_keys T) (hr.mono (by decide)) T.b_S_keys .nil (passes_call (takes_of rfl rfl rfl rfl) (fun _ _ _ _ h => h)) (pa_cons (pv 2) pa_nil)))))))))))))), ?_⟩
    obtain ⟨st, S, b⟩ := X.S
    have mth : ∀ {m : Str} {R : Prop}, ¬ m = "first" → ¬ m = "kept" → R → rMth a.C m v H R := fun h1 h2 r => w_mth S h1 h2 r
    have few : ∀ (kk : Nat) (kv : KV1), kk < n → st[kk]? = some kv → ShOk n (shelfOf n kv "k") ∧ kv.length ≤ 1000 := fun kk kv hk e => by
      obtain ⟨b1, b2⟩ := b kk kv e
      exact ⟨by rw [b2]; exact X.okf kk hk, Nat.le_trans b1.len (by decide)⟩
    walk_at "w"
    by_cases e0 : sort = 0
    · refine iteD (by rw [e0]) ?_
      walk_at "w"
      refine mth (by decide +kernel) (by decide +kernel) ?_
      walk_at "w"
      refine ⟨M, ds, n, st, v, keeper, "k", rfl, X.fr, S, X.n9, fun kk kv e hkk hkv => ⟨(few kk kv hkk hkv).1, fun v' H' s r => ?_⟩, fun z => q1 z⟩
      walk_at "w"
      exact q3 ⟨by omega, by omega⟩ (fun z => by omega) H'
    refine iteDn (fun z => e0 (V.int.inj z)) ?_
    walk_at "w"
    by_cases e1 : sort = 1
    · refine iteD (by rw [e1]) ?_
      walk_at "w"
      refine mth (by decide +kernel) (by decide +kernel) ?_
      walk_at "w"
      refine ⟨M, NoM, ds, n, st, v, x, keeper, "k", 5, d, rfl, X.fr, S, X.n9, X.rx, X.okd, fun kk kv dk m e hkk hkv hdk em hm => ⟨(few kk kv hkk hkv).1, (few kk kv hkk hkv).2, fun H' bt S' => ?_⟩, fun z => q1 z, fun z1 z2 H' s => q2 z1 (.inl e1) z2 H' s⟩
      walk_at "w"
      exact q3 ⟨by omega, by omega⟩ (fun _ => hm) H'
    refine iteDn (fun z => e1 (V.int.inj z)) ?_
    walk_at "w"
    by_cases e2 : sort = 2
    · refine iteD (by rw [e2]) ?_
      walk_at "w"
      refine mth (by decide +kernel) (by decide +kernel) ?_
      walk_at "w"
      refine ⟨M, NoM, ds, n, st, v, x, keeper, "k", d, rfl, X.fr, S, X.n9, X.rx, X.okd, fun kk kv dk m e hkk hkv hdk em hm => ⟨(few kk kv hkk hkv).1, (few kk kv hkk hkv).2, fun H' bt S' => ?_⟩, fun z => q1 z, fun z1 z2 H' s => q2 z1 (.inr e2) z2 H' s⟩
      walk_at "w"
      exact q3 ⟨by omega, by omega⟩ (fun _ => hm) H'
    refine iteDn (fun z => e2 (V.int.inj z)) ?_
    have no12 : ¬ (sort = 1 ∨ sort = 2) := fun z => z.elim e1 e2
    walk_at "w"
    by_cases e3 : sort = 3
    · refine iteD (by rw [e3]) ?_
      walk_at "w"
      refine mth (by decide +kernel) (by decide +kernel) ?_
      walk_at "w"
      refine ⟨M, ds, n, st, v, keeper, "k", rfl, X.fr, S, X.n9, fun kk kv e hkk hkv v' H' s r => ?_, fun z => q1 z⟩
      walk_at "w"
      exact q3 ⟨by omega, by omega⟩ (fun z => absurd z no12) H'
    refine iteDn (fun z => e3 (V.int.inj z)) ?_
    walk_at "w"
    by_cases e4 : sort = 4
    · refine iteD (by rw [e4]) ?_
      walk_at "w"
      refine mth (by decide +kernel) (by decide +kernel) ?_
      walk_at "w"
      refine ⟨M, ds, n, st, v, y, keeper, "k", sh, rfl, X.fr, S, X.n9, X.ry, X.oks, fun kk kv dk e hkk hkv hdk => ⟨(few kk kv hkk hkv).1, (few kk kv hkk hkv).2, fun H' bt S' => ?_⟩, fun z => q1 z⟩
      walk_at "w"
      exact q3 ⟨by omega, by omega⟩ (fun z => absurd z no12) H'
    refine iteDn (fun z => e4 (V.int.inj z)) ?_
    walk_at "w"
    refine mth (by decide +kernel) (by decide +kernel) ?_
    walk_at "w"
    refine ⟨M, ds, n, st, v, keeper, rfl, S, X.n9, fun kk kv e hkk hkv => ⟨(few kk kv hkk hkv).2, fun t ht => ?_, fun v' H' s r => ?_⟩, fun z => q1 z⟩
    · by_cases et : t = "k"
      · subst et; exact (few kk kv hkk hkv).1
      · rw [(b kk kv hkv).1.other et]; exact .start n
    walk_at "w"
    exact q3 ⟨by omega, by omega⟩ (fun z => absurd z no12) H'
theorem ok_l_refusal (T : Txt K mg a) : FnOk P w K mg base (L2.CX P w) 6 a.f_l_refusal a.d_l_refusal ["_law_store", "_law_sort", "_law_keeper", "_law_mark", "_law_letter"] (sp_l_refusal6 a) := by
  refine T.F_l_refusal.okX sc_l_refusal (fun vs H Q E h => ?_) (fun cdv A outer s H vs Q E hr h => ?_)
  · obtain ⟨M, ds, n, f, v, x, y, d, sh, sort, keeper, rfl, _⟩ := h; rfl
  · obtain ⟨M, ds, n, f, v, x, y, d, sh, sort, keeper, rfl, X, q1, q2, q3⟩ := h
    refine ⟨_, (pss_cons (ps_try_as (i := 5) rfl rfl sc_l_refusal.nd rfl rfl ⟨rfl, by decide, .inl T.g_ShelfError⟩ takes0 (fun W pn xe tk ow => (pss_one (ps_expr (pe_callS (ok_l_asked T) (hr.mono (by decide)) rfl T.g_l_asked T.k_l_asked T.b_l_asked (fun σ => passAt tk σ) (pa_cons (pv 0) (pa_cons (pv 1) (pa_cons (pv 2) (pa_cons (pv 3) (pa_cons (pv 4) pa_nil))))))))) (fun ae oe cls dd pn hz hf => (pss_one (ps_ret (pe_callP (ok_l_kind T hz hf) (roomH_mark (hr.mono (by decide))) List.mem_cons_self rfl T.g_l_kind T.k_l_kind T.b_l_kind passL (pa_cons (pv 5) pa_nil))))))
  (pss_one (ps_ret pe_str))), ?_⟩
    walk_at "w"
    refine ⟨M, ds, n, f, v, x, y, d, sh, sort, keeper, rfl, X, fun z => ?_, fun z1 z2 z3 H1 s1 => ?_, fun z1 z2 H1 => ?_⟩
    · refine ⟨true, PySem.W.exm_ref T.b_ShelfError T.h_ShelfError T.t_ShelfError T.s_NoKeeper_ShelfError, fun _ ae ha => ?_, fun z => nomatch z⟩
      walk_at "w"
      refine ⟨rfl, rfl, .inl ⟨rfl, fun H2 s2 => ?_⟩⟩
      exact q1 z _ s2
    · refine ⟨true, PySem.W.exm_ref T.b_ShelfError T.h_ShelfError T.t_ShelfError T.s_BadMark_ShelfError, fun _ ae ha => ?_, fun z => nomatch z⟩
      walk_at "w"
      refine ⟨rfl, rfl, .inr (.inl ⟨rfl, fun H2 s2 => ?_⟩)⟩
      exact q2 z1 z2 z3 _ (Same.trans s1 s2)
    · walk_at "w"
      exact q3 z1 z2 _
theorem ok_l_state (T : Txt K mg a) : FnOk P w K mg base (L2.CX P w) 4 a.f_l_state a.d_l_state ["_law_store", "_law_many"] (sp_l_state a) := by
  refine T.F_l_state.okX sc_l_state (fun vs H Q E h => ?_) (fun cdv A outer s H vs Q E hr h => ?_)
  · obtain ⟨M, ds, n, f, v, rfl, _⟩ := h; rfl
  · obtain ⟨M, ds, n, f, v, rfl, fr, S, n9, okf, q⟩ := h
    refine ⟨_, (pss_one (ps_ret (pe_op op_cat (pe_lc (own := [("_law_keeper", 2)]) rfl sc_l_state.nd (pi_range1 rfl T.n_range (pa_cons (pv 1) pa_nil)) (blkOk_by (own := [("_law_keeper", 2)]) (N := N_l_state) (sc := defScope s_l_state) (by decide +kernel)) (fun _ _ _ _ _ => (pg_name (i := 2) sc_l_state.nd rfl (by first | exact Or.inl rfl | exact Or.inr rfl))) (fun _ _ _ _ _ => pts_nil) (fun _ _ _ _ _ => (pe_meth (pv 0) T.cl T.m_S_look (ok_S_look T) (hr.mono (by decide)) T.b_S_look .nil passL (pa_cons (pv 2) (pa_cons pe_str pa_nil))))) (pe_lc (own := [("_law_keeper", 2)]) rfl sc_l_state.nd (pi_range1 rfl T.n_range (pa_cons (pv 1) pa_nil)) (blkOk_by (own := [("_law_keeper", 2)]) (N := N_l_state) (sc := defScope s_l_state) (by decide +kernel)) (fun _ _ _ _ _ => (pg_name (i := 2) sc_l_state.nd rfl (by first | exact Or.inl rfl | exact Or.inr rfl))) (fun _ _ _ _ _ => pts_nil) (fun _ _ _ _ _ => (pe_meth (pv 0) T.cl T.m_S_keys (ok_S_keys T) (hr.mono (by decide)) T.b_S_keys .nil passL (pa_cons (pv 2) pa_nil))))))), ?_⟩
    walk_at "w"
    refine ⟨_, rfl, by omega, by omega, ?_⟩
    refine lcR _ (fun k => some (lookD (f k))) (Old H) (fr_old H) (sz_small (by omega)) (fun i H2 M' Yes No hi s1 ex fr' yes no => ?_) (fun D1 H1 hD1 s1 r1 => ?_)
    · have hi : i < n := by omega
      rw [Int.zero_add]
      refine w_it0 rfl ?_
      walk_at "w"
      refine w_mth1 (S.same s1) (by decide +kernel) (by decide +kernel) ?_
      walk_at "w"
      refine look_one (S.same s1) (fr.same s1) n9 rfl hi (okf i hi) fun v3 H3 s3 r3 => ?_
      exact yes _ _ _ rfl s3 (Rp.old fr' r3)
    rw [fm_some] at r1
    walk_at "w"
    refine ⟨_, rfl, by omega, by omega, ?_⟩
    refine lcR _ (fun k => some (keysD (oneKeys "k" (f k)))) (Old H) ((fr_old H).same s1) (sz_small (by omega)) (fun i H2 M' Yes No hi s2 ex fr' yes no => ?_) (fun D2 H2 hD2 s2 r2 => ?_)
    · have hi : i < n := by omega
      have s12 := Same.trans s1 s2
      rw [Int.zero_add]
      refine w_it0 rfl ?_
      walk_at "w"
      refine w_mth1 (S.same s12) (by decide +kernel) (by decide +kernel) ?_
      walk_at "w"
      refine keys_one (S.same s12) n9 rfl hi (okf i hi) fun v3 H3 s3 r3 => ?_
      exact yes _ _ _ rfl s3 (Rp.old fr' r3)
    rw [fm_some] at r2
    rw [Int.toNat_natCast] at r1 r2
    obtain ⟨xs, h1, t1⟩ := Rp.lst_at r1
    obtain ⟨ys, h2, t2⟩ := Rp.lst_at r2
    have l1 := t1.1
    have l2 := t2.1
    rw [List.length_map, List.length_range] at l1 l2
    refine ⟨D1, D2, xs, ys, rfl, rfl, s2 _ _ h1, h2, sz_small (by omega), fun p hp => ?_⟩
    exact q _ _ (Same.trans s1 (Same.trans s2 (Same.new hp))) (.lstA (fun z => z (s1.free (s2.free hp))) upd_same (((t1.same s2).append t2).same (Same.new hp)))
end
end Sb

namespace Sb
open PySem L2 PyProof.Rows
theorem w_in12 {K : Frag} {H : Hp} {p : Addr} {i : Int} {Q : VK} (h : H p = some (.tup [.int 1, .int 2])) (q : Q (.bl (decide (i = 1 ∨ i = 2))) H) : rIn K false (.int i) (.ref p) H Q := by
  refine ⟨p, _, rfl, .inr (SqT.of h), rfl, rfl, ?_⟩
  have e : inV (.int i) [.int 1, .int 2] = decide (i = 1 ∨ i = 2) := by
    rw [show ([V.int 1, V.int 2] : List V) = [(1 : Int), 2].map V.int from rfl, inV_ints]
    exact decide_eq_decide.mpr (by simp)
  rw [e]
  exact q
section
variable {P : Program} {w : World} {K : Frag} {mg : Str → Option Value} {base : Heap} {a : Ad}
local macro_rules | `(tactic| walk_at "e1") => `(tactic| first
  | ((with_reducible refine' w_var ?wh ?_); (case wh => rfl))
  | with_reducible refine w_c ?_
  | with_reducible refine w_projn ?_
  | with_reducible refine w_projr ?_
  | with_reducible refine w_op ?_
  | with_reducible refine w_cons ?_
  | with_reducible refine w_nil ?_
  | with_reducible refine w_I0 ?_
  | ((with_reducible refine w_I ?wc ?_); (case wc => first | (show (0 : Int) < _; decide) | exact ⟨by decide, by decide⟩ | exact ⟨by decide, by decide, by decide⟩ | exact Or.inr ⟨by decide, by decide⟩ | exact Or.inl ⟨by decide, by decide⟩ | (show (0 : Int) < _; omega) | exact ⟨by omega, by omega⟩))
  | with_reducible refine w_bl ?_
  | with_reducible refine w_test ?_
  | with_reducible refine w_tB ?_
  | with_reducible refine w_set ?_
  | with_reducible refine w_ifS ?_
  | with_reducible refine w_if ?_
  | with_reducible refine w_or ?_
  | with_reducible refine w_and ?_
  | with_reducible refine w_not ?_
  | with_reducible refine w_orV ?_
  | with_reducible refine w_andV ?_
  | with_reducible refine w_notV ?_
  | with_reducible refine w_ret ?_
  | with_reducible refine w_retN ?_
  | with_reducible refine w_drop ?_
  | with_reducible refine w_next ?_
  | with_reducible refine w_un ?_
  | with_reducible refine w_CB ?_
  | with_reducible refine w_call ?_
  | with_reducible refine w_callS ?_
  | with_reducible refine w_gName ?_
  | with_reducible refine w_gCons ?_
  | with_reducible refine w_gNil ?_
  | with_reducible refine w_iEnum ?_
  | with_reducible refine w_tMake ?_
  | with_reducible refine w_asg ?_
  | with_reducible refine w_tTup ?_
  | with_reducible refine w_tLst ?_
  | with_reducible refine w_lc ?_
  | with_reducible refine w_iRng1 ?_
  | with_reducible refine w_iRng2 ?_
  | with_reducible refine w_iList ?_
  | with_reducible refine w_iTup ?_
  | with_reducible refine w_for ?_
  | with_reducible refine w_chain ?_
  | with_reducible refine w_sl ?_
  | with_reducible refine w_part ?_
  | with_reducible refine w_nopart ?_
  | with_reducible refine w_exint ?_
  | with_reducible refine w_dput ?_
  | with_reducible refine w_gSub ?_
  | with_reducible refine w_tFld ?_
  | with_reducible refine w_tMeth ?_
  | with_reducible refine w_sFld ?_
  | with_reducible refine w_dget2 ?_
  | with_reducible refine w_dget ?_
  | with_reducible refine w_bm ?_
  | with_reducible refine w_isiII ?_
  | with_reducible refine w_isiIB ?_
  | with_reducible refine w_isiBB ?_
  | with_reducible refine w_max ?_
  | ((with_reducible refine w_eq ?we ?_); (case we => rfl))
  | ((with_reducible refine w_ne ?we ?_); (case we => rfl)))
local macro_rules | `(tactic| walk_at "w1") => `(tactic| first | walk_at "e1" | with_reducible refine w_seq ?_)
local macro_rules | `(tactic| walk_at "e") => `(tactic| repeat walk_at "e1")
local macro_rules | `(tactic| walk_at "w") => `(tactic| repeat walk_at "w1")

theorem ok_law (T : Txt K mg a) : FnOk P w K mg base (L2.CX P w) 7 a.f_law a.d_law ["_law_script"] (sp_law K) := by
  refine T.F_law.okX sc_law (fun vs H Q E h => ?_) (fun cdv A outer s H vs Q E hr h => ?_)
  · obtain ⟨b, ns, rfl, _⟩ := h; rfl
  · obtain ⟨b, ns, rfl, hs, hl, q⟩ := h
    have hu64 := hr.units
    refine ⟨_, (pss_cons (ps_set (i := 1) sc_law.nd rfl (Or.inl rfl) (pe_op op_sub (pe_op op_mod (pe_op op_fdiv (pe_call (ok_l_cell_at T) (hr.mono (by decide)) rfl T.g_l_cell_at T.k_l_cell_at T.b_l_cell_at .nil passL (pa_cons (pv 0) (pa_cons pe_int pa_nil))) pe_int) pe_int) pe_int))
  (pss_cons (ps_set (i := 2) sc_law.nd rfl (Or.inl rfl) (pe_call (ok_l_made T) (hr.mono (by decide)) rfl T.g_l_made T.k_l_made T.b_l_made .nil passL (pa_cons (pv 1) pa_nil)))
  (pss_cons (ps_if (PW.pt (pw_or (pt_cmpR (r := rEqNS K) (op_eqNS hu64) (pv 2) pe_str (nomark _)) (pw_or1 (pt_cmpR op_ne (pe_cmpR op_isN (pv 2) pe_non (nomark _)) (pe_or (pe_cmpR op_lt (pv 1) pe_int (nomark _)) (pe_one (pe_cmpR op_gt (pv 1) pe_int (nomark _)))) (nomark _))))) (pss_one (ps_ret pe_bl)) pss_nil)
  (pss_cons (ps_set (i := 3) sc_law.nd rfl (Or.inl rfl) (pe_op op_add pe_int (pe_op op_mod (pe_call (ok_l_cell_at T) (hr.mono (by decide)) rfl T.g_l_cell_at T.k_l_cell_at T.b_l_cell_at .nil passL (pa_cons (pv 0) (pa_cons pe_int pa_nil))) pe_int)))
  (pss_cons (ps_set (i := 4) sc_law.nd rfl (Or.inl rfl) (pe_make T.mks (ok_S_init T) (hr.mono (by decide)) rfl T.g_Store T.b_S_init .nil passL (pa_cons (pv 3) pa_nil)))
  (pss_cons (ps_set (i := 5) sc_law.nd rfl (Or.inl rfl) (pe_callTy (r := rTup K) cl_tup rfl T.n_tuple (by decide +kernel) (pa_cons (pe_lc (own := [("_law_k", 12)]) rfl sc_law.nd (pi_range1 rfl T.n_range (pa_cons (pv 3) pa_nil)) (blkOk_by (own := [("_law_k", 12)]) (N := N_law) (sc := defScope s_law) (by decide +kernel)) (fun _ _ _ _ _ => (pg_name (i := 12) sc_law.nd rfl (by first | exact Or.inl rfl | exact Or.inr rfl))) (fun _ _ _ _ _ => pts_nil) (fun _ _ _ _ _ => pe_int)) pa_nil)))
  (pss_cons (ps_for (passes_of rfl) rfl (pi_list (pe_slice (r := rSlL K) sl_list (pv 0) (po_some pe_int) (po_some pe_int))) (pg_name (i := 6) sc_law.nd rfl (by first | exact Or.inl rfl | exact Or.inr rfl))
  (pss_cons (ps_expr (pe_meth (pv 4) T.cl T.m_S_put (ok_S_put T) (hr.mono (by decide)) T.b_S_put .nil passL (pa_cons (pe_op op_mod (pv 6) (pv 3)) (pa_cons pe_str (pa_cons (pe_op op_mod (pe_op op_fdiv (pv 6) (pv 3)) pe_int) (pa_cons (pv 5) pa_nil))))))
  (pss_one (ps_set (i := 5) sc_law.nd rfl (Or.inl rfl) (pe_ix (r := rIxT K) ix_tup (pe_meth (pv 4) T.cl T.m_S_look (ok_S_look T) (hr.mono (by decide)) T.b_S_look .nil passL (pa_cons (pe_op op_mod (pv 6) (pv 3)) (pa_cons pe_str pa_nil))) pe_int (fun _ _ => rfl))))))
  (pss_cons (ps_set (i := 7) sc_law.nd rfl (Or.inl rfl) (pe_meth (pv 4) T.cl T.m_S_letter (ok_S_letter T) (hr.mono (by decide)) T.b_S_letter .nil passL (pa_cons (pe_op op_mod (pe_call (ok_l_cell_at T) (hr.mono (by decide)) rfl T.g_l_cell_at T.k_l_cell_at T.b_l_cell_at .nil passL (pa_cons (pv 0) (pa_cons pe_int pa_nil))) (pv 3)) (pa_cons pe_str pa_nil))))
  (pss_cons (ps_set (i := 8) sc_law.nd rfl (Or.inl rfl) (pe_op op_mod (pe_op op_fdiv (pe_call (ok_l_cell_at T) (hr.mono (by decide)) rfl T.g_l_cell_at T.k_l_cell_at T.b_l_cell_at .nil passL (pa_cons (pv 0) (pa_cons pe_int pa_nil))) pe_int) pe_int))
  (pss_cons (ps_set (i := 9) sc_law.nd rfl (Or.inl rfl) (pe_op op_mod (pe_op op_fdiv (pe_call (ok_l_cell_at T) (hr.mono (by decide)) rfl T.g_l_cell_at T.k_l_cell_at T.b_l_cell_at .nil passL (pa_cons (pv 0) (pa_cons pe_int pa_nil))) pe_int) (pv 3)))
  (pss_cons (ps_set (i := 10) sc_law.nd rfl (Or.inl rfl) pe_str)
  (pss_cons (ps_if (PW.pt (pw_and (pt_cmpR op_eq (pe_op op_mod (pe_call (ok_l_cell_at T) (hr.mono (by decide)) rfl T.g_l_cell_at T.k_l_cell_at T.b_l_cell_at .nil passL (pa_cons (pv 0) (pa_cons pe_int pa_nil))) pe_int) pe_int (nomark _)) (pw_and1 (pt_cmpR (r := rIn K false) op_in_seq (pv 8) (pe_tup (pa_cons pe_int (pa_cons pe_int pa_nil))) (by with_unfolding_all rfl))))) (pss_cons (ps_set (i := 5) sc_law.nd rfl (Or.inl rfl) (pe_call (ok_l_spoilt T) (hr.mono (by decide)) rfl T.g_l_spoilt T.k_l_spoilt T.b_l_spoilt .nil passL (pa_cons (pv 5) (pa_cons (pe_op op_fdiv (pe_call (ok_l_cell_at T) (hr.mono (by decide)) rfl T.g_l_cell_at T.k_l_cell_at T.b_l_cell_at .nil passL (pa_cons (pv 0) (pa_cons pe_int pa_nil))) pe_int) pa_nil))))
  (pss_one (ps_set (i := 10) sc_law.nd rfl (Or.inl rfl) pe_str))) pss_nil)
  (pss_cons (ps_if (pt_cmpR op_eq (pe_op op_mod (pe_call (ok_l_cell_at T) (hr.mono (by decide)) rfl T.g_l_cell_at T.k_l_cell_at T.b_l_cell_at .nil passL (pa_cons (pv 0) (pa_cons pe_int pa_nil))) pe_int) pe_int (nomark _)) (pss_cons (ps_set (i := 9) sc_law.nd rfl (Or.inl rfl) (pe_op op_add (pv 3) (pv 9)))
  (pss_cons (ps_if (pt_cmpR op_eq (pe_op op_mod (pe_op op_fdiv (pe_call (ok_l_cell_at T) (hr.mono (by decide)) rfl T.g_l_cell_at T.k_l_cell_at T.b_l_cell_at .nil passL (pa_cons (pv 0) (pa_cons pe_int pa_nil))) pe_int) pe_int) pe_int (nomark _)) (pss_one (ps_set (i := 9) sc_law.nd rfl (Or.inl rfl) (pe_op op_sub (pe_op op_sub (pv 3) pe_int) (pv 9)))) pss_nil)
  (pss_cons (ps_if (pt_cmpR op_eq (pe_op op_mod (pe_op op_fdiv (pe_call (ok_l_cell_at T) (hr.mono (by decide)) rfl T.g_l_cell_at T.k_l_cell_at T.b_l_cell_at .nil passL (pa_cons (pv 0) (pa_cons pe_int pa_nil))) pe_int) pe_int) pe_int (nomark _)) (pss_one (ps_set (i := 9) sc_law.nd rfl (Or.inl rfl) (pe_op op_mul (pv 9) (pe_op op_pow pe_int pe_int)))) pss_nil)
  (pss_one (ps_set (i := 10) sc_law.nd rfl (Or.inl rfl) pe_str))))) pss_nil)
  (pss_cons (ps_set (i := 11) sc_law.nd rfl (Or.inl rfl) (pe_call (ok_l_state T) (hr.mono (by decide)) rfl T.g_l_state T.k_l_state T.b_l_state .nil passL (pa_cons (pv 4) (pa_cons (pv 3) pa_nil))))
  (pss_cons (ps_if (pt_cmpR op_ne (pe_call (ok_l_refusal T) (hr.mono (by decide)) rfl T.g_l_refusal T.k_l_refusal T.b_l_refusal .nil passL (pa_cons (pv 4) (pa_cons (pv 8) (pa_cons (pv 9) (pa_cons (pv 5) (pa_cons (pv 7) pa_nil)))))) (pv 10) (nomark _)) (pss_one (ps_ret pe_bl)) pss_nil)
  (pss_one (ps_ret (pe_or (pe_cmpR op_eq (pv 10) pe_str (nomark _)) (pe_one (pe_cmpR (r := rEqD K) (op_eqD hu64) (pe_call (ok_l_state T) (hr.mono (by decide)) rfl T.g_l_state T.k_l_state T.b_l_state .nil passL (pa_cons (pv 4) (pa_cons (pv 3) pa_nil))) (pv 11) (nomark _))))))))))))))))))))), ?_⟩
    walk_at "w"
    refine ⟨b, ns, 0, rfl, hs, ?_⟩
    walk_at "e"
    generalize cell ns 0 / 9 % 16 - 3 = cnt
    refine w_cut (fun σ' H' => ∃ x, σ' = [some (.ref b), some (.int cnt), some x, none, none, none, none, none, none, none, none, none, none] ∧ Same H H' ∧ ((1 ≤ cnt ∧ cnt ≤ 9 ∧ ∃ p dx fs, x = .ref p ∧ H' p = some (.ins a.C dx fs)) ∨ (¬ (1 ≤ cnt ∧ cnt ≤ 9) ∧ x = .non))) (fun N key => ?_) ?_
    · walk_at "w"
      refine ⟨cnt, rfl, fun hc p dx fs H1 s1 h1 => ?_, fun hc H1 s1 => ?_⟩
      · walk_at "w"
        exact key _ _ ⟨_, rfl, s1, .inl ⟨hc.1, hc.2, p, dx, fs, rfl, h1⟩⟩
      · walk_at "w"
        exact key _ _ ⟨_, rfl, s1, .inr ⟨hc, rfl⟩⟩
    rintro _ H1 ⟨x1, rfl, s1, hx1⟩
    have hs1 := Same.seq s1 hs
    refine w_cut (fun σ' H' => σ' = [some (.ref b), some (.int cnt), some x1, none, none, none, none, none, none, none, none, none, none] ∧ H1 = H') (fun N key => ?_) ?_
    · walk_at "w"
      refine ⟨⟨_, rfl⟩, ?_, ?_⟩
      · rcases hx1 with ⟨_, _, p, dx, fs, rfl, h1⟩ | ⟨_, rfl⟩
        · exact .inr ⟨p, a.C, dx, fs, rfl, h1, T.q_mro, T.q_eq⟩
        · exact .inl rfl
      walk_at "w"
      refine iteF ?_
      walk_at "w"
      refine ⟨rfl, ?_⟩
      walk_at "w"
      by_cases hc : 1 ≤ cnt ∧ cnt ≤ 9
      · have hx : decide (x1 = .non) = false := by
          rcases hx1 with ⟨_, _, p, dx, fs, rfl, h1⟩ | ⟨hn, _⟩
          · exact decide_eq_false (fun z => nomatch z)
          · exact absurd hc hn
        rw [hx]
        refine iteDn (by omega) ?_
        walk_at "w"
        rw [decide_eq_false (show ¬ 9 < cnt by omega)]
        walk_at "w"
        refine iteF ?_
        walk_at "w"
        exact key _ _ ⟨rfl, rfl⟩
      · have hx : decide (x1 = .non) = true := by
          rcases hx1 with ⟨h1, h2, _⟩ | ⟨_, rfl⟩
          · exact absurd ⟨h1, h2⟩ hc
          · exact decide_eq_true rfl
        rw [hx]
        by_cases h0 : cnt < 1
        · refine iteD h0 ?_
          walk_at "w"
          refine iteF ?_
          walk_at "w"
          exact key _ _ ⟨rfl, rfl⟩
        · refine iteDn h0 ?_
          walk_at "w"
          rw [decide_eq_true (show 9 < cnt by omega)]
          walk_at "w"
          refine iteF ?_
          walk_at "w"
          exact key _ _ ⟨rfl, rfl⟩
    rintro _ _ ⟨rfl, rfl⟩
    clear hx1
    walk_at "w"
    refine ⟨b, ns, 0, rfl, hs1, ?_⟩
    walk_at "w"
    obtain ⟨n, em, m1, m2⟩ : ∃ n : Nat, 1 + cell ns 0 % 9 = (n : Int) ∧ 1 ≤ n ∧ n ≤ 9 := ⟨(1 + cell ns 0 % 9).toNat, by omega, by omega, by omega⟩
    rw [em]
    refine make_one "k" rfl (by omega) (by omega) fun v H2 ds s2 S2 _ => ?_
    have fr2 : Fr (Old H1) H2 := (fr_old H1).same s2
    walk_at "w"
    refine ⟨_, rfl, by omega, by omega, ?_⟩
    refine lcR _ (fun _ => some (.int 0)) NoM (fun _ _ z => z) (sz_small (by omega)) (fun i H3 M' Yes No hi s ex fr' yes no => ?_) (fun D H3 hD s3 r3 => ?_)
    · refine w_it0 rfl ?_
      walk_at "w"
      exact yes _ _ _ rfl (Same.refl _) (.int 0)
    have e0 : (List.range ((n : Int)).toNat).filterMap (fun _ => some (PyData.int 0)) = (List.replicate n (0 : Int)).map PyData.int := by
      rw [fm_some, Int.toNat_natCast, List.map_const', List.map_replicate, List.length_range]
    rw [e0] at r3
    walk_at "w"
    refine w_tupleL r3 fun mv H4 s4 r4 => ?_
    have r4 : Rp NoM H4 mv (markD (List.replicate n 0)) := r4
    have s24 := Same.trans s3 s4
    have hs4 := Same.seq (Same.trans s2 s24) hs1
    walk_at "w"
    refine w_slL hs4 fun ys p6 hys n6 => ?_
    have s6 : Same H4 (upd H4 p6 (.lst ys)) := Same.new n6
    have h6 : upd H4 p6 (.lst ys) p6 = some (.lst ys) := upd_same
    generalize upd H4 p6 (.lst ys) = H5 at s6 h6
    have hyl : ys.length ≤ 4 := by rw [← hys]; exact cutV_from (by decide) (by decide)
    have s25 := Same.trans s24 s6
    walk_at "w"
    refine ⟨p6, rfl, ⟨_, SqL.of h6⟩, ?_⟩
    refine for_list (K := K) (xs := ys) (fun i σ H' => ∃ (u6 : Option V) (mv : V) (m : List Int) (f : Nat → Shelf) (G : List Row), σ = [some (.ref b), some (.int cnt), some x1, some (.int n), some v, some mv, u6, none, none, none, none, none, none] ∧ Keep H5 H' ∧ OneAt (Old H1) H' a.C v ds n "k" f ∧ (∀ k, k < n → Good G n (f k)) ∧ G.length ≤ i ∧
      Rp NoM H' mv (markD m) ∧ m.length = n ∧ (∀ j ∈ m, 0 ≤ j)) ⟨none, mv, List.replicate n 0, _, [], rfl, .refl _, S2.same s25, fun k _ => .start _ _, Nat.le_refl _, r4.same s6, List.length_replicate, fun j hj => by rw [List.eq_of_mem_replicate hj]; exact Int.le_refl 0⟩ ?_ ?_ ?_
    · rintro i σ H' _ ⟨u6, mv, m, f, G, rfl, kp, _⟩
      exact SqL.of (kp.lst h6)
    · rintro i y σ H' hy ⟨u6, mv, m, f, G, rfl, kp, S, gf, gl, rm, ml, mp⟩
      obtain ⟨c, rfl⟩ := cut_int hys hy
      have hi := (List.getElem?_eq_some_iff.mp hy).1
      obtain ⟨k, ek, hk⟩ := mod_nat c m1
      have frH : Fr (Old H1) H' := kp.fr ((fr2.same s25))
      have okk := (gf k hk).ok (by omega)
      walk_at "w"
      refine w_mth1 S (by decide +kernel) (by decide +kernel) ?_
      walk_at "w"
      rw [ek]
      walk_at "w"
      refine put_one S frH (by omega) rfl hk rm (isMk_mark ml mp) okk fun H6 k6 S6 => ?_
      generalize c / (n : Int) % 1000 = val at S6
      have fr6 := k6.fr frH
      have g6 := (gf k hk).put (G' := newRow (f k) k val :: G) (v := val) ml hk (fun r hr => List.mem_cons_of_mem _ hr) List.mem_cons_self
      walk_at "w"
      refine w_mth1 S6 (by decide +kernel) (by decide +kernel) ?_
      walk_at "w"
      rw [ek]
      refine look_one S6 fr6 (by omega) rfl hk (by rw [setF_eq]; exact g6.ok (by rw [List.length_cons]; omega)) fun v7 H7 s7 r7 => ?_
      rw [setF_eq] at r7
      walk_at "w"
      refine w_look1 r7 rfl fun v8 r8 => ?_
      walk_at "w"
      refine ⟨_, v8, _, _, newRow (f k) k val :: G, rfl, Keep.trans kp (Keep.trans k6 (.same s7)), S6.same s7, fun k' hk' => ?_, by rw [List.length_cons]; omega, r8.mark, g6.wf.len, getD_mem g6.pos⟩
      by_cases e : k' = k
      · subst e; rw [setF_eq]; exact g6
      · rw [setF_ne e]; exact (gf k' hk').mono fun r hr => List.mem_cons_of_mem _ hr
    · rintro σ H6 ⟨u6, mv, m, f, G, rfl, kp, S, gf, gl, rm, ml, mp⟩
      have okf : ∀ k, k < n → ShOk n (f k) := fun k hk => (gf k hk).ok (by omega)
      have fr6 : Fr (Old H1) H6 := kp.fr (fr2.same s25)
      have hs6 := kp.seq (Same.seq s6 hs4)
      clear gl kp h6
      walk_at "w"
      refine w_mth1 S (by decide +kernel) (by decide +kernel) ?_
      walk_at "w"
      refine ⟨b, ns, 1, rfl, hs6, ?_⟩
      obtain ⟨kl, ekl, hkl⟩ := mod_nat (cell ns 1) m1
      walk_at "w"
      rw [ekl]
      refine letter_one S fr6 (by omega) rfl hkl fun lt H7 s7 rl => ?_
      have hs7 := Same.seq s7 hs6
      walk_at "w"
      refine ⟨b, ns, 1, rfl, hs7, ?_⟩
      walk_at "w"
      refine ⟨b, ns, 2, rfl, hs7, ?_⟩
      obtain ⟨kk, ekk, hkk⟩ := mod_nat (cell ns 2 / 8) m1
      walk_at "e"
      rw [ekk]
      refine w_seq ?_
      walk_at "e"
      generalize cell ns 1 / 9 % 6 = sort
      have rm7 : Rp NoM H7 mv (markD m) := rm.same s7
      refine w_cut (fun σ' H' => ∃ (mx : V) (d : PyData) (due : Str), σ' = [some (.ref b), some (.int cnt), some x1, some (.int n), some v, some mx, u6, some lt, some (.int sort), some (.int kk), some (.str due), none, none] ∧ Same H7 H' ∧ Rp NoM H' mx d ∧ okMk d = true ∧
        ((due = "none" ∧ isMk n d = true) ∨ (due = "mark" ∧ isMk n d = false ∧ (sort = 1 ∨ sort = 2)))) (fun N key => ?_) ?_
      · have plain : N [some (.ref b), some (.int cnt), some x1, some (.int n), some v, some mv, u6, some lt, some (.int sort), some (.int kk), some (.str "none"), none, none] H7 := key _ _ ⟨mv, markD m, "none", rfl, Same.refl _, rm7, okMk_mark m, .inl ⟨rfl, isMk_mark ml mp⟩⟩
        walk_at "w"
        refine ⟨b, ns, 3, rfl, hs7, ?_⟩
        walk_at "w"
        by_cases h3 : cell ns 3 % 2 = 1
        · refine iteD (by rw [h3]) ?_
          walk_at "w"
          refine ⟨by show 2 ≤ sizeLine; decide, fun p8 n8 => ?_⟩
          have s8 : Same H7 (upd H7 p8 (.tup [.int 1, .int 2])) := Same.new n8
          have h8 : upd H7 p8 (.tup [.int 1, .int 2]) p8 = some (.tup [.int 1, .int 2]) := upd_same
          generalize upd H7 p8 (.tup [.int 1, .int 2]) = H8 at s8 h8
          refine w_in12 h8 ?_
          walk_at "w"
          by_cases h12 : sort = 1 ∨ sort = 2
          · refine iteD h12 ?_
            walk_at "w"
            refine ⟨b, ns, 3, rfl, Same.seq s8 hs7, ?_⟩
            walk_at "w"
            refine ⟨NoM, mv, _, m, n, rfl, rm7.same s8, ml, m1, m2, fun v' d H9 s9 r9 o9 i9 => ?_⟩
            walk_at "w"
            exact key _ _ ⟨v', d, "mark", rfl, Same.trans s8 s9, r9, o9, .inr ⟨rfl, i9, h12⟩⟩
          · refine iteDn h12 ?_
            walk_at "w"
            exact key _ _ ⟨mv, markD m, "none", rfl, s8, rm7.same s8, okMk_mark m, .inl ⟨rfl, isMk_mark ml mp⟩⟩
        · refine iteDn (fun z => h3 (V.int.inj z)) ?_
          refine iteF ?_
          exact plain
      rintro _ H8 ⟨mx, d, due, rfl, s8, rx, okd, hdue⟩
      have hs8 := Same.seq s8 hs7
      refine w_cut (fun σ' H' => ∃ (kp : Int) (due2 : Str), σ' = [some (.ref b), some (.int cnt), some x1, some (.int n), some v, some mx, u6, some lt, some (.int sort), some (.int kp), some (.str due2), none, none] ∧ H8 = H' ∧
        ((due2 = "keeper" ∧ ¬ (0 ≤ kp ∧ kp < n)) ∨ (due2 = due ∧ 0 ≤ kp ∧ kp < n))) (fun N key => ?_) ?_
      · walk_at "w"
        refine ⟨b, ns, 2, rfl, hs8, ?_⟩
        walk_at "w"
        by_cases h2 : cell ns 2 % 2 = 1
        · refine iteD (by rw [h2]) ?_
          walk_at "w"
          refine ⟨b, ns, 2, rfl, hs8, ?_⟩
          walk_at "w"
          refine w_ifJoin 9 (.int ((n : Int) + kk)) (fun x => ∃ kp : Int, x = .int kp ∧ (kp < 0 ∨ n ≤ kp) ∧ -100 ≤ kp ∧ kp ≤ 100) rfl (fun _ => ⟨_, rfl, .inr (by omega), by omega, by omega⟩) ?_ (fun N' key' _ => ?_)
          rotate_left
          · walk_at "w"
            exact key' _ ⟨_, rfl, .inl (by omega), by omega, by omega⟩
          rintro _ ⟨kp, rfl, hkp, kb1, kb2⟩
          walk_at "w"
          refine ⟨b, ns, 2, rfl, hs8, ?_⟩
          walk_at "w"
          refine w_ifJoin 9 (.int kp) (fun x => ∃ kp : Int, x = .int kp ∧ (kp < 0 ∨ n ≤ kp)) rfl (fun _ => ⟨_, rfl, hkp⟩) ?_ (fun N' key' _ => ?_)
          rotate_left
          · walk_at "w"
            exact key' _ ⟨_, rfl, by
              have e : ((10 : Int) ^ (9 : Int).toNat) = 1000000000 := by decide
              rw [e]
              omega⟩
          rintro _ ⟨kp, rfl, hkp⟩
          walk_at "w"
          exact key _ _ ⟨kp, "keeper", rfl, rfl, .inl ⟨rfl, by omega⟩⟩
        · refine iteDn (fun z => h2 (V.int.inj z)) ?_
          walk_at "w"
          exact key _ _ ⟨kk, due, rfl, rfl, .inr ⟨rfl, by omega, by omega⟩⟩
      rintro _ _ ⟨kp, due2, rfl, rfl, hd2⟩
      have s68 := Same.trans s7 s8
      have S8 := S.same s68
      have fr8 := fr6.same s68
      walk_at "w"
      refine ⟨_, ds, n, f, v, rfl, fr8, S8, by omega, okf, fun bf H9 s9 rb => ?_⟩
      have S9 := S8.same s9
      have fr9 := fr8.same s9
      have A9 : A06 a H9 (Old H1) ds n f v mx lt d (f kl) := ⟨fr9, S9, m2, rx.same s9, okd, fun M' => ((rl M').same s8).same s9, okf kl hkl, okf⟩
      have again : ∀ {H' : Hp} {Q' : VK} {E' : XK}, Same H9 H' → (∀ v' H2, Same H' H2 → Rp (Old H') H2 v' (.list (stateD n f)) → Q' v' H2) → sp_l_state a [v, .int n] H' Q' E' := fun {H' Q' E'} s' q' => ⟨_, ds, n, f, v, rfl, fr9.same s', S9.same s', by omega, okf, q'⟩
      walk_at "w"
      refine ⟨_, ds, n, f, v, mx, lt, d, f kl, sort, kp, rfl, A9, fun z H10 s10 => ?_, fun z1 z2 z3 H10 s10 => ?_, fun z1 z2 H10 => ?_⟩
      · have e2 : due2 = "keeper" := by
          rcases hd2 with ⟨e, _⟩ | ⟨_, z1, z2⟩
          · exact e
          · exact absurd ⟨z1, z2⟩ z
        subst e2
        walk_at "w"
        refine iteF ?_
        walk_at "w"
        refine iteF ?_
        walk_at "w"
        refine again s10 fun v' H2 s2' r2 => ?_
        walk_at "w"
        refine w_eqS r2 ((rb.same s10).same s2') (sh_state n f) (by decide) ?_
        exact q _
      · have e2 : due2 = "mark" := by
          rcases hd2 with ⟨_, z⟩ | ⟨e, _⟩
          · exact absurd z1 z
          · rcases hdue with ⟨_, z⟩ | ⟨e', _⟩
            · rw [z] at z3; cases z3
            · rw [e, e']
        subst e2
        walk_at "w"
        refine iteF ?_
        walk_at "w"
        refine iteF ?_
        walk_at "w"
        refine again s10 fun v' H2 s2' r2 => ?_
        walk_at "w"
        refine w_eqS r2 ((rb.same s10).same s2') (sh_state n f) (by decide) ?_
        exact q _
      · have e2 : due2 = "none" := by
          rcases hd2 with ⟨_, z⟩ | ⟨e, _⟩
          · exact absurd z1 z
          · rcases hdue with ⟨e', _⟩ | ⟨_, z, h12⟩
            · rw [e, e']
            · rw [z2 h12] at z; cases z
        subst e2
        walk_at "w"
        refine iteF ?_
        walk_at "w"
        exact q _
end
end Sb

namespace Sb
open PySem L2
set_option maxHeartbeats 16000000
theorem all_mk {l : PySem.W.OpenLaw} {w : World} {K : Frag} {h : Heap} {mg : Str → Option Value} {fa : Addr} (X : K.In h) (G : h.Ns mainGlobals mg) (hfa : mg "law" = some (.ref fa))
    {C_ShelfError C_BadCount C_NoKeeper C_BadMark C_BadNote C f_blank f_need_alike f_joined f_has_seen f_unseen f_put_on f_dropped f_met f_S_init f_S_need_keeper f_S_need_mark f_S_shelf f_S_look f_S_put f_S_drop f_S_letter f_S_take f_S_keys f_l_cell_at f_l_kind f_l_made f_l_spoilt f_l_asked f_l_refusal f_l_state f_law : Addr}
    {od_blank an_blank od_need_alike an_need_alike od_joined an_joined od_has_seen an_has_seen od_unseen an_unseen od_put_on an_put_on od_dropped an_dropped od_met an_met od_S_init an_S_init od_S_need_keeper an_S_need_keeper od_S_need_mark an_S_need_mark od_S_shelf an_S_shelf od_S_look an_S_look od_S_put an_S_put od_S_drop an_S_drop od_S_letter an_S_letter od_S_take an_S_take od_S_keys an_S_keys od_l_cell_at an_l_cell_at od_l_kind an_l_kind od_l_made an_l_made od_l_spoilt an_l_spoilt od_l_asked an_l_asked od_l_refusal an_l_refusal od_l_state an_l_state od_law an_law : Option Addr}
    {sl_blank sl_need_alike sl_joined sl_has_seen sl_unseen sl_put_on sl_dropped sl_met sl_S_init sl_S_need_keeper sl_S_need_mark sl_S_shelf sl_S_look sl_S_put sl_S_drop sl_S_letter sl_S_take sl_S_keys sl_l_cell_at sl_l_kind sl_l_made sl_l_spoilt sl_l_asked sl_l_refusal sl_l_state sl_law : Array (Option Value)}
    {oc_blank kV_blank dc_blank pm_blank cd_blank ct_blank oc_need_alike kV_need_alike dc_need_alike pm_need_alike cd_need_alike ct_need_alike oc_joined kV_joined dc_joined pm_joined cd_joined ct_joined oc_has_seen kV_has_seen dc_has_seen pm_has_seen cd_has_seen ct_has_seen oc_unseen kV_unseen dc_unseen pm_unseen cd_unseen ct_unseen oc_put_on kV_put_on dc_put_on pm_put_on cd_put_on ct_put_on oc_dropped kV_dropped dc_dropped pm_dropped cd_dropped ct_dropped oc_met kV_met dc_met pm_met cd_met ct_met oc_S_init kV_S_init dc_S_init pm_S_init cd_S_init ct_S_init oc_S_need_keeper kV_S_need_keeper dc_S_need_keeper pm_S_need_keeper cd_S_need_keeper ct_S_need_keeper oc_S_need_mark kV_S_need_mark dc_S_need_mark pm_S_need_mark cd_S_need_mark ct_S_need_mark oc_S_shelf kV_S_shelf dc_S_shelf pm_S_shelf cd_S_shelf ct_S_shelf oc_S_look kV_S_look dc_S_look pm_S_look cd_S_look ct_S_look oc_S_put kV_S_put dc_S_put pm_S_put cd_S_put ct_S_put oc_S_drop kV_S_drop dc_S_drop pm_S_drop cd_S_drop ct_S_drop oc_S_letter kV_S_letter dc_S_letter pm_S_letter cd_S_letter ct_S_letter oc_S_take kV_S_take dc_S_take pm_S_take cd_S_take ct_S_take oc_S_keys kV_S_keys dc_S_keys pm_S_keys cd_S_keys ct_S_keys oc_l_cell_at kV_l_cell_at dc_l_cell_at pm_l_cell_at cd_l_cell_at ct_l_cell_at oc_l_kind kV_l_kind dc_l_kind pm_l_kind cd_l_kind ct_l_kind oc_l_made kV_l_made dc_l_made pm_l_made cd_l_made ct_l_made oc_l_spoilt kV_l_spoilt dc_l_spoilt pm_l_spoilt cd_l_spoilt ct_l_spoilt oc_l_asked kV_l_asked dc_l_asked pm_l_asked cd_l_asked ct_l_asked oc_l_refusal kV_l_refusal dc_l_refusal pm_l_refusal cd_l_refusal ct_l_refusal oc_l_state kV_l_state dc_l_state pm_l_state cd_l_state ct_l_state oc_law kV_law dc_law pm_law cd_law ct_law : Value}
    (z_ValueError : PySem.W.nsIn K mainGlobals "ValueError" = some none)
    (z_bool : PySem.W.nsIn K mainGlobals "bool" = some none)
    (z_int : PySem.W.nsIn K mainGlobals "int" = some none)
    (z_isinstance : PySem.W.nsIn K mainGlobals "isinstance" = some none)
    (z_len : PySem.W.nsIn K mainGlobals "len" = some none)
    (z_list : PySem.W.nsIn K mainGlobals "list" = some none)
    (z_max : PySem.W.nsIn K mainGlobals "max" = some none)
    (z_range : PySem.W.nsIn K mainGlobals "range" = some none)
    (z_sorted : PySem.W.nsIn K mainGlobals "sorted" = some none)
    (z_tuple : PySem.W.nsIn K mainGlobals "tuple" = some none)
    (c_MOST_KEEPERS : ∃ t, PySem.W.nsIn K mainGlobals "MOST_KEEPERS" = some (some (.int 9 t)))
    (a_ShelfError : PySem.W.nsIn K mainGlobals "ShelfError" = some (some (.ref C_ShelfError)))
    (x_ShelfError : PySem.W.excIn K C_ShelfError [.type "ValueError", .type "Exception", .type "BaseException", .type "object"] "ValueError.__new__" = true)
    (k_ShelfError : PySem.W.keepIn K (.ref C_ShelfError) = true)
    (b_ShelfError : PySem.W.subIn K (.ref C_ShelfError) (.type "BaseException") = some true)
    (t_ShelfError : PySem.W.typeIn K (.ref C_ShelfError) = some (.type "type"))
    (a_BadCount : PySem.W.nsIn K mainGlobals "BadCount" = some (some (.ref C_BadCount)))
    (x_BadCount : PySem.W.excIn K C_BadCount [.type "ValueError", .type "Exception", .type "BaseException", .type "object"] "ValueError.__new__" = true)
    (k_BadCount : PySem.W.keepIn K (.ref C_BadCount) = true)
    (b_BadCount : PySem.W.subIn K (.ref C_BadCount) (.type "BaseException") = some true)
    (t_BadCount : PySem.W.typeIn K (.ref C_BadCount) = some (.type "type"))
    (a_NoKeeper : PySem.W.nsIn K mainGlobals "NoKeeper" = some (some (.ref C_NoKeeper)))
    (x_NoKeeper : PySem.W.excIn K C_NoKeeper [.type "ValueError", .type "Exception", .type "BaseException", .type "object"] "ValueError.__new__" = true)
    (k_NoKeeper : PySem.W.keepIn K (.ref C_NoKeeper) = true)
    (b_NoKeeper : PySem.W.subIn K (.ref C_NoKeeper) (.type "BaseException") = some true)
    (t_NoKeeper : PySem.W.typeIn K (.ref C_NoKeeper) = some (.type "type"))
    (a_BadMark : PySem.W.nsIn K mainGlobals "BadMark" = some (some (.ref C_BadMark)))
    (x_BadMark : PySem.W.excIn K C_BadMark [.type "ValueError", .type "Exception", .type "BaseException", .type "object"] "ValueError.__new__" = true)
    (k_BadMark : PySem.W.keepIn K (.ref C_BadMark) = true)
    (b_BadMark : PySem.W.subIn K (.ref C_BadMark) (.type "BaseException") = some true)
    (t_BadMark : PySem.W.typeIn K (.ref C_BadMark) = some (.type "type"))
    (a_BadNote : PySem.W.nsIn K mainGlobals "BadNote" = some (some (.ref C_BadNote)))
    (x_BadNote : PySem.W.excIn K C_BadNote [.type "ValueError", .type "Exception", .type "BaseException", .type "object"] "ValueError.__new__" = true)
    (k_BadNote : PySem.W.keepIn K (.ref C_BadNote) = true)
    (b_BadNote : PySem.W.subIn K (.ref C_BadNote) (.type "BaseException") = some true)
    (t_BadNote : PySem.W.typeIn K (.ref C_BadNote) = some (.type "type"))
    (ecn : PySem.W.specialIn K (.builtin "object.__class__") "__get__" = some (some (.builtin "getset_descriptor.__get__")))
    (ect : PySem.W.takesIn K (.builtin "object.__class__") = some true)
    (h_ShelfError : PySem.W.hasDictIn K C_ShelfError = true)
    (v_ShelfError : PySem.W.subIn K (.ref C_ShelfError) (.type "ValueError") = some true)
    (eg_ShelfError : PySem.W.findIn K (.ref C_ShelfError) "__getattribute__" = some (some (.builtin "BaseException.__getattribute__")))
    (ek_ShelfError : PySem.W.findIn K (.ref C_ShelfError) "__getattr__" = some none)
    (ea_ShelfError : PySem.W.findIn K (.ref C_ShelfError) "__class__" = some (some (.builtin "object.__class__")))
    (em_ShelfError : PySem.W.mroIn K C_ShelfError (.type "object") = some true)
    (s_ShelfError_ShelfError : PySem.W.subIn K (.ref C_ShelfError) (.ref C_ShelfError) = some true)
    (s_ShelfError_BadCount : PySem.W.subIn K (.ref C_ShelfError) (.ref C_BadCount) = some false)
    (s_ShelfError_NoKeeper : PySem.W.subIn K (.ref C_ShelfError) (.ref C_NoKeeper) = some false)
    (s_ShelfError_BadMark : PySem.W.subIn K (.ref C_ShelfError) (.ref C_BadMark) = some false)
    (s_ShelfError_BadNote : PySem.W.subIn K (.ref C_ShelfError) (.ref C_BadNote) = some false)
    (h_BadCount : PySem.W.hasDictIn K C_BadCount = true)
    (v_BadCount : PySem.W.subIn K (.ref C_BadCount) (.type "ValueError") = some true)
    (eg_BadCount : PySem.W.findIn K (.ref C_BadCount) "__getattribute__" = some (some (.builtin "BaseException.__getattribute__")))
    (ek_BadCount : PySem.W.findIn K (.ref C_BadCount) "__getattr__" = some none)
    (ea_BadCount : PySem.W.findIn K (.ref C_BadCount) "__class__" = some (some (.builtin "object.__class__")))
    (em_BadCount : PySem.W.mroIn K C_BadCount (.type "object") = some true)
    (s_BadCount_ShelfError : PySem.W.subIn K (.ref C_BadCount) (.ref C_ShelfError) = some true)
    (s_BadCount_BadCount : PySem.W.subIn K (.ref C_BadCount) (.ref C_BadCount) = some true)
    (s_BadCount_NoKeeper : PySem.W.subIn K (.ref C_BadCount) (.ref C_NoKeeper) = some false)
    (s_BadCount_BadMark : PySem.W.subIn K (.ref C_BadCount) (.ref C_BadMark) = some false)
    (s_BadCount_BadNote : PySem.W.subIn K (.ref C_BadCount) (.ref C_BadNote) = some false)
    (h_NoKeeper : PySem.W.hasDictIn K C_NoKeeper = true)
    (v_NoKeeper : PySem.W.subIn K (.ref C_NoKeeper) (.type "ValueError") = some true)
    (eg_NoKeeper : PySem.W.findIn K (.ref C_NoKeeper) "__getattribute__" = some (some (.builtin "BaseException.__getattribute__")))
    (ek_NoKeeper : PySem.W.findIn K (.ref C_NoKeeper) "__getattr__" = some none)
    (ea_NoKeeper : PySem.W.findIn K (.ref C_NoKeeper) "__class__" = some (some (.builtin "object.__class__")))
    (em_NoKeeper : PySem.W.mroIn K C_NoKeeper (.type "object") = some true)
    (s_NoKeeper_ShelfError : PySem.W.subIn K (.ref C_NoKeeper) (.ref C_ShelfError) = some true)
    (s_NoKeeper_BadCount : PySem.W.subIn K (.ref C_NoKeeper) (.ref C_BadCount) = some false)
    (s_NoKeeper_NoKeeper : PySem.W.subIn K (.ref C_NoKeeper) (.ref C_NoKeeper) = some true)
    (s_NoKeeper_BadMark : PySem.W.subIn K (.ref C_NoKeeper) (.ref C_BadMark) = some false)
    (s_NoKeeper_BadNote : PySem.W.subIn K (.ref C_NoKeeper) (.ref C_BadNote) = some false)
    (h_BadMark : PySem.W.hasDictIn K C_BadMark = true)
    (v_BadMark : PySem.W.subIn K (.ref C_BadMark) (.type "ValueError") = some true)
    (eg_BadMark : PySem.W.findIn K (.ref C_BadMark) "__getattribute__" = some (some (.builtin "BaseException.__getattribute__")))
    (ek_BadMark : PySem.W.findIn K (.ref C_BadMark) "__getattr__" = some none)
    (ea_BadMark : PySem.W.findIn K (.ref C_BadMark) "__class__" = some (some (.builtin "object.__class__")))
    (em_BadMark : PySem.W.mroIn K C_BadMark (.type "object") = some true)
    (s_BadMark_ShelfError : PySem.W.subIn K (.ref C_BadMark) (.ref C_ShelfError) = some true)
    (s_BadMark_BadCount : PySem.W.subIn K (.ref C_BadMark) (.ref C_BadCount) = some false)
    (s_BadMark_NoKeeper : PySem.W.subIn K (.ref C_BadMark) (.ref C_NoKeeper) = some false)
    (s_BadMark_BadMark : PySem.W.subIn K (.ref C_BadMark) (.ref C_BadMark) = some true)
    (s_BadMark_BadNote : PySem.W.subIn K (.ref C_BadMark) (.ref C_BadNote) = some false)
    (h_BadNote : PySem.W.hasDictIn K C_BadNote = true)
    (v_BadNote : PySem.W.subIn K (.ref C_BadNote) (.type "ValueError") = some true)
    (eg_BadNote : PySem.W.findIn K (.ref C_BadNote) "__getattribute__" = some (some (.builtin "BaseException.__getattribute__")))
    (ek_BadNote : PySem.W.findIn K (.ref C_BadNote) "__getattr__" = some none)
    (ea_BadNote : PySem.W.findIn K (.ref C_BadNote) "__class__" = some (some (.builtin "object.__class__")))
    (em_BadNote : PySem.W.mroIn K C_BadNote (.type "object") = some true)
    (s_BadNote_ShelfError : PySem.W.subIn K (.ref C_BadNote) (.ref C_ShelfError) = some true)
    (s_BadNote_BadCount : PySem.W.subIn K (.ref C_BadNote) (.ref C_BadCount) = some false)
    (s_BadNote_NoKeeper : PySem.W.subIn K (.ref C_BadNote) (.ref C_NoKeeper) = some false)
    (s_BadNote_BadMark : PySem.W.subIn K (.ref C_BadNote) (.ref C_BadMark) = some false)
    (s_BadNote_BadNote : PySem.W.subIn K (.ref C_BadNote) (.ref C_BadNote) = some true)
    (a_Store : PySem.W.nsIn K mainGlobals "Store" = some (some (.ref C)))
    (a_blank : PySem.W.nsIn K mainGlobals "blank" = some (some (.ref f_blank)))
    (l_blank : K.lookup f_blank = some ⟨oc_blank, od_blank, .func (PySem.W.fnOf "blank" "blank" (defArgs s_blank) (defBody s_blank) (defScope s_blank) .none kV_blank dc_blank pm_blank an_blank cd_blank ct_blank), sl_blank⟩)
    (c_blank : PySem.W.codeIn K cd_blank "blank" = true)
    (k_blank : PySem.W.keepIn K (.ref f_blank) = true)
    (a_need_alike : PySem.W.nsIn K mainGlobals "need_alike" = some (some (.ref f_need_alike)))
    (l_need_alike : K.lookup f_need_alike = some ⟨oc_need_alike, od_need_alike, .func (PySem.W.fnOf "need_alike" "need_alike" (defArgs s_need_alike) (defBody s_need_alike) (defScope s_need_alike) .none kV_need_alike dc_need_alike pm_need_alike an_need_alike cd_need_alike ct_need_alike), sl_need_alike⟩)
    (c_need_alike : PySem.W.codeIn K cd_need_alike "need_alike" = true)
    (k_need_alike : PySem.W.keepIn K (.ref f_need_alike) = true)
    (a_joined : PySem.W.nsIn K mainGlobals "joined" = some (some (.ref f_joined)))
    (l_joined : K.lookup f_joined = some ⟨oc_joined, od_joined, .func (PySem.W.fnOf "joined" "joined" (defArgs s_joined) (defBody s_joined) (defScope s_joined) .none kV_joined dc_joined pm_joined an_joined cd_joined ct_joined), sl_joined⟩)
    (c_joined : PySem.W.codeIn K cd_joined "joined" = true)
    (k_joined : PySem.W.keepIn K (.ref f_joined) = true)
    (a_has_seen : PySem.W.nsIn K mainGlobals "has_seen" = some (some (.ref f_has_seen)))
    (l_has_seen : K.lookup f_has_seen = some ⟨oc_has_seen, od_has_seen, .func (PySem.W.fnOf "has_seen" "has_seen" (defArgs s_has_seen) (defBody s_has_seen) (defScope s_has_seen) .none kV_has_seen dc_has_seen pm_has_seen an_has_seen cd_has_seen ct_has_seen), sl_has_seen⟩)
    (c_has_seen : PySem.W.codeIn K cd_has_seen "has_seen" = true)
    (k_has_seen : PySem.W.keepIn K (.ref f_has_seen) = true)
    (a_unseen : PySem.W.nsIn K mainGlobals "unseen" = some (some (.ref f_unseen)))
    (l_unseen : K.lookup f_unseen = some ⟨oc_unseen, od_unseen, .func (PySem.W.fnOf "unseen" "unseen" (defArgs s_unseen) (defBody s_unseen) (defScope s_unseen) .none kV_unseen dc_unseen pm_unseen an_unseen cd_unseen ct_unseen), sl_unseen⟩)
    (c_unseen : PySem.W.codeIn K cd_unseen "unseen" = true)
    (k_unseen : PySem.W.keepIn K (.ref f_unseen) = true)
    (a_put_on : PySem.W.nsIn K mainGlobals "put_on" = some (some (.ref f_put_on)))
    (l_put_on : K.lookup f_put_on = some ⟨oc_put_on, od_put_on, .func (PySem.W.fnOf "put_on" "put_on" (defArgs s_put_on) (defBody s_put_on) (defScope s_put_on) .none kV_put_on dc_put_on pm_put_on an_put_on cd_put_on ct_put_on), sl_put_on⟩)
    (c_put_on : PySem.W.codeIn K cd_put_on "put_on" = true)
    (k_put_on : PySem.W.keepIn K (.ref f_put_on) = true)
    (a_dropped : PySem.W.nsIn K mainGlobals "dropped" = some (some (.ref f_dropped)))
    (l_dropped : K.lookup f_dropped = some ⟨oc_dropped, od_dropped, .func (PySem.W.fnOf "dropped" "dropped" (defArgs s_dropped) (defBody s_dropped) (defScope s_dropped) .none kV_dropped dc_dropped pm_dropped an_dropped cd_dropped ct_dropped), sl_dropped⟩)
    (c_dropped : PySem.W.codeIn K cd_dropped "dropped" = true)
    (k_dropped : PySem.W.keepIn K (.ref f_dropped) = true)
    (a_met : PySem.W.nsIn K mainGlobals "met" = some (some (.ref f_met)))
    (l_met : K.lookup f_met = some ⟨oc_met, od_met, .func (PySem.W.fnOf "met" "met" (defArgs s_met) (defBody s_met) (defScope s_met) .none kV_met dc_met pm_met an_met cd_met ct_met), sl_met⟩)
    (c_met : PySem.W.codeIn K cd_met "met" = true)
    (k_met : PySem.W.keepIn K (.ref f_met) = true)
    (a_S_init : PySem.W.findIn K (.ref C) "__init__" = some (some (.ref f_S_init)))
    (i_S_init : PySem.W.isFn K (.ref f_S_init) = true)
    (l_S_init : K.lookup f_S_init = some ⟨oc_S_init, od_S_init, .func (PySem.W.fnOf "__init__" "Store.__init__" (defArgs s_S_init) (defBody s_S_init) (defScope s_S_init) .none kV_S_init dc_S_init pm_S_init an_S_init cd_S_init ct_S_init), sl_S_init⟩)
    (c_S_init : PySem.W.codeIn K cd_S_init "Store.__init__" = true)
    (k_S_init : PySem.W.keepIn K (.ref f_S_init) = true)
    (a_S_need_keeper : PySem.W.findIn K (.ref C) "need_keeper" = some (some (.ref f_S_need_keeper)))
    (i_S_need_keeper : PySem.W.isFn K (.ref f_S_need_keeper) = true)
    (l_S_need_keeper : K.lookup f_S_need_keeper = some ⟨oc_S_need_keeper, od_S_need_keeper, .func (PySem.W.fnOf "need_keeper" "Store.need_keeper" (defArgs s_S_need_keeper) (defBody s_S_need_keeper) (defScope s_S_need_keeper) .none kV_S_need_keeper dc_S_need_keeper pm_S_need_keeper an_S_need_keeper cd_S_need_keeper ct_S_need_keeper), sl_S_need_keeper⟩)
    (c_S_need_keeper : PySem.W.codeIn K cd_S_need_keeper "Store.need_keeper" = true)
    (k_S_need_keeper : PySem.W.keepIn K (.ref f_S_need_keeper) = true)
    (a_S_need_mark : PySem.W.findIn K (.ref C) "need_mark" = some (some (.ref f_S_need_mark)))
    (i_S_need_mark : PySem.W.isFn K (.ref f_S_need_mark) = true)
    (l_S_need_mark : K.lookup f_S_need_mark = some ⟨oc_S_need_mark, od_S_need_mark, .func (PySem.W.fnOf "need_mark" "Store.need_mark" (defArgs s_S_need_mark) (defBody s_S_need_mark) (defScope s_S_need_mark) .none kV_S_need_mark dc_S_need_mark pm_S_need_mark an_S_need_mark cd_S_need_mark ct_S_need_mark), sl_S_need_mark⟩)
    (c_S_need_mark : PySem.W.codeIn K cd_S_need_mark "Store.need_mark" = true)
    (k_S_need_mark : PySem.W.keepIn K (.ref f_S_need_mark) = true)
    (a_S_shelf : PySem.W.findIn K (.ref C) "shelf" = some (some (.ref f_S_shelf)))
    (i_S_shelf : PySem.W.isFn K (.ref f_S_shelf) = true)
    (l_S_shelf : K.lookup f_S_shelf = some ⟨oc_S_shelf, od_S_shelf, .func (PySem.W.fnOf "shelf" "Store.shelf" (defArgs s_S_shelf) (defBody s_S_shelf) (defScope s_S_shelf) .none kV_S_shelf dc_S_shelf pm_S_shelf an_S_shelf cd_S_shelf ct_S_shelf), sl_S_shelf⟩)
    (c_S_shelf : PySem.W.codeIn K cd_S_shelf "Store.shelf" = true)
    (k_S_shelf : PySem.W.keepIn K (.ref f_S_shelf) = true)
    (a_S_look : PySem.W.findIn K (.ref C) "look" = some (some (.ref f_S_look)))
    (i_S_look : PySem.W.isFn K (.ref f_S_look) = true)
    (l_S_look : K.lookup f_S_look = some ⟨oc_S_look, od_S_look, .func (PySem.W.fnOf "look" "Store.look" (defArgs s_S_look) (defBody s_S_look) (defScope s_S_look) .none kV_S_look dc_S_look pm_S_look an_S_look cd_S_look ct_S_look), sl_S_look⟩)
    (c_S_look : PySem.W.codeIn K cd_S_look "Store.look" = true)
    (k_S_look : PySem.W.keepIn K (.ref f_S_look) = true)
    (a_S_put : PySem.W.findIn K (.ref C) "put" = some (some (.ref f_S_put)))
    (i_S_put : PySem.W.isFn K (.ref f_S_put) = true)
    (l_S_put : K.lookup f_S_put = some ⟨oc_S_put, od_S_put, .func (PySem.W.fnOf "put" "Store.put" (defArgs s_S_put) (defBody s_S_put) (defScope s_S_put) .none kV_S_put dc_S_put pm_S_put an_S_put cd_S_put ct_S_put), sl_S_put⟩)
    (c_S_put : PySem.W.codeIn K cd_S_put "Store.put" = true)
    (k_S_put : PySem.W.keepIn K (.ref f_S_put) = true)
    (a_S_drop : PySem.W.findIn K (.ref C) "drop" = some (some (.ref f_S_drop)))
    (i_S_drop : PySem.W.isFn K (.ref f_S_drop) = true)
    (l_S_drop : K.lookup f_S_drop = some ⟨oc_S_drop, od_S_drop, .func (PySem.W.fnOf "drop" "Store.drop" (defArgs s_S_drop) (defBody s_S_drop) (defScope s_S_drop) .none kV_S_drop dc_S_drop pm_S_drop an_S_drop cd_S_drop ct_S_drop), sl_S_drop⟩)
    (c_S_drop : PySem.W.codeIn K cd_S_drop "Store.drop" = true)
    (k_S_drop : PySem.W.keepIn K (.ref f_S_drop) = true)
    (a_S_letter : PySem.W.findIn K (.ref C) "letter" = some (some (.ref f_S_letter)))
    (i_S_letter : PySem.W.isFn K (.ref f_S_letter) = true)
    (l_S_letter : K.lookup f_S_letter = some ⟨oc_S_letter, od_S_letter, .func (PySem.W.fnOf "letter" "Store.letter" (defArgs s_S_letter) (defBody s_S_letter) (defScope s_S_letter) .none kV_S_letter dc_S_letter pm_S_letter an_S_letter cd_S_letter ct_S_letter), sl_S_letter⟩)
    (c_S_letter : PySem.W.codeIn K cd_S_letter "Store.letter" = true)
    (k_S_letter : PySem.W.keepIn K (.ref f_S_letter) = true)
    (a_S_take : PySem.W.findIn K (.ref C) "take" = some (some (.ref f_S_take)))
    (i_S_take : PySem.W.isFn K (.ref f_S_take) = true)
    (l_S_take : K.lookup f_S_take = some ⟨oc_S_take, od_S_take, .func (PySem.W.fnOf "take" "Store.take" (defArgs s_S_take) (defBody s_S_take) (defScope s_S_take) .none kV_S_take dc_S_take pm_S_take an_S_take cd_S_take ct_S_take), sl_S_take⟩)
    (c_S_take : PySem.W.codeIn K cd_S_take "Store.take" = true)
    (k_S_take : PySem.W.keepIn K (.ref f_S_take) = true)
    (a_S_keys : PySem.W.findIn K (.ref C) "keys" = some (some (.ref f_S_keys)))
    (i_S_keys : PySem.W.isFn K (.ref f_S_keys) = true)
    (l_S_keys : K.lookup f_S_keys = some ⟨oc_S_keys, od_S_keys, .func (PySem.W.fnOf "keys" "Store.keys" (defArgs s_S_keys) (defBody s_S_keys) (defScope s_S_keys) .none kV_S_keys dc_S_keys pm_S_keys an_S_keys cd_S_keys ct_S_keys), sl_S_keys⟩)
    (c_S_keys : PySem.W.codeIn K cd_S_keys "Store.keys" = true)
    (k_S_keys : PySem.W.keepIn K (.ref f_S_keys) = true)
    (a_l_cell_at : PySem.W.nsIn K mainGlobals "_law_cell_at" = some (some (.ref f_l_cell_at)))
    (l_l_cell_at : K.lookup f_l_cell_at = some ⟨oc_l_cell_at, od_l_cell_at, .func (PySem.W.fnOf "_law_cell_at" "_law_cell_at" (defArgs s_l_cell_at) (defBody s_l_cell_at) (defScope s_l_cell_at) .none kV_l_cell_at dc_l_cell_at pm_l_cell_at an_l_cell_at cd_l_cell_at ct_l_cell_at), sl_l_cell_at⟩)
    (c_l_cell_at : PySem.W.codeIn K cd_l_cell_at "_law_cell_at" = true)
    (k_l_cell_at : PySem.W.keepIn K (.ref f_l_cell_at) = true)
    (a_l_kind : PySem.W.nsIn K mainGlobals "_law_kind" = some (some (.ref f_l_kind)))
    (l_l_kind : K.lookup f_l_kind = some ⟨oc_l_kind, od_l_kind, .func (PySem.W.fnOf "_law_kind" "_law_kind" (defArgs s_l_kind) (defBody s_l_kind) (defScope s_l_kind) .none kV_l_kind dc_l_kind pm_l_kind an_l_kind cd_l_kind ct_l_kind), sl_l_kind⟩)
    (c_l_kind : PySem.W.codeIn K cd_l_kind "_law_kind" = true)
    (k_l_kind : PySem.W.keepIn K (.ref f_l_kind) = true)
    (a_l_made : PySem.W.nsIn K mainGlobals "_law_made" = some (some (.ref f_l_made)))
    (l_l_made : K.lookup f_l_made = some ⟨oc_l_made, od_l_made, .func (PySem.W.fnOf "_law_made" "_law_made" (defArgs s_l_made) (defBody s_l_made) (defScope s_l_made) .none kV_l_made dc_l_made pm_l_made an_l_made cd_l_made ct_l_made), sl_l_made⟩)
    (c_l_made : PySem.W.codeIn K cd_l_made "_law_made" = true)
    (k_l_made : PySem.W.keepIn K (.ref f_l_made) = true)
    (a_l_spoilt : PySem.W.nsIn K mainGlobals "_law_spoilt" = some (some (.ref f_l_spoilt)))
    (l_l_spoilt : K.lookup f_l_spoilt = some ⟨oc_l_spoilt, od_l_spoilt, .func (PySem.W.fnOf "_law_spoilt" "_law_spoilt" (defArgs s_l_spoilt) (defBody s_l_spoilt) (defScope s_l_spoilt) .none kV_l_spoilt dc_l_spoilt pm_l_spoilt an_l_spoilt cd_l_spoilt ct_l_spoilt), sl_l_spoilt⟩)
    (c_l_spoilt : PySem.W.codeIn K cd_l_spoilt "_law_spoilt" = true)
    (k_l_spoilt : PySem.W.keepIn K (.ref f_l_spoilt) = true)
    (a_l_asked : PySem.W.nsIn K mainGlobals "_law_asked" = some (some (.ref f_l_asked)))
    (l_l_asked : K.lookup f_l_asked = some ⟨oc_l_asked, od_l_asked, .func (PySem.W.fnOf "_law_asked" "_law_asked" (defArgs s_l_asked) (defBody s_l_asked) (defScope s_l_asked) .none kV_l_asked dc_l_asked pm_l_asked an_l_asked cd_l_asked ct_l_asked), sl_l_asked⟩)
    (c_l_asked : PySem.W.codeIn K cd_l_asked "_law_asked" = true)
    (k_l_asked : PySem.W.keepIn K (.ref f_l_asked) = true)
    (a_l_refusal : PySem.W.nsIn K mainGlobals "_law_refusal" = some (some (.ref f_l_refusal)))
    (l_l_refusal : K.lookup f_l_refusal = some ⟨oc_l_refusal, od_l_refusal, .func (PySem.W.fnOf "_law_refusal" "_law_refusal" (defArgs s_l_refusal) (defBody s_l_refusal) (defScope s_l_refusal) .none kV_l_refusal dc_l_refusal pm_l_refusal an_l_refusal cd_l_refusal ct_l_refusal), sl_l_refusal⟩)
    (c_l_refusal : PySem.W.codeIn K cd_l_refusal "_law_refusal" = true)
    (k_l_refusal : PySem.W.keepIn K (.ref f_l_refusal) = true)
    (a_l_state : PySem.W.nsIn K mainGlobals "_law_state" = some (some (.ref f_l_state)))
    (l_l_state : K.lookup f_l_state = some ⟨oc_l_state, od_l_state, .func (PySem.W.fnOf "_law_state" "_law_state" (defArgs s_l_state) (defBody s_l_state) (defScope s_l_state) .none kV_l_state dc_l_state pm_l_state an_l_state cd_l_state ct_l_state), sl_l_state⟩)
    (c_l_state : PySem.W.codeIn K cd_l_state "_law_state" = true)
    (k_l_state : PySem.W.keepIn K (.ref f_l_state) = true)
    (a_law : PySem.W.nsIn K mainGlobals "law" = some (some (.ref f_law)))
    (l_law : K.lookup f_law = some ⟨oc_law, od_law, .func (PySem.W.fnOf "law" "law" (defArgs s_law) (defBody s_law) (defScope s_law) .none kV_law dc_law pm_law an_law cd_law ct_law), sl_law⟩)
    (c_law : PySem.W.codeIn K cd_law "law" = true)
    (k_law : PySem.W.keepIn K (.ref f_law) = true)
    (pg : PySem.W.plainGet K C Str.empty = true)
    (hd : PySem.W.hasDictIn K C = true)
    (po : PySem.W.plainOver K C = true)
    (sa : PySem.W.findIn K (.ref C) "__setattr__" = some (some (.builtin "object.__setattr__")))
    (mkk : PySem.W.makesIn K C = true)
    (kc : PySem.W.keepIn K (.ref C) = true)
    (nK : PySem.W.findIn K (.ref C) "kept" = some none)
    (nF : PySem.W.findIn K (.ref C) "first" = some none)
    (qe : PySem.W.findIn K (.ref C) "__eq__" = some (some (.builtin "object.__eq__")))
    (qm : PySem.W.mroIn K C (.type "object") = some true) :
    ∃ fd : FuncData, (∀ (s : Shared) (v : Value), BindsTo s fd ⟨[v], []⟩ [("_law_script", v)]) ∧ ∀ base : Heap, K.In base → base.Ns mainGlobals mg → FnOk l.prog w K mg base (L2.CX l.prog w) 7 fa fd ["_law_script"] (sp_law K) := by
  have e := hfa.symm.trans (PySem.W.mg_of X G a_law)
  cases e
  have T : Txt K mg ⟨C_ShelfError, C_BadCount, C_NoKeeper, C_BadMark, C_BadNote, C, f_blank, PySem.W.fnOf "blank" "blank" (defArgs s_blank) (defBody s_blank) (defScope s_blank) .none kV_blank dc_blank pm_blank an_blank cd_blank ct_blank, f_need_alike, PySem.W.fnOf "need_alike" "need_alike" (defArgs s_need_alike) (defBody s_need_alike) (defScope s_need_alike) .none kV_need_alike dc_need_alike pm_need_alike an_need_alike cd_need_alike ct_need_alike, f_joined, PySem.W.fnOf "joined" "joined" (defArgs s_joined) (defBody s_joined) (defScope s_joined) .none kV_joined dc_joined pm_joined an_joined cd_joined ct_joined, f_has_seen, PySem.W.fnOf "has_seen" "has_seen" (defArgs s_has_seen) (defBody s_has_seen) (defScope s_has_seen) .none kV_has_seen dc_has_seen pm_has_seen an_has_seen cd_has_seen ct_has_seen, f_unseen, PySem.W.fnOf "unseen" "unseen" (defArgs s_unseen) (defBody s_unseen) (defScope s_unseen) .none kV_unseen dc_unseen pm_unseen an_unseen cd_unseen ct_unseen, f_put_on, PySem.W.fnOf "put_on" "put_on" (defArgs s_put_on) (defBody s_put_on) (defScope s_put_on) .none kV_put_on dc_put_on pm_put_on an_put_on cd_put_on ct_put_on, f_dropped, PySem.W.fnOf "dropped" "dropped" (defArgs s_dropped) (defBody s_dropped) (defScope s_dropped) .none kV_dropped dc_dropped pm_dropped an_dropped cd_dropped ct_dropped, f_met, PySem.W.fnOf "met" "met" (defArgs s_met) (defBody s_met) (defScope s_met) .none kV_met dc_met pm_met an_met cd_met ct_met, f_S_init, PySem.W.fnOf "__init__" "Store.__init__" (defArgs s_S_init) (defBody s_S_init) (defScope s_S_init) .none kV_S_init dc_S_init pm_S_init an_S_init cd_S_init ct_S_init, f_S_need_keeper, PySem.W.fnOf "need_keeper" "Store.need_keeper" (defArgs s_S_need_keeper) (defBody s_S_need_keeper) (defScope s_S_need_keeper) .none kV_S_need_keeper dc_S_need_keeper pm_S_need_keeper an_S_need_keeper cd_S_need_keeper ct_S_need_keeper, f_S_need_mark, PySem.W.fnOf "need_mark" "Store.need_mark" (defArgs s_S_need_mark) (defBody s_S_need_mark) (defScope s_S_need_mark) .none kV_S_need_mark dc_S_need_mark pm_S_need_mark an_S_need_mark cd_S_need_mark ct_S_need_mark, f_S_shelf, PySem.W.fnOf "shelf" "Store.shelf" (defArgs s_S_shelf) (defBody s_S_shelf) (defScope s_S_shelf) .none kV_S_shelf dc_S_shelf pm_S_shelf an_S_shelf cd_S_shelf ct_S_shelf, f_S_look, PySem.W.fnOf "look" "Store.look" (defArgs s_S_look) (defBody s_S_look) (defScope s_S_look) .none kV_S_look dc_S_look pm_S_look an_S_look cd_S_look ct_S_look, f_S_put, PySem.W.fnOf "put" "Store.put" (defArgs s_S_put) (defBody s_S_put) (defScope s_S_put) .none kV_S_put dc_S_put pm_S_put an_S_put cd_S_put ct_S_put, f_S_drop, PySem.W.fnOf "drop" "Store.drop" (defArgs s_S_drop) (defBody s_S_drop) (defScope s_S_drop) .none kV_S_drop dc_S_drop pm_S_drop an_S_drop cd_S_drop ct_S_drop, f_S_letter, PySem.W.fnOf "letter" "Store.letter" (defArgs s_S_letter) (defBody s_S_letter) (defScope s_S_letter) .none kV_S_letter dc_S_letter pm_S_letter an_S_letter cd_S_letter ct_S_letter, f_S_take, PySem.W.fnOf "take" "Store.take" (defArgs s_S_take) (defBody s_S_take) (defScope s_S_take) .none kV_S_take dc_S_take pm_S_take an_S_take cd_S_take ct_S_take, f_S_keys, PySem.W.fnOf "keys" "Store.keys" (defArgs s_S_keys) (defBody s_S_keys) (defScope s_S_keys) .none kV_S_keys dc_S_keys pm_S_keys an_S_keys cd_S_keys ct_S_keys, f_l_cell_at, PySem.W.fnOf "_law_cell_at" "_law_cell_at" (defArgs s_l_cell_at) (defBody s_l_cell_at) (defScope s_l_cell_at) .none kV_l_cell_at dc_l_cell_at pm_l_cell_at an_l_cell_at cd_l_cell_at ct_l_cell_at, f_l_kind, PySem.W.fnOf "_law_kind" "_law_kind" (defArgs s_l_kind) (defBody s_l_kind) (defScope s_l_kind) .none kV_l_kind dc_l_kind pm_l_kind an_l_kind cd_l_kind ct_l_kind, f_l_made, PySem.W.fnOf "_law_made" "_law_made" (defArgs s_l_made) (defBody s_l_made) (defScope s_l_made) .none kV_l_made dc_l_made pm_l_made an_l_made cd_l_made ct_l_made, f_l_spoilt, PySem.W.fnOf "_law_spoilt" "_law_spoilt" (defArgs s_l_spoilt) (defBody s_l_spoilt) (defScope s_l_spoilt) .none kV_l_spoilt dc_l_spoilt pm_l_spoilt an_l_spoilt cd_l_spoilt ct_l_spoilt, f_l_asked, PySem.W.fnOf "_law_asked" "_law_asked" (defArgs s_l_asked) (defBody s_l_asked) (defScope s_l_asked) .none kV_l_asked dc_l_asked pm_l_asked an_l_asked cd_l_asked ct_l_asked, f_l_refusal, PySem.W.fnOf "_law_refusal" "_law_refusal" (defArgs s_l_refusal) (defBody s_l_refusal) (defScope s_l_refusal) .none kV_l_refusal dc_l_refusal pm_l_refusal an_l_refusal cd_l_refusal ct_l_refusal, f_l_state, PySem.W.fnOf "_law_state" "_law_state" (defArgs s_l_state) (defBody s_l_state) (defScope s_l_state) .none kV_l_state dc_l_state pm_l_state an_l_state cd_l_state ct_l_state, fa, PySem.W.fnOf "law" "law" (defArgs s_law) (defBody s_law) (defScope s_law) .none kV_law dc_law pm_law an_law cd_law ct_law⟩ := {
    n_ValueError := PySem.W.mg_none_of X G z_ValueError,
    n_bool := PySem.W.mg_none_of X G z_bool,
    n_int := PySem.W.mg_none_of X G z_int,
    n_isinstance := PySem.W.mg_none_of X G z_isinstance,
    n_len := PySem.W.mg_none_of X G z_len,
    n_list := PySem.W.mg_none_of X G z_list,
    n_max := PySem.W.mg_none_of X G z_max,
    n_range := PySem.W.mg_none_of X G z_range,
    n_sorted := PySem.W.mg_none_of X G z_sorted,
    n_tuple := PySem.W.mg_none_of X G z_tuple,
    g_MOST_KEEPERS := c_MOST_KEEPERS.elim fun t h => ⟨t, PySem.W.mg_of X G h⟩,
    g_ShelfError := PySem.W.mg_of X G a_ShelfError,
    x_ShelfError := x_ShelfError,
    k_ShelfError := k_ShelfError,
    b_ShelfError := b_ShelfError,
    t_ShelfError := t_ShelfError,
    h_ShelfError := h_ShelfError,
    v_ShelfError := v_ShelfError,
    e_ShelfError := ⟨eg_ShelfError, ek_ShelfError, b_ShelfError, h_ShelfError, ea_ShelfError, ecn, ect, em_ShelfError⟩,
    s_ShelfError_ShelfError := s_ShelfError_ShelfError,
    s_ShelfError_BadCount := s_ShelfError_BadCount,
    s_ShelfError_NoKeeper := s_ShelfError_NoKeeper,
    s_ShelfError_BadMark := s_ShelfError_BadMark,
    s_ShelfError_BadNote := s_ShelfError_BadNote,
    g_BadCount := PySem.W.mg_of X G a_BadCount,
    x_BadCount := x_BadCount,
    k_BadCount := k_BadCount,
    b_BadCount := b_BadCount,
    t_BadCount := t_BadCount,
    h_BadCount := h_BadCount,
    v_BadCount := v_BadCount,
    e_BadCount := ⟨eg_BadCount, ek_BadCount, b_BadCount, h_BadCount, ea_BadCount, ecn, ect, em_BadCount⟩,
    s_BadCount_ShelfError := s_BadCount_ShelfError,
    s_BadCount_BadCount := s_BadCount_BadCount,
    s_BadCount_NoKeeper := s_BadCount_NoKeeper,
    s_BadCount_BadMark := s_BadCount_BadMark,
    s_BadCount_BadNote := s_BadCount_BadNote,
    g_NoKeeper := PySem.W.mg_of X G a_NoKeeper,
    x_NoKeeper := x_NoKeeper,
    k_NoKeeper := k_NoKeeper,
    b_NoKeeper := b_NoKeeper,
    t_NoKeeper := t_NoKeeper,
    h_NoKeeper := h_NoKeeper,
    v_NoKeeper := v_NoKeeper,
    e_NoKeeper := ⟨eg_NoKeeper, ek_NoKeeper, b_NoKeeper, h_NoKeeper, ea_NoKeeper, ecn, ect, em_NoKeeper⟩,
    s_NoKeeper_ShelfError := s_NoKeeper_ShelfError,
    s_NoKeeper_BadCount := s_NoKeeper_BadCount,
    s_NoKeeper_NoKeeper := s_NoKeeper_NoKeeper,
    s_NoKeeper_BadMark := s_NoKeeper_BadMark,
    s_NoKeeper_BadNote := s_NoKeeper_BadNote,
    g_BadMark := PySem.W.mg_of X G a_BadMark,
    x_BadMark := x_BadMark,
    k_BadMark := k_BadMark,
    b_BadMark := b_BadMark,
    t_BadMark := t_BadMark,
    h_BadMark := h_BadMark,
    v_BadMark := v_BadMark,
    e_BadMark := ⟨eg_BadMark, ek_BadMark, b_BadMark, h_BadMark, ea_BadMark, ecn, ect, em_BadMark⟩,
    s_BadMark_ShelfError := s_BadMark_ShelfError,
    s_BadMark_BadCount := s_BadMark_BadCount,
    s_BadMark_NoKeeper := s_BadMark_NoKeeper,
    s_BadMark_BadMark := s_BadMark_BadMark,
    s_BadMark_BadNote := s_BadMark_BadNote,
    g_BadNote := PySem.W.mg_of X G a_BadNote,
    x_BadNote := x_BadNote,
    k_BadNote := k_BadNote,
    b_BadNote := b_BadNote,
    t_BadNote := t_BadNote,
    h_BadNote := h_BadNote,
    v_BadNote := v_BadNote,
    e_BadNote := ⟨eg_BadNote, ek_BadNote, b_BadNote, h_BadNote, ea_BadNote, ecn, ect, em_BadNote⟩,
    s_BadNote_ShelfError := s_BadNote_ShelfError,
    s_BadNote_BadCount := s_BadNote_BadCount,
    s_BadNote_NoKeeper := s_BadNote_NoKeeper,
    s_BadNote_BadMark := s_BadNote_BadMark,
    s_BadNote_BadNote := s_BadNote_BadNote,
    cl := ⟨pg, hd, po, sa⟩,
    mks := ⟨mkk, a_S_init, i_S_init, kc⟩,
    g_Store := PySem.W.mg_of X G a_Store,
    nA_first := nF,
    nA_kept := nK,
    q_eq := qe,
    q_mro := qm,
    F_blank := fun_mk (st := s_blank) l_blank c_blank k_blank,
    b_blank := (fun_mk (st := s_blank) l_blank c_blank k_blank).binds fun _ _ _ _ _ _ us hl => match us, hl with | [_], _ => rfl,
    k_blank := k_blank,
    g_blank := PySem.W.mg_of X G a_blank,
    F_need_alike := fun_mk (st := s_need_alike) l_need_alike c_need_alike k_need_alike,
    b_need_alike := (fun_mk (st := s_need_alike) l_need_alike c_need_alike k_need_alike).binds fun _ _ _ _ _ _ us hl => match us, hl with | [_, _], _ => rfl,
    k_need_alike := k_need_alike,
    g_need_alike := PySem.W.mg_of X G a_need_alike,
    F_joined := fun_mk (st := s_joined) l_joined c_joined k_joined,
    b_joined := (fun_mk (st := s_joined) l_joined c_joined k_joined).binds fun _ _ _ _ _ _ us hl => match us, hl with | [_, _], _ => rfl,
    k_joined := k_joined,
    g_joined := PySem.W.mg_of X G a_joined,
    F_has_seen := fun_mk (st := s_has_seen) l_has_seen c_has_seen k_has_seen,
    b_has_seen := (fun_mk (st := s_has_seen) l_has_seen c_has_seen k_has_seen).binds fun _ _ _ _ _ _ us hl => match us, hl with | [_, _, _], _ => rfl,
    k_has_seen := k_has_seen,
    g_has_seen := PySem.W.mg_of X G a_has_seen,
    F_unseen := fun_mk (st := s_unseen) l_unseen c_unseen k_unseen,
    b_unseen := (fun_mk (st := s_unseen) l_unseen c_unseen k_unseen).binds fun _ _ _ _ _ _ us hl => match us, hl with | [_, _], _ => rfl,
    k_unseen := k_unseen,
    g_unseen := PySem.W.mg_of X G a_unseen,
    F_put_on := fun_mk (st := s_put_on) l_put_on c_put_on k_put_on,
    b_put_on := (fun_mk (st := s_put_on) l_put_on c_put_on k_put_on).binds fun _ _ _ _ _ _ us hl => match us, hl with | [_, _, _, _], _ => rfl,
    k_put_on := k_put_on,
    g_put_on := PySem.W.mg_of X G a_put_on,
    F_dropped := fun_mk (st := s_dropped) l_dropped c_dropped k_dropped,
    b_dropped := (fun_mk (st := s_dropped) l_dropped c_dropped k_dropped).binds fun _ _ _ _ _ _ us hl => match us, hl with | [_, _], _ => rfl,
    k_dropped := k_dropped,
    g_dropped := PySem.W.mg_of X G a_dropped,
    F_met := fun_mk (st := s_met) l_met c_met k_met,
    b_met := (fun_mk (st := s_met) l_met c_met k_met).binds fun _ _ _ _ _ _ us hl => match us, hl with | [_, _], _ => rfl,
    k_met := k_met,
    g_met := PySem.W.mg_of X G a_met,
    F_S_init := fun_mk (st := s_S_init) l_S_init c_S_init k_S_init,
    b_S_init := (fun_mk (st := s_S_init) l_S_init c_S_init k_S_init).binds fun _ _ _ _ _ _ us hl => match us, hl with | [_, _], _ => rfl,
    k_S_init := k_S_init,
    m_S_init := ⟨a_S_init, i_S_init, k_S_init⟩,
    F_S_need_keeper := fun_mk (st := s_S_need_keeper) l_S_need_keeper c_S_need_keeper k_S_need_keeper,
    b_S_need_keeper := (fun_mk (st := s_S_need_keeper) l_S_need_keeper c_S_need_keeper k_S_need_keeper).binds fun _ _ _ _ _ _ us hl => match us, hl with | [_, _], _ => rfl,
    k_S_need_keeper := k_S_need_keeper,
    m_S_need_keeper := ⟨a_S_need_keeper, i_S_need_keeper, k_S_need_keeper⟩,
    F_S_need_mark := fun_mk (st := s_S_need_mark) l_S_need_mark c_S_need_mark k_S_need_mark,
    b_S_need_mark := (fun_mk (st := s_S_need_mark) l_S_need_mark c_S_need_mark k_S_need_mark).binds fun _ _ _ _ _ _ us hl => match us, hl with | [_, _], _ => rfl,
    k_S_need_mark := k_S_need_mark,
    m_S_need_mark := ⟨a_S_need_mark, i_S_need_mark, k_S_need_mark⟩,
    F_S_shelf := fun_mk (st := s_S_shelf) l_S_shelf c_S_shelf k_S_shelf,
    b_S_shelf := (fun_mk (st := s_S_shelf) l_S_shelf c_S_shelf k_S_shelf).binds fun _ _ _ _ _ _ us hl => match us, hl with | [_, _, _], _ => rfl,
    k_S_shelf := k_S_shelf,
    m_S_shelf := ⟨a_S_shelf, i_S_shelf, k_S_shelf⟩,
    F_S_look := fun_mk (st := s_S_look) l_S_look c_S_look k_S_look,
    b_S_look := (fun_mk (st := s_S_look) l_S_look c_S_look k_S_look).binds fun _ _ _ _ _ _ us hl => match us, hl with | [_, _, _], _ => rfl,
    k_S_look := k_S_look,
    m_S_look := ⟨a_S_look, i_S_look, k_S_look⟩,
    F_S_put := fun_mk (st := s_S_put) l_S_put c_S_put k_S_put,
    b_S_put := (fun_mk (st := s_S_put) l_S_put c_S_put k_S_put).binds fun _ _ _ _ _ _ us hl => match us, hl with | [_, _, _, _, _], _ => rfl,
    k_S_put := k_S_put,
    m_S_put := ⟨a_S_put, i_S_put, k_S_put⟩,
    F_S_drop := fun_mk (st := s_S_drop) l_S_drop c_S_drop k_S_drop,
    b_S_drop := (fun_mk (st := s_S_drop) l_S_drop c_S_drop k_S_drop).binds fun _ _ _ _ _ _ us hl => match us, hl with | [_, _, _, _], _ => rfl,
    k_S_drop := k_S_drop,
    m_S_drop := ⟨a_S_drop, i_S_drop, k_S_drop⟩,
    F_S_letter := fun_mk (st := s_S_letter) l_S_letter c_S_letter k_S_letter,
    b_S_letter := (fun_mk (st := s_S_letter) l_S_letter c_S_letter k_S_letter).binds fun _ _ _ _ _ _ us hl => match us, hl with | [_, _, _], _ => rfl,
    k_S_letter := k_S_letter,
    m_S_letter := ⟨a_S_letter, i_S_letter, k_S_letter⟩,
    F_S_take := fun_mk (st := s_S_take) l_S_take c_S_take k_S_take,
    b_S_take := (fun_mk (st := s_S_take) l_S_take c_S_take k_S_take).binds fun _ _ _ _ _ _ us hl => match us, hl with | [_, _, _], _ => rfl,
    k_S_take := k_S_take,
    m_S_take := ⟨a_S_take, i_S_take, k_S_take⟩,
    F_S_keys := fun_mk (st := s_S_keys) l_S_keys c_S_keys k_S_keys,
    b_S_keys := (fun_mk (st := s_S_keys) l_S_keys c_S_keys k_S_keys).binds fun _ _ _ _ _ _ us hl => match us, hl with | [_, _], _ => rfl,
    k_S_keys := k_S_keys,
    m_S_keys := ⟨a_S_keys, i_S_keys, k_S_keys⟩,
    F_l_cell_at := fun_mk (st := s_l_cell_at) l_l_cell_at c_l_cell_at k_l_cell_at,
    b_l_cell_at := (fun_mk (st := s_l_cell_at) l_l_cell_at c_l_cell_at k_l_cell_at).binds fun _ _ _ _ _ _ us hl => match us, hl with | [_, _], _ => rfl,
    k_l_cell_at := k_l_cell_at,
    g_l_cell_at := PySem.W.mg_of X G a_l_cell_at,
    F_l_kind := fun_mk (st := s_l_kind) l_l_kind c_l_kind k_l_kind,
    b_l_kind := (fun_mk (st := s_l_kind) l_l_kind c_l_kind k_l_kind).binds fun _ _ _ _ _ _ us hl => match us, hl with | [_], _ => rfl,
    k_l_kind := k_l_kind,
    g_l_kind := PySem.W.mg_of X G a_l_kind,
    F_l_made := fun_mk (st := s_l_made) l_l_made c_l_made k_l_made,
    b_l_made := (fun_mk (st := s_l_made) l_l_made c_l_made k_l_made).binds fun _ _ _ _ _ _ us hl => match us, hl with | [_], _ => rfl,
    k_l_made := k_l_made,
    g_l_made := PySem.W.mg_of X G a_l_made,
    F_l_spoilt := fun_mk (st := s_l_spoilt) l_l_spoilt c_l_spoilt k_l_spoilt,
    b_l_spoilt := (fun_mk (st := s_l_spoilt) l_l_spoilt c_l_spoilt k_l_spoilt).binds fun _ _ _ _ _ _ us hl => match us, hl with | [_, _], _ => rfl,
    k_l_spoilt := k_l_spoilt,
    g_l_spoilt := PySem.W.mg_of X G a_l_spoilt,
    F_l_asked := fun_mk (st := s_l_asked) l_l_asked c_l_asked k_l_asked,
    b_l_asked := (fun_mk (st := s_l_asked) l_l_asked c_l_asked k_l_asked).binds fun _ _ _ _ _ _ us hl => match us, hl with | [_, _, _, _, _], _ => rfl,
    k_l_asked := k_l_asked,
    g_l_asked := PySem.W.mg_of X G a_l_asked,
    F_l_refusal := fun_mk (st := s_l_refusal) l_l_refusal c_l_refusal k_l_refusal,
    b_l_refusal := (fun_mk (st := s_l_refusal) l_l_refusal c_l_refusal k_l_refusal).binds fun _ _ _ _ _ _ us hl => match us, hl with | [_, _, _, _, _], _ => rfl,
    k_l_refusal := k_l_refusal,
    g_l_refusal := PySem.W.mg_of X G a_l_refusal,
    F_l_state := fun_mk (st := s_l_state) l_l_state c_l_state k_l_state,
    b_l_state := (fun_mk (st := s_l_state) l_l_state c_l_state k_l_state).binds fun _ _ _ _ _ _ us hl => match us, hl with | [_, _], _ => rfl,
    k_l_state := k_l_state,
    g_l_state := PySem.W.mg_of X G a_l_state,
    F_law := fun_mk (st := s_law) l_law c_law k_law,
    b_law := (fun_mk (st := s_law) l_law c_law k_law).binds fun _ _ _ _ _ _ us hl => match us, hl with | [_], _ => rfl,
    k_law := k_law,
    g_law := PySem.W.mg_of X G a_law }
  exact ⟨_, fun s v => .of_eq rfl, fun base _ _ => ok_law T⟩

theorem walk {l : PySem.W.OpenLaw} {q : Program} {loose : List Str} {XP : (Str → Option Value) → Heap → Prop} {YP : World → Heap → Prop} {d : DefRec} {K : Params → Frag} (hn : l.most = some 63) (hdf : d.params.defaults = [])
    (hY : ∀ (w : World) (h : Heap), YP w h → (K w.params).In h)
    (F : ∀ (w : World) (mg : Str → Option Value) (fa : Addr) (h : Heap), (K w.params).In h → h.Ns mainGlobals mg → mg d.name = some (.ref fa) →
      ∃ fd : FuncData, (∀ (s : Shared) (u : Value), BindsTo s fd ⟨[u], []⟩ [("_law_script", u)]) ∧ ∀ base : Heap, (K w.params).In base → base.Ns mainGlobals mg → FnOk l.prog w (K w.params) mg base (L2.CX l.prog w) 7 fa fd ["_law_script"] (sp_law (K w.params))) :
    PySem.W.WalkO q loose XP YP l.row.toRowW d [] (fun f vs => PySem.call f vs) :=
  L2.walk_of (n := 63) (k := 7) (x := "_law_script") (CX := fun w => L2.CX l.prog w) (sp := fun w => sp_law (K w.params)) hn (by decide) hdf ⟨rfl, by decide, by decide⟩ hY F (fun _ _ a ns hl _ hS => ⟨a, ns, rfl, hS, hl, fun _ => rfl⟩) fun _ _ _ _ _ z => by
    obtain ⟨_, _, _, _, _, _, _, _, _, _, _, _, z⟩ := z
    exact z
end Sb
open PySem PySem.W PyProof.Rows
set_option maxRecDepth 100000 in
set_option maxHeartbeats 0 in
theorem PySem.Challenge.cw_siblingshelf_k06_refused_holds : PySem.Challenge.rw_siblingshelf_k06_refused.Holds := by
  w_on; o_law; k_head; (case hw => w_witness2)
  k_fill
  refine Sb.walk (l := PySem.Challenge.rw_siblingshelf_k06_refused) rfl rfl (fun w h Y => PySem.W.kIn_of Y) ?F
  case F =>
    intro w mg fa h KX G hmg
    refine' Sb.all_mk KX G hmg ?z_ValueError ?z_bool ?z_int ?z_isinstance ?z_len ?z_list ?z_max ?z_range ?z_sorted ?z_tuple ?c_MOST_KEEPERS ?a_ShelfError ?x_ShelfError ?k_ShelfError ?b_ShelfError ?t_ShelfError ?a_BadCount ?x_BadCount ?k_BadCount ?b_BadCount ?t_BadCount ?a_NoKeeper ?x_NoKeeper ?k_NoKeeper ?b_NoKeeper ?t_NoKeeper ?a_BadMark ?x_BadMark ?k_BadMark ?b_BadMark ?t_BadMark ?a_BadNote ?x_BadNote ?k_BadNote ?b_BadNote ?t_BadNote ?ecn ?ect ?h_ShelfError ?v_ShelfError ?eg_ShelfError ?ek_ShelfError ?ea_ShelfError ?em_ShelfError ?s_ShelfError_ShelfError ?s_ShelfError_BadCount ?s_ShelfError_NoKeeper ?s_ShelfError_BadMark ?s_ShelfError_BadNote ?h_BadCount ?v_BadCount ?eg_BadCount ?ek_BadCount ?ea_BadCount ?em_BadCount ?s_BadCount_ShelfError ?s_BadCount_BadCount ?s_BadCount_NoKeeper ?s_BadCount_BadMark ?s_BadCount_BadNote ?h_NoKeeper ?v_NoKeeper ?eg_NoKeeper ?ek_NoKeeper ?ea_NoKeeper ?em_NoKeeper ?s_NoKeeper_ShelfError ?s_NoKeeper_BadCount ?s_NoKeeper_NoKeeper ?s_NoKeeper_BadMark ?s_NoKeeper_BadNote ?h_BadMark ?v_BadMark ?eg_BadMark ?ek_BadMark ?ea_BadMark ?em_BadMark ?s_BadMark_ShelfError ?s_BadMark_BadCount ?s_BadMark_NoKeeper ?s_BadMark_BadMark ?s_BadMark_BadNote ?h_BadNote ?v_BadNote ?eg_BadNote ?ek_BadNote ?ea_BadNote ?em_BadNote ?s_BadNote_ShelfError ?s_BadNote_BadCount ?s_BadNote_NoKeeper ?s_BadNote_BadMark ?s_BadNote_BadNote ?a_Store ?a_blank ?l_blank ?c_blank ?k_blank ?a_need_alike ?l_need_alike ?c_need_alike ?k_need_alike ?a_joined ?l_joined ?c_joined ?k_joined ?a_has_seen ?l_has_seen ?c_has_seen ?k_has_seen ?a_unseen ?l_unseen ?c_unseen ?k_unseen ?a_put_on ?l_put_on ?c_put_on ?k_put_on ?a_dropped ?l_dropped ?c_dropped ?k_dropped ?a_met ?l_met ?c_met ?k_met ?a_S_init ?i_S_init ?l_S_init ?c_S_init ?k_S_init ?a_S_need_keeper ?i_S_need_keeper ?l_S_need_keeper ?c_S_need_keeper ?k_S_need_keeper ?a_S_need_mark ?i_S_need_mark ?l_S_need_mark ?c_S_need_mark ?k_S_need_mark ?a_S_shelf ?i_S_shelf ?l_S_shelf ?c_S_shelf ?k_S_shelf ?a_S_look ?i_S_look ?l_S_look ?c_S_look ?k_S_look ?a_S_put ?i_S_put ?l_S_put ?c_S_put ?k_S_put ?a_S_drop ?i_S_drop ?l_S_drop ?c_S_drop ?k_S_drop ?a_S_letter ?i_S_letter ?l_S_letter ?c_S_letter ?k_S_letter ?a_S_take ?i_S_take ?l_S_take ?c_S_take ?k_S_take ?a_S_keys ?i_S_keys ?l_S_keys ?c_S_keys ?k_S_keys ?a_l_cell_at ?l_l_cell_at ?c_l_cell_at ?k_l_cell_at ?a_l_kind ?l_l_kind ?c_l_kind ?k_l_kind ?a_l_made ?l_l_made ?c_l_made ?k_l_made ?a_l_spoilt ?l_l_spoilt ?c_l_spoilt ?k_l_spoilt ?a_l_asked ?l_l_asked ?c_l_asked ?k_l_asked ?a_l_refusal ?l_l_refusal ?c_l_refusal ?k_l_refusal ?a_l_state ?l_l_state ?c_l_state ?k_l_state ?a_law ?l_law ?c_law ?k_law ?pg ?hd ?po ?sa ?mkk ?kc ?nK ?nF ?qe ?qm
    (case z_ValueError => k_is)
    (case z_bool => k_is)
    (case z_int => k_is)
    (case z_isinstance => k_is)
    (case z_len => k_is)
    (case z_list => k_is)
    (case z_max => k_is)
    (case z_range => k_is)
    (case z_sorted => k_is)
    (case z_tuple => k_is)
    (case c_MOST_KEEPERS => exact ⟨_, by k_is⟩)
    (case a_ShelfError => k_is)
    (case x_ShelfError => k_exc)
    (case k_ShelfError => k_is)
    (case b_ShelfError => k_is)
    (case t_ShelfError => k_is)
    (case a_BadCount => k_is)
    (case x_BadCount => k_exc)
    (case k_BadCount => k_is)
    (case b_BadCount => k_is)
    (case t_BadCount => k_is)
    (case a_NoKeeper => k_is)
    (case x_NoKeeper => k_exc)
    (case k_NoKeeper => k_is)
    (case b_NoKeeper => k_is)
    (case t_NoKeeper => k_is)
    (case a_BadMark => k_is)
    (case x_BadMark => k_exc)
    (case k_BadMark => k_is)
    (case b_BadMark => k_is)
    (case t_BadMark => k_is)
    (case a_BadNote => k_is)
    (case x_BadNote => k_exc)
    (case k_BadNote => k_is)
    (case b_BadNote => k_is)
    (case t_BadNote => k_is)
    (case ecn => k_is)
    (case ect => k_is)
    (case h_ShelfError => k_is)
    (case v_ShelfError => k_is)
    (case eg_ShelfError => k_is)
    (case ek_ShelfError => k_is)
    (case ea_ShelfError => k_is)
    (case em_ShelfError => k_is)
    (case s_ShelfError_ShelfError => k_is)
    (case s_ShelfError_BadCount => k_is)
    (case s_ShelfError_NoKeeper => k_is)
    (case s_ShelfError_BadMark => k_is)
    (case s_ShelfError_BadNote => k_is)
    (case h_BadCount => k_is)
    (case v_BadCount => k_is)
    (case eg_BadCount => k_is)
    (case ek_BadCount => k_is)
    (case ea_BadCount => k_is)
    (case em_BadCount => k_is)
    (case s_BadCount_ShelfError => k_is)
    (case s_BadCount_BadCount => k_is)
    (case s_BadCount_NoKeeper => k_is)
    (case s_BadCount_BadMark => k_is)
    (case s_BadCount_BadNote => k_is)
    (case h_NoKeeper => k_is)
    (case v_NoKeeper => k_is)
    (case eg_NoKeeper => k_is)
    (case ek_NoKeeper => k_is)
    (case ea_NoKeeper => k_is)
    (case em_NoKeeper => k_is)
    (case s_NoKeeper_ShelfError => k_is)
    (case s_NoKeeper_BadCount => k_is)
    (case s_NoKeeper_NoKeeper => k_is)
    (case s_NoKeeper_BadMark => k_is)
    (case s_NoKeeper_BadNote => k_is)
    (case h_BadMark => k_is)
    (case v_BadMark => k_is)
    (case eg_BadMark => k_is)
    (case ek_BadMark => k_is)
    (case ea_BadMark => k_is)
    (case em_BadMark => k_is)
    (case s_BadMark_ShelfError => k_is)
    (case s_BadMark_BadCount => k_is)
    (case s_BadMark_NoKeeper => k_is)
    (case s_BadMark_BadMark => k_is)
    (case s_BadMark_BadNote => k_is)
    (case h_BadNote => k_is)
    (case v_BadNote => k_is)
    (case eg_BadNote => k_is)
    (case ek_BadNote => k_is)
    (case ea_BadNote => k_is)
    (case em_BadNote => k_is)
    (case s_BadNote_ShelfError => k_is)
    (case s_BadNote_BadCount => k_is)
    (case s_BadNote_NoKeeper => k_is)
    (case s_BadNote_BadMark => k_is)
    (case s_BadNote_BadNote => k_is)
    (case a_Store => k_is)
    (case a_blank => k_is)
    (case l_blank => k_is)
    (case c_blank => k_is)
    (case k_blank => k_is)
    (case a_need_alike => k_is)
    (case l_need_alike => k_is)
    (case c_need_alike => k_is)
    (case k_need_alike => k_is)
    (case a_joined => k_is)
    (case l_joined => k_is)
    (case c_joined => k_is)
    (case k_joined => k_is)
    (case a_has_seen => k_is)
    (case l_has_seen => k_is)
    (case c_has_seen => k_is)
    (case k_has_seen => k_is)
    (case a_unseen => k_is)
    (case l_unseen => k_is)
    (case c_unseen => k_is)
    (case k_unseen => k_is)
    (case a_put_on => k_is)
    (case l_put_on => k_is)
    (case c_put_on => k_is)
    (case k_put_on => k_is)
    (case a_dropped => k_is)
    (case l_dropped => k_is)
    (case c_dropped => k_is)
    (case k_dropped => k_is)
    (case a_met => k_is)
    (case l_met => k_is)
    (case c_met => k_is)
    (case k_met => k_is)
    (case a_S_init => k_is)
    (case i_S_init => k_is)
    (case l_S_init => k_is)
    (case c_S_init => k_is)
    (case k_S_init => k_is)
    (case a_S_need_keeper => k_is)
    (case i_S_need_keeper => k_is)
    (case l_S_need_keeper => k_is)
    (case c_S_need_keeper => k_is)
    (case k_S_need_keeper => k_is)
    (case a_S_need_mark => k_is)
    (case i_S_need_mark => k_is)
    (case l_S_need_mark => k_is)
    (case c_S_need_mark => k_is)
    (case k_S_need_mark => k_is)
    (case a_S_shelf => k_is)
    (case i_S_shelf => k_is)
    (case l_S_shelf => k_is)
    (case c_S_shelf => k_is)
    (case k_S_shelf => k_is)
    (case a_S_look => k_is)
    (case i_S_look => k_is)
    (case l_S_look => k_is)
    (case c_S_look => k_is)
    (case k_S_look => k_is)
    (case a_S_put => k_is)
    (case i_S_put => k_is)
    (case l_S_put => k_is)
    (case c_S_put => k_is)
    (case k_S_put => k_is)
    (case a_S_drop => k_is)
    (case i_S_drop => k_is)
    (case l_S_drop => k_is)
    (case c_S_drop => k_is)
    (case k_S_drop => k_is)
    (case a_S_letter => k_is)
    (case i_S_letter => k_is)
    (case l_S_letter => k_is)
    (case c_S_letter => k_is)
    (case k_S_letter => k_is)
    (case a_S_take => k_is)
    (case i_S_take => k_is)
    (case l_S_take => k_is)
    (case c_S_take => k_is)
    (case k_S_take => k_is)
    (case a_S_keys => k_is)
    (case i_S_keys => k_is)
    (case l_S_keys => k_is)
    (case c_S_keys => k_is)
    (case k_S_keys => k_is)
    (case a_l_cell_at => k_is)
    (case l_l_cell_at => k_is)
    (case c_l_cell_at => k_is)
    (case k_l_cell_at => k_is)
    (case a_l_kind => k_is)
    (case l_l_kind => k_is)
    (case c_l_kind => k_is)
    (case k_l_kind => k_is)
    (case a_l_made => k_is)
    (case l_l_made => k_is)
    (case c_l_made => k_is)
    (case k_l_made => k_is)
    (case a_l_spoilt => k_is)
    (case l_l_spoilt => k_is)
    (case c_l_spoilt => k_is)
    (case k_l_spoilt => k_is)
    (case a_l_asked => k_is)
    (case l_l_asked => k_is)
    (case c_l_asked => k_is)
    (case k_l_asked => k_is)
    (case a_l_refusal => k_is)
    (case l_l_refusal => k_is)
    (case c_l_refusal => k_is)
    (case k_l_refusal => k_is)
    (case a_l_state => k_is)
    (case l_l_state => k_is)
    (case c_l_state => k_is)
    (case k_l_state => k_is)
    (case a_law => k_is)
    (case l_law => k_is)
    (case c_law => k_is)
    (case k_law => k_is)
    (case pg => k_is)
    (case hd => k_is)
    (case po => k_is)
    (case sa => k_is)
    (case mkk => k_is)
    (case kc => k_is)
    (case nK => k_is)
    (case nF => k_is)
    (case qe => k_is)
    (case qm => k_is)
#print axioms PySem.Challenge.cw_siblingshelf_k06_refused_holds


