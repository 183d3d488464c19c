import PyProof.Rows.All
import Wide.All
import OpenK.AllK
import Wide.FinOn
import HandS.ForMost
import KE.GoesMore
import HandS.TupMul
import HandS.Style
import HandS.Rev
import HandS.RevRange
import KE.KRevSl
import HandS.Flow
import HandS.TupAny
import HandS.Exc
import HandS.HeadHook1
import HandS.SortInts
import HandS.RaiseMore
import HandS.IsInst
import HandS.SortKw
import HandS.Conv
import KE.KTupSum
import KE.DataMinMax
import HandS.Comp
import HandS.SetFor
import HandS.Deep
import HandS.Small
import HandS.More
import HandS.Iter
import HandS.Zip
import HandS.ExcOwn
import HandS.CallSlots
import HandS.Defaults
import HandS.ExcInit
import HandS.ExcField
import KE.KExcInit
import HandS.HeadHook2
import HandS.TryMany
import KE.KTryMore
import KE.KExcHit
import HandS.ExcIs
import HandS.HotCalls
import KE.KExcIs
import HandS.WordsExc
import HandS.Head0
import HandS.Head1
import HandS.Head2
import HandS.HeadEnd
import HandS.Ends
import PyProof.ReprBulk
import KE.KxText
import PySem.Challenge.RW_leftspaces_k58_whole_anew_by_all_lays
set_option Elab.async false
set_option linter.all false
set_option maxRecDepth 100000
set_option maxHeartbeats 4000000
/-! Pf0: enumerate(a tuple), in the model and over the hand layer. -/
namespace Pf0
open PySem L2 PyProof.Rows
open AutoSeq1 (wpAny_loadPart')
/-- the pair of objects that enumerate(t) lays -/
def enumHeap (h : Heap) (t : Addr) : Heap := (h.push { cls := .type "tuple_iterator", data := .fields #[.ref t, .int 0 0] }).push { cls := .type "enumerate", data := .fields #[.none, .bool false, .ref h.objs.size, rawInt 0, .none, .none] }
theorem enum_new (t : Addr) (its : Array Value) (n : Nat) (od : Option Addr) (sl : Array (Option Value)) :
    Meets (Builtin.«enumerate.__new__» ⟨[.type "enumerate", .ref t], []⟩) (fun _ R s => s.heap.get? t = some { cls := .type "tuple", dict := od, data := .seq its n, slots := sl } ∧
      R (.ok (.ret (.ref (s.heap.push { cls := .type "tuple_iterator", data := .fields #[.ref t, .int 0 0] }).objs.size))) { s with heap := enumHeap s.heap t }) :=
  .of_wp fun prog w A R s h => by
    obtain ⟨hp, gs, dr, tk, os⟩ := s
    obtain ⟨ht, h⟩ := h
    have sub := sub_enumerate
    have isT : Heap.IsTuple (Shared.heap ⟨hp, gs, dr, tk, os⟩) t its := ⟨_, ht, rfl, n, rfl⟩
    wp_walk using wpAny_loadPart' ht
    refine wpAny_stack_any fun st => wpAny_pure ?_
    split
    · rename_i c _ _ _ _ _
      cases (c == Value.type "enumerate") <;> (wp_walk using wpAny_loadPart' ht, wpAny_pyIter_tuple isT; exact ⟨_, rfl, h⟩)
    · wp_walk using wpAny_loadPart' ht, wpAny_pyIter_tuple isT
      exact ⟨_, rfl, h⟩
theorem enum_call {prog : Program} {w : World} {A : Around} {E : Value → Shared → Prop} {s : Shared} {t : Addr} {its : Array Value} {Q : Value → Shared → Prop} (isT : s.heap.IsTuple t its)
    (h : ∀ h', IsEnum h' (s.heap.objs.size + 1) s.heap.objs.size 0 .none → h'.IsTupleIter s.heap.objs.size t 0 → h'.objs.size = s.heap.objs.size + 2 →
      (∀ b o, s.heap.get? b = some o → h'.get? b = some o) → Q (.ref (s.heap.objs.size + 1)) { s with heap := h' }) :
    wpAny (model prog w) A (call (.type "enumerate") [.ref t]) Q E s := by
  obtain ⟨⟨c, od, dt, sl⟩, ht, hc, n, hd⟩ := isT
  obtain rfl : c = .type "tuple" := hc
  obtain rfl : dt = .seq its n := hd
  refine callType_new F.called_enumerate (by decide) (F.typeCall_enumerate_1 _) (F.newCall_enumerate_1 _) (fun obj => F.args_object_init_2 obj _) F.entry_enumerate_new (enum_new t its n od sl) ⟨ht, ?_⟩
  have sz : (s.heap.push { cls := .type "tuple_iterator", data := .fields #[.ref t, .int 0 0] }).objs.size = s.heap.objs.size + 1 := Heap.size_push ..
  show _ ∧ _
  rw [sz]
  have he : IsEnum (enumHeap s.heap t) (s.heap.objs.size + 1) s.heap.objs.size 0 .none := by
    have q := Heap.get?_push_size (s.heap.push { cls := .type "tuple_iterator", data := .fields #[.ref t, .int 0 0] }) (o := { cls := .type "enumerate", data := .fields #[.none, .bool false, .ref s.heap.objs.size, rawInt 0, .none, .none] }) rfl
    rw [sz] at q
    exact q
  refine ⟨⟨_, he, rfl⟩, h _ he ⟨_, Heap.get?_push_of_some _ (Heap.get?_push_size _ rfl), rfl, rfl⟩ ?_ fun b o x => Heap.get?_push_of_some _ (Heap.get?_push_of_some _ x)⟩
  unfold enumHeap
  rw [Heap.size_push, sz]
/-- its end -/
theorem enum_end {prog : Program} {w : World} {A : Around} {E : Value → Shared → Prop} {s : Shared} {e it t : Addr} {i : Nat} {k : Int} {old : Value} {its : Array Value} {Q : Option Value → Shared → Prop} (he : IsEnum s.heap e it k old) (hh : A.handled = none)
    (hit : s.heap.IsTupleIter it t i) (ht : s.heap.IsTuple t its) (hx : its[i]? = none) (hQ : ∀ h', Heap.ExtBut it s.heap h' → Q none { s with heap := h' }) : wpAny (model prog w) A (pyNext (.ref e)) Q E s := by
  have ty : s.TypeIs (.ref e) "enumerate" := ⟨_, he, rfl⟩
  have body : wpAny (model prog w) A.in1 (Builtin.«enumerate.__next__» ⟨[.ref e], []⟩) (fun _ _ => False) (fun x s' => ∃ h', Heap.ExtBut it s.heap h' ∧ s' = { s with heap := h' } ∧ ∃ o, h'.get? (match x with | .ref a => a | _ => 0) = some o ∧ o.cls = .type "StopIteration" ∧ ∃ a, x = .ref a) s := by
    show wpAny _ _ (field (.ref e) 2 >>= _) _ _ _
    refine wpAny_bind (wpAny_field he rfl (x := .ref it) rfl (wpAny_bind ?_))
    exact wpAny_nextOf_tuple_end (show A.in1.handled = none from hh) hit ht hx fun h' x hb hx' => by
      obtain ⟨o, ho, hc⟩ := hx'
      exact ⟨h', hb, rfl, o, ho, hc, x, rfl⟩
  unfold pyNext
  refine wpAny_bind (wpAny_attempt ?_)
  refine wpAny_callSpecial?_slot (name := Str.ofString "__next__") ty F.slot_enumerate_next ?_
  refine wpAny_call_entry F.slot_enumerate_next ty F.entry_enumerate_next ?_ (F.args_enumerate_next_1 _)
  refine wpAny_mono body (fun _ _ z => z.elim) fun x s' z => ?_
  obtain ⟨h', hb, rfl, o, ho, hc, a, rfl⟩ := z
  refine wpAny_bind (wpAny_isInstance (T := "StopIteration") (b := true) ⟨o, ho, hc⟩ isSubtype_stop ?_)
  exact wpAny_pure (hQ _ hb)
/-- the tuple at a, each item in a new pair -/
def IteT (K : PySem.W.Frag) (a : Addr) : It :=
  ⟨fun i H => ∃ (xs : List V) (x : V), SqT K H a xs ∧ xs[i]? = some x, fun i H v H' => ∃ T x, v = .ref T ∧ H T = none ∧ H' = upd H T (.tup [.int (i : Nat), x]) ∧ ∀ xs, SqT K H a xs → xs[i]? = some x, fun i H => ∃ xs : List V, SqT K H a xs ∧ xs.length ≤ i⟩
theorem turn_enumT {P : Program} {w : World} {K : PySem.W.Frag} {elts : List Expr} {kk : Nat} {tpos : Pos} (a e it : Addr) :
    Turn P w K (.Tuple elts kk tpos) (IteT K a) [e, it] e (fun i h => (∃ old, IsEnum h e it ((i : Nat) : Int) old) ∧ h.IsTupleIter it a i ∧ e ≠ it) where
  mem := by simp
  obj := fun i h st b hb => by
    obtain ⟨⟨old, he⟩, ⟨o, ho, hc, hd⟩, _⟩ := st
    rcases (show b = e ∨ b = it by simpa using hb) with z | z
    · rw [z]
      exact ⟨_, he, fun v q => nomatch q⟩
    · rw [z]
      exact ⟨o, ho, fun v q => by rw [hd] at q; cases q⟩
  keep := fun i h h' st k => by
    obtain ⟨⟨old, he⟩, hi, hne⟩ := st
    exact ⟨⟨old, k e (by simp) _ he⟩, hi.at fun o q => k it (by simp) o q, hne⟩
  item := by
    intro X hP hw hK hc i pins s σ H E I hf st hg
    subst hP hw hK
    obtain ⟨⟨old, he⟩, hit, hne⟩ := st
    obtain ⟨xs, x, hq, hx⟩ := hg
    obtain ⟨its, rv, p, hz⟩ := I.tuple hq
    obtain ⟨u, hu, ru⟩ := rv.get hx
    have hel : e < s.heap.objs.size := Heap.lt_size he
    have hil : it < s.heap.objs.size := by
      obtain ⟨_, q, _⟩ := hit
      exact Heap.lt_size q
    have nea : e ≠ a := by
      rintro rfl
      obtain ⟨o, q1, q2, _⟩ := p
      rw [he] at q1
      cases q1
      exact absurd (Value.type.inj q2) (by decide)
    have nia : a ≠ it := by
      rintro rfl
      obtain ⟨o, q1, q2, _⟩ := p
      obtain ⟨o', q3, q4, _⟩ := hit
      rw [q1] at q3
      cases q3
      rw [q2] at q4
      exact absurd (Value.type.inj q4) (by decide)
    have hi : i < its.toArray.size := by
      have := (List.getElem?_eq_some_iff.mp hu).1
      simpa using this
    refine wpAny_pyNext_enum_itemD (Draws.tuple (show X.A.in1.handled = none from I.ok.hd hc) it a nia its.toArray) he ⟨hit, p⟩ hi hne (by simp [hne, nea]) fun y h' tk hy ho hst hT hsz hk => ?_
    obtain ⟨hit', hp'⟩ := hst
    have ey : y = u := by
      have q : its.toArray[i]? = some u := by simpa using hu
      rw [q] at hy
      exact (Option.some.inj hy).symm
    subst ey
    refine ⟨_, rfl, wpAny_letOwnedTupleGo_enum (s := { s with heap := h', toks := tk + 1 }) ho fun h'' he' sb => ?_⟩
    have hT2 : h''.get? s.heap.objs.size = some { cls := .type "tuple", data := .seq #[.int i tk, y] } := (sb.2 _ (Nat.ne_of_gt hel)).trans hT
    have new : ObjOk X.prog X.w (upd H s.heap.objs.size (.tup [.int (i : Nat), x])) h'' s.heap.objs.size (.tup [.int (i : Nat), x]) :=
      ⟨by show 2 ≤ sizeLine; decide, [.int i tk, y], .cons ⟨_, rfl⟩ (.cons ru .nil), ⟨_, hT2, rfl, _, rfl⟩⟩
    have I1 : Inv X pins σ (upd H s.heap.objs.size (.tup [.int (i : Nat), x])) { s with heap := h'', toks := tk + 1 } :=
      I.turnedNew (t' := tk + 1) (ch := [e, it]) (fun b ob hb q => (sb.2 b (fun z => hb (by simp [z]))).trans (hk b ob (fun z => hb (by simp [z])) (fun z => hb (by simp [z])) q)) hf (Nat.le_refl _) new
    refine ⟨.ref s.heap.objs.size, _, I1, rfl, ⟨_, x, rfl, I.hok.fresh (Nat.le_refl _), rfl, fun ys hy => by rw [I.tuple_inj hy hq]; exact hx⟩, ⟨⟨y, ?_⟩, hit'.at fun o q => (sb.2 it (Ne.symm hne)).trans q, hne⟩, fun b hb => ?_⟩
    · have e1 : ((i + 1 : Nat) : Int) = (i : Int) + 1 := by omega
      rw [e1]
      exact he'
    · have hb' : b < s.heap.objs.size := by
        rcases (show b = e ∨ b = it by simpa using hb) with z | z
        · rw [z]; exact hel
        · rw [z]; exact hil
      rw [upd_ne (Nat.ne_of_lt hb')]
      exact (hf b hb).1
  done := by
    intro X hP hw hK hc i pins s σ H E I hf st hg
    subst hP hw hK
    obtain ⟨⟨old, he⟩, hit, hne⟩ := st
    obtain ⟨xs, hq, hx⟩ := hg
    obtain ⟨its, rv, p, hz⟩ := I.tuple hq
    obtain ⟨f0, f1, f2, f3, f4, f5⟩ := hf it (by simp)
    have hl := rv.length
    refine enum_end he (I.ok.hd hc) hit p (by simp; omega) fun h' eb => ⟨rfl, I.turned (t' := s.toks) (fun b o hb q => eb b o hb q) f0 f1 f3 f4 f5⟩
  self := fun A i s Q E st h => by
    obtain ⟨⟨_, he⟩, _⟩ := st
    exact wpAny_pyIter_enum he h
def iEnumT (K : PySem.W.Frag) (ta : TA) : TI := fun σ H R => ta σ H fun vs H1 => ∃ a xs, vs = [.ref a] ∧ SqT K H1 a xs ∧ R (IteT K a) H1
theorem pi_enumT {X : Cx} {e : Expr} {ta : TA} {p pos tpos : Pos} {elts : List Expr} {kk : Nat} (hg : Gl X "enumerate") (hm : X.mg "enumerate" = none) (ha : PA X [e] ta) (hs : starEach [e] X.env = [(false, eval e X.env)]) :
    PI X (.Tuple elts kk tpos) (.Call (.Name "enumerate" p) [e] [] pos) (iEnumT X.K ta) := by
  refine ⟨fun pins s σ H R I h => ?_⟩
  refine Call_ (ld_blt I hg hm boot_enumerate (PyProof.Rows.callWith_type1 ?_ hs rfl))
  refine thn (ha.run pos pins s σ H _ I h) fun us s1 ⟨vs, H1, I1, r1, a, xs, ex, hq, q⟩ => ?_
  subst ex
  cases r1 with
  | cons r rr =>
    cases rr
    cases r
    obtain ⟨its, rv, p', hz⟩ := I1.tuple hq
    refine enum_call (show s1.heap.IsTuple a its.toArray from p') fun h' he hit hsz hk => wpAny_pyIter_enum he ?_
    have I2 : Inv X pins σ H1 { s1 with heap := h' } := I1.kept (t' := s1.toks) hk
    have st0 : (∃ old, IsEnum h' (s1.heap.objs.size + 1) s1.heap.objs.size ((0 : Nat) : Int) old) ∧ h'.IsTupleIter s1.heap.objs.size a 0 ∧ s1.heap.objs.size + 1 ≠ s1.heap.objs.size := ⟨⟨.none, he⟩, hit, Nat.succ_ne_self _⟩
    refine ⟨s1.heap.objs.size + 1, [s1.heap.objs.size + 1, s1.heap.objs.size], _, _, H1, rfl, I2, turn_enumT a (s1.heap.objs.size + 1) s1.heap.objs.size, st0, fun b hb => ?_, q⟩
    have hle : s1.heap.objs.size ≤ b := by
      rcases (show b = s1.heap.objs.size + 1 ∨ b = s1.heap.objs.size by simpa using hb) with z | z
      · rw [z]; exact Nat.le_succ _
      · rw [z]; exact Nat.le_refl _
    exact I1.fpOk hle (I1.hok.fresh hle)
/-! ### a tuple times an int -/
theorem tuple_mul1 (a : Int) (u : Tok) (l : Addr) (items : Array Value) (n : Nat) (dd : Option Addr) (sl : Array (Option Value)) (c0 : (decide (a < -(2 ^ 63)) || decide (a ≥ 2 ^ 63)) = false) (c1 : (items.isEmpty || a == 1) = true) :
    Meets (Builtin.«tuple.__mul__» ⟨[.ref l, .int a u], []⟩) (fun _ R s => s.heap.get? l = some { cls := .type "tuple", dict := dd, data := .seq items n, slots := sl } ∧ R (.ok (.ret (Value.ref l))) s) :=
  .of_wp fun prog w A R s h => by
    obtain ⟨hp, g, d, tk, os⟩ := s
    obtain ⟨hl, h⟩ := h
    have f1 := AutoSeq1.idx_int
    wp_walk using wpAny_loadPart' hl
    repeat (first
      | (refine wpAny_ite_false (decide_eq_false (by rw [c0]; exact Bool.false_ne_true)) ?_; wp_walk using wpAny_loadPart' hl)
      | (refine wpAny_ite_true (decide_eq_true c1) ?_; wp_walk using wpAny_loadPart' hl))
    exact ⟨_, rfl, h⟩
theorem tuple_mul0 (a : Int) (u : Tok) (l : Addr) (items : Array Value) (n : Nat) (dd : Option Addr) (sl : Array (Option Value)) (c0 : (decide (a < -(2 ^ 63)) || decide (a ≥ 2 ^ 63)) = false) (c1 : (items.isEmpty || a == 1) = false) (c2 : (decide (a ≤ 0) || items.isEmpty) = true) :
    Meets (Builtin.«tuple.__mul__» ⟨[.ref l, .int a u], []⟩) (fun _ R s => s.heap.get? l = some { cls := .type "tuple", dict := dd, data := .seq items n, slots := sl } ∧
      R (.ok (.ret (Value.ref s.heap.objs.size))) { s with heap := s.heap.push { cls := Value.type "tuple", data := Data.seq #[] }, toks := s.toks }) :=
  .of_wp fun prog w A R s h => by
    obtain ⟨hp, g, d, tk, os⟩ := s
    obtain ⟨hl, h⟩ := h
    have f1 := AutoSeq1.idx_int
    wp_walk using wpAny_loadPart' hl
    repeat (first
      | (refine wpAny_ite_false (decide_eq_false (by rw [c0]; exact Bool.false_ne_true)) ?_; wp_walk using wpAny_loadPart' hl)
      | (refine wpAny_ite_false (decide_eq_false (by rw [c1]; exact Bool.false_ne_true)) ?_; wp_walk using wpAny_loadPart' hl)
      | (refine wpAny_ite_true (decide_eq_true c2) ?_; wp_walk using wpAny_loadPart' hl))
    exact ⟨_, rfl, h⟩
def rMulT (K : PySem.W.Frag) : R2 := fun x y H Q => ∃ l k xs, x = .ref l ∧ y = .int k ∧ SqT K H l xs ∧ (-(2 ^ 63) ≤ k ∧ k < 2 ^ 63 ∧ xs.length * k.toNat ≤ 1000000) ∧ (k = 1 ∨ xs = [] → Q (.ref l) H) ∧ (¬ (k = 1 ∨ xs = []) → ∀ p, H p = none → Q (.ref p) (upd H p (.tup (List.replicate k.toNat xs).flatten)))
theorem op_mulT {X : Cx} : OpR X (binaryOp .Mult) (rMulT X.K) := by
  intro pins s σ H x y v u Q I rx ry h
  obtain ⟨l, k, xs, rfl, rfl, hT, ⟨b1, b2, b3⟩, q1, q2⟩ := h
  cases rx
  obtain ⟨t, rfl⟩ := ry
  obtain ⟨its, r, ⟨⟨cls, dd, data, sl⟩, ho, hc, n, hd⟩, hs⟩ := I.tuple hT
  simp only at hc hd
  subst hc hd
  have hle : its.length = xs.length := r.length.symm
  have c0 : (decide (k < -(2 ^ 63)) || decide (k ≥ 2 ^ 63)) = false := by
    rw [decide_eq_false (by omega), decide_eq_false (by omega)] <;> rfl
  by_cases hk : k = 1 ∨ xs = []
  · have c1 : (its.toArray.isEmpty || k == 1) = true := by
      rcases hk with e | e
      · subst e; simp
      · have : its = [] := List.eq_nil_of_length_eq_zero (by rw [hle, e]; rfl)
        subst this; rfl
    exact wpAny_binaryOp_repeat_ref (T := "tuple") (U := "int") (by decide) ⟨_, ho, rfl⟩ (fun s' => typeIs_int s' k t) noFill_tuple_mul F.fills_int_mul F.slot_int_rmul repeat_tuple F.slot_int_index.lookup
      (call_meets F.slot_int_rmul (typeIs_int s k t) F.entry_int_rmul (F.args_int_rmul_2 _ _) (int_rmul_tuple k t l its.toArray n dd sl)
        ⟨ho, rfl, ⟨_, ho, rfl⟩, call_meets F.slot_tuple_mul ⟨_, ho, rfl⟩ F.entry_tuple_mul (F.args_tuple_mul_2 _ _) (tuple_mul1 k t l its.toArray n dd sl c0 c1) ⟨ho, .ref l, H, I, rfl, q1 hk⟩⟩)
  · have hn : its ≠ [] := fun e => hk (.inr (List.eq_nil_of_length_eq_zero (by rw [← hle, e]; rfl)))
    have hi : its.toArray.isEmpty = false := by
      cases its with
      | nil => exact absurd rfl hn
      | cons a b => rfl
    have hsz0 : its.toArray.size = xs.length := by rw [List.size_toArray, hle]
    have c1 : (its.toArray.isEmpty || k == 1) = false := by
      rw [hi, Bool.false_or]
      exact beq_eq_false_iff_ne.mpr fun e => hk (.inl e)
    by_cases hz : k ≤ 0
    · have c2 : (decide (k ≤ 0) || its.toArray.isEmpty) = true := by rw [decide_eq_true hz, Bool.true_or]
      refine wpAny_binaryOp_repeat_ref (T := "tuple") (U := "int") (by decide) ⟨_, ho, rfl⟩ (fun s' => typeIs_int s' k t) noFill_tuple_mul F.fills_int_mul F.slot_int_rmul repeat_tuple F.slot_int_index.lookup
        (call_meets F.slot_int_rmul (typeIs_int s k t) F.entry_int_rmul (F.args_int_rmul_2 _ _) (int_rmul_tuple k t l its.toArray n dd sl)
          ⟨ho, rfl, ⟨_, ho, rfl⟩, call_meets F.slot_tuple_mul ⟨_, ho, rfl⟩ F.entry_tuple_mul (F.args_tuple_mul_2 _ _) (tuple_mul0 k t l its.toArray n dd sl c0 c1 c2) ⟨ho, ?_⟩⟩)
      have q := q2 hk _ (I.hok.fresh (Nat.le_refl _))
      have e0 : k.toNat = 0 := by omega
      rw [e0, List.replicate_zero, List.flatten_nil] at q
      exact ⟨.ref s.heap.objs.size, _, I.laid (t' := s.toks) (o := .tup []) (fun b ob q => Heap.get?_push_of_some _ q) (Nat.le_refl _) ⟨Nat.zero_le _, _, .nil, IsTup.new _ _⟩, rfl, q⟩
    · have c2 : (decide (k ≤ 0) || its.toArray.isEmpty) = false := by
        rw [hi, Bool.or_false]
        exact decide_eq_false (by omega)
      have hm : ((its.toArray.size : Nat) : Int) * k ≤ 1000000 := by
        have : ((xs.length * k.toNat : Nat) : Int) ≤ 1000000 := Int.ofNat_le.mpr b3
        rw [Int.natCast_mul, Int.toNat_of_nonneg (by omega)] at this
        rw [hsz0]
        exact this
      have flen : (List.replicate k.toNat its).flatten.length ≤ sizeLine := by
        rw [PyProof.Rows.lm_len_rep_flat, hle, sizeLine_eq, Nat.mul_comm]
        omega
      have c4 : Builtin.Tuple.tupleTooMany (((its.toArray.size : Nat) : Int) * k) = false := by
        unfold Builtin.Tuple.tupleTooMany
        rw [sizeLine_eq]
        exact decide_eq_false (by omega)
      refine wpAny_binaryOp_repeat_ref (T := "tuple") (U := "int") (by decide) ⟨_, ho, rfl⟩ (fun s' => typeIs_int s' k t) noFill_tuple_mul F.fills_int_mul F.slot_int_rmul repeat_tuple F.slot_int_index.lookup
        (call_meets F.slot_int_rmul (typeIs_int s k t) F.entry_int_rmul (F.args_int_rmul_2 _ _) (int_rmul_tuple k t l its.toArray n dd sl)
          ⟨ho, rfl, ⟨_, ho, rfl⟩, call_meets F.slot_tuple_mul ⟨_, ho, rfl⟩ F.entry_tuple_mul (F.args_tuple_mul_2 _ _) (tuple_mulW l its.toArray n dd sl k t c0 c1 c2 (by omega) c4 (by rw [size_rep, List.size_toArray]; exact flen)) ⟨ho, ?_⟩⟩)
      rw [size_rep]
      refine ⟨.ref s.heap.objs.size, _, I.laid (t' := s.toks) (o := .tup (List.replicate k.toNat xs).flatten) (fun b ob q => Heap.get?_push_of_some _ q) (Nat.le_refl _) ?_, rfl, q2 hk _ (I.hok.fresh (Nat.le_refl _))⟩
      exact ⟨by rw [PyProof.Rows.lm_len_rep_flat, sizeLine_eq, Nat.mul_comm]; omega, _, r.rep k.toNat, IsTup.new _ _⟩
end Pf0
namespace HT
open PySem PySem.Spec PyProof.Rows
section
variable {prog : Program} {w : World} {A : Around} {E : Value → Shared → Prop} {s : Shared}
theorem slice_rev {sl : Addr} {vl vu vs : Value} {n : Nat} {Q : Int × Int × Nat → Shared → Prop} (hs : s.heap.IsSliceOf sl vl vu vs) (pl : IsPart vl none) (pu : IsPart vu none) (ps : IsPart vs (some (-1)))
    (h : Q ((n : Int) - 1, -1, n) s) : wpAny (model prog w) A (Builtin.Slice.sliceApplied (.ref sl) (pure (n : Int))) Q E s := by
  obtain ⟨os, hos, hcs, hds⟩ := id hs
  unfold Builtin.Slice.sliceApplied Builtin.Slice.sliceFields
  refine wpAny_bind (wpAny_bind (wpAny_field hos hds (x := vl) rfl (wpAny_bind (wpAny_field hos hds (x := vu) rfl (wpAny_bind (wpAny_field hos hds (x := vs) rfl (wpAny_pure ?_)))))))
  refine wpAny_bind (slicePart_ ps ?_)
  show wpAny _ _ (if ((-1 : Int) == 0) = true then _ else _) _ _ s
  rw [if_neg (by decide)]
  refine wpAny_bind (slicePart_ pl (wpAny_bind (slicePart_ pu (wpAny_bind (wpAny_pure ?_)))))
  show wpAny _ _ (pure ((n : Int) - 1, (-1 : Int), Builtin.Slice.slicePlaces ((n : Int) - 1) (-1) (-1))) _ _ s
  have e : Builtin.Slice.slicePlaces ((n : Int) - 1) (-1) (-1) = n := by
    unfold Builtin.Slice.slicePlaces
    rw [if_neg (by decide)]
    by_cases c : (n : Int) - 1 > -1
    · rw [if_pos c]
      have : ((n : Int) - 1 - (-1) - 1) / (- -1) = (n : Int) - 1 := by
        rw [show (- -1 : Int) = 1 by decide, Int.ediv_one]
        omega
      rw [this]
      omega
    · rw [if_neg c]
      omega
  rw [e]
  exact wpAny_pure h
theorem fm_congr {α β : Type} {f g : α → Option β} : ∀ {l : List α}, (∀ x ∈ l, f x = g x) → l.filterMap f = l.filterMap g
  | [], _ => rfl
  | x :: l, h => by
    rw [List.filterMap_cons, List.filterMap_cons, h x List.mem_cons_self, fm_congr fun y hy => h y (List.mem_cons_of_mem _ hy)]
theorem getItem_tuple_rev {t sl : Addr} {items : Array Value} {vl vu vs : Value} {Q : Value → Shared → Prop} (ht : IsTup s.heap t items) (hs : s.heap.IsSliceOf sl vl vu vs) (pl : IsPart vl none) (pu : IsPart vu none) (ps : IsPart vs (some (-1)))
    (h : Q (.ref s.heap.objs.size) { s with heap := s.heap.push { cls := .type "tuple", data := .seq items.toList.reverse.toArray } }) (hsz : items.size ≤ sizeLine) : wpAny (model prog w) A (getItem (.ref t) (.ref sl)) Q E s := by
  have htake : sizeOk (.seq items.toList.reverse.toArray) := by
    show items.toList.reverse.toArray.size ≤ sizeLine
    rw [List.size_toArray, List.length_reverse, Array.length_toList]
    omega
  obtain ⟨os, hos, hcs, hds⟩ := id hs
  have hTs : s.TypeIs (.ref sl) "slice" := ⟨os, hos, hcs⟩
  unfold getItem
  try with_reducible refine wpAny_holding ?_
  first | refine wpAny_bind (wpAny_pure ?_) | skip
  refine wpAny_bind (wpAny_sequenceKey ht.typeIs (by decide) ?_)
  refine wpAny_bind (wpAny_callSpecial?_slot (name := Str.ofString "__getitem__") ht.typeIs PyProof.Rows.slot_tuple_getitem
    (wpAny_call_entry PyProof.Rows.slot_tuple_getitem ht.typeIs entry_tuple_getitem ?_ (args_tuple_getitem _ _)))
  show wpAny _ _ (Builtin.Tuple.tupleItemsOf (.ref t) >>= _) _ _ s
  refine wpAny_bind (tupleItemsOf_ ht ?_)
  refine wpAny_bind (wpAny_typeOf hTs ?_)
  rw [if_pos (by decide)]
  refine wpAny_bind (slice_rev hs pl pu ps ?_)
  show wpAny _ _ (if (((items.size : Int) - 1) == 0 && (-1 : Int) == 1 && items.size == items.size) = true then _ else _) _ _ s
  rw [if_neg (by simp)]
  have ep : ((List.range items.size).filterMap fun (k : Nat) => items[(((items.size : Int) - 1) + (k : Int) * (-1)).toNat]?).toArray = items.toList.reverse.toArray := by
    have e1 : (List.range items.size).filterMap (fun (k : Nat) => items[(((items.size : Int) - 1) + (k : Int) * (-1)).toNat]?) = ((List.range items.size).map fun k => items.size - 1 - k).filterMap (items[·]?) := by
      rw [List.filterMap_map]
      refine fm_congr fun k hk => ?_
      have hk := List.mem_range.mp hk
      have : (((items.size : Int) - 1) + (k : Int) * (-1)).toNat = items.size - 1 - k := by omega
      rw [this]
      rfl
    rw [e1, PySem.W.krv_range, List.filterMap_reverse, PySem.W.krv_all]
  rw [ep]
  first
    | exact wpAny_bind (m := Builtin.Tuple.tupleExact _) (wpAny_newObj_type (wpAny_pure ⟨_, rfl, wpAny_pure h⟩) htake)
    | exact wpAny_bind (m := Builtin.Tuple.tupleExact _) (wpAny_newObj_type (wpAny_bind (wpAny_pure (wpAny_pure ⟨_, rfl, wpAny_pure h⟩))) htake)
    | exact wpAny_bind (wpAny_bind (m := Builtin.Tuple.tupleExact _) (wpAny_newObj_type (wpAny_pure (wpAny_pure ⟨_, rfl, wpAny_pure h⟩)) htake))
    | exact wpAny_bind (wpAny_bind (m := Builtin.Tuple.tupleExact _) (wpAny_newObj_type (wpAny_pure ⟨_, rfl, wpAny_pure h⟩) htake))
end
end HT
namespace Pf
open PySem PySem.Spec PyProof.Rows L2
/-- xs[::-1] of a list, of a tuple -/
def tRev (K : PySem.W.Frag) (te : TE) : TE := fun σ H Q => te σ H fun x H1 => ∃ a xs, x = .ref a ∧ ((SqL K H1 a xs ∧ ∀ p, H1 p = none → Q (.ref p) (upd H1 p (.lst xs.reverse))) ∨ (SqT K H1 a xs ∧ ∀ p, H1 p = none → Q (.ref p) (upd H1 p (.tup xs.reverse))))
theorem pe_rev {X : Cx} {e : Expr} {te : TE} {k : Nat} {p1 p2 p3 pos : Pos} (he : PE X e te) : PE X (.Subscript e (.Slice none none (some (.UnaryOp .USub (.Constant (.int 1) k p1) p2)) p3) pos) (tRev X.K te) := by
  refine ⟨fun pins s σ H Q I h => ?_⟩
  refine Subscript_ (thn (he.run pins s σ H _ I h) fun v s1 ⟨x, H1, I1, r1, q1⟩ => ?_)
  obtain ⟨a, xs, ex, hq⟩ := q1
  subst ex
  cases r1
  have hst : PO X (some (.UnaryOp .USub (.Constant (.int 1) k p1) p2)) (tPart (tUn (rU fun i => .int (-i)) (tC (.int 1)))) := po_some (pe_un un_neg pe_int)
  refine wpAny_Slice (thn (po_none.run pins s1 σ H1 (fun o H2 => o = none ∧ H2 = H1) I1 ⟨rfl, rfl⟩) fun vl s2 ⟨l, H2, I2, pl, el, e2⟩ => ?_)
  subst el e2
  refine thn (po_none.run pins s2 σ H2 (fun o H3 => o = none ∧ H3 = H2) I2 ⟨rfl, rfl⟩) fun vu s3 ⟨u, H3, I3, pu, eu, e3⟩ => ?_
  subst eu e3
  refine thn (hst.run pins s3 σ H3 (fun o H4 => o = some (-1) ∧ H4 = H3) I3 ⟨1, rfl, -1, rfl, rfl, rfl⟩) fun vs s4 ⟨o, H4, I4, ps, eo, e4⟩ => ?_
  subst eo e4
  have I5 : Inv X pins σ H4 { s4 with heap := s4.heap.push { cls := .type "slice", data := .fields #[vl, vu, vs] } } := I4.kept (t' := s4.toks) fun b ob q => Heap.get?_push_of_some _ q
  rcases hq with ⟨hx, q⟩ | ⟨hx, q⟩
  · obtain ⟨its, r, ht, hz⟩ := I5.list hx
    have hlen := r.length
    show wpAny (model X.prog X.w) X.A (subscriptTail e (.Slice none none (some (.UnaryOp .USub (.Constant (.int 1) k p1) p2)) p3) (.ref a) (.ref s4.heap.objs.size)) (EP X pins σ Q) X.xe { s4 with heap := s4.heap.push { cls := .type "slice", data := .fields #[vl, vu, vs] } }
    refine tail_any (ops := [.ref a, .ref s4.heap.objs.size]) ht.isList.typeIs (PySem.slot_list_getitem.lookup) ?_ (by with_unfolding_all rfl)
    refine wpAny_getItem_list_slice ht.isList (Heap.IsSliceOf.new _ vl vu vs) pl pu ps (by decide) ?_ (by rw [List.size_toArray]; omega)
    rw [PySem.W.krv_pick]
    refine ⟨.ref _, _, I5.laid (t' := s4.toks) (o := .lst xs.reverse) (fun b ob q => Heap.get?_push_of_some _ q) (Nat.le_refl _) ?_, rfl, q _ (I5.hok.fresh (Nat.le_refl _))⟩
    exact ⟨by rw [List.length_reverse]; exact hz, _, 0, r.reverse, Heap.get?_push_size _ rfl⟩
  · obtain ⟨its, r, ht, hz⟩ := I5.tuple hx
    have hlen := r.length
    show wpAny (model X.prog X.w) X.A (subscriptTail e (.Slice none none (some (.UnaryOp .USub (.Constant (.int 1) k p1) p2)) p3) (.ref a) (.ref s4.heap.objs.size)) (EP X pins σ Q) X.xe { s4 with heap := s4.heap.push { cls := .type "slice", data := .fields #[vl, vu, vs] } }
    refine tail_any (ops := [.ref a, .ref s4.heap.objs.size]) ht.typeIs (PyProof.Rows.slot_tuple_getitem.lookup) ?_ (by with_unfolding_all rfl)
    refine HT.getItem_tuple_rev ht (Heap.IsSliceOf.new _ vl vu vs) pl pu ps ?_ (by rw [List.size_toArray]; omega)
    refine ⟨.ref _, _, I5.laid (t' := s4.toks) (o := .tup xs.reverse) (fun b ob q => Heap.get?_push_of_some _ q) (Nat.le_refl _) ?_, rfl, q _ (I5.hok.fresh (Nat.le_refl _))⟩
    exact ⟨by rw [List.length_reverse]; exact hz, _, r.reverse, IsTup.new _ _⟩
end Pf

/-! Pf1: plain data, a store of lists, and what a small Python text does with them (an interpreter over plain data, no model in sight). -/
namespace Pf
open PySem L2

/-! ### data -/
inductive D where
  | non | bl (b : Bool) | int (i : Int) | str (x : Str) | tup (xs : List D) | ref (h : Nat)
  deriving Inhabited
mutual
def D.dec : (a b : D) → Decidable (a = b)
  | .non, .non => .isTrue rfl
  | .bl a, .bl b => if h : a = b then .isTrue (by rw [h]) else .isFalse (fun e => h (D.bl.inj e))
  | .int a, .int b => if h : a = b then .isTrue (by rw [h]) else .isFalse (fun e => h (D.int.inj e))
  | .str a, .str b => if h : a = b then .isTrue (by rw [h]) else .isFalse (fun e => h (D.str.inj e))
  | .ref a, .ref b => if h : a = b then .isTrue (by rw [h]) else .isFalse (fun e => h (D.ref.inj e))
  | .tup a, .tup b => match D.decs a b with
    | .isTrue h => .isTrue (by rw [h])
    | .isFalse h => .isFalse (fun e => h (D.tup.inj e))
  | .non, .bl _ | .non, .int _ | .non, .str _ | .non, .tup _ | .non, .ref _ => .isFalse (fun e => nomatch e)
  | .bl _, .non | .bl _, .int _ | .bl _, .str _ | .bl _, .tup _ | .bl _, .ref _ => .isFalse (fun e => nomatch e)
  | .int _, .non | .int _, .bl _ | .int _, .str _ | .int _, .tup _ | .int _, .ref _ => .isFalse (fun e => nomatch e)
  | .str _, .non | .str _, .bl _ | .str _, .int _ | .str _, .tup _ | .str _, .ref _ => .isFalse (fun e => nomatch e)
  | .tup _, .non | .tup _, .bl _ | .tup _, .int _ | .tup _, .str _ | .tup _, .ref _ => .isFalse (fun e => nomatch e)
  | .ref _, .non | .ref _, .bl _ | .ref _, .int _ | .ref _, .str _ | .ref _, .tup _ => .isFalse (fun e => nomatch e)
def D.decs : (a b : List D) → Decidable (a = b)
  | [], [] => .isTrue rfl
  | [], _ :: _ => .isFalse (fun e => nomatch e)
  | _ :: _, [] => .isFalse (fun e => nomatch e)
  | x :: xs, y :: ys => match D.dec x y, D.decs xs ys with
    | .isTrue h, .isTrue g => .isTrue (by rw [h, g])
    | .isFalse h, _ => .isFalse (fun e => h (List.cons.inj e).1)
    | _, .isFalse h => .isFalse (fun e => h (List.cons.inj e).2)
end
instance : DecidableEq D := D.dec
/-- a value on its way: a datum, or a list that no name holds yet -/
inductive R where
  | d (x : D) | tl (xs : List D)
abbrev Key := L2.Key
/-- what stands at a handle: a list; a list that is only read; a dict -/
inductive Cell where
  | lst (xs : List D) | frz (xs : List D) | dct (kvs : List (Key × D)) | exc (fs : List (Str × D))
  deriving DecidableEq
def Cell.items : Cell → List D
  | .lst xs => xs
  | .frz xs => xs
  | _ => []
/-- a list -/
def Cell.isL : Cell → Bool
  | .dct _ => false
  | .exc _ => false
  | _ => true
/-- an exception's fields -/
def Cell.isX : Cell → Bool
  | .exc _ => true
  | _ => false
/-! ### dicts -/
def keyOf : D → Option Key
  | .int i => some (.inl i)
  | .str x => some (.inr x)
  | _ => none
def getK (kvs : List (Key × D)) (k : Key) : Option D := (kvs.find? fun kv => decide (kv.1 = k)).map (·.2)
def putD (kvs : List (Key × D)) (k : Key) (d : D) : List (Key × D) :=
  if (kvs.any fun kv => decide (kv.1 = k)) = true then kvs.map (fun kv => if kv.1 = k then (kv.1, d) else kv) else kvs ++ [(k, d)]
def mergeD (kvs : List (Key × D)) : List (Key × D) → List (Key × D)
  | [] => kvs
  | p :: ps => mergeD (putD kvs p.1 p.2) ps
def delK (kvs : List (Key × D)) (k : Key) : List (Key × D) := kvs.filter fun kv => decide (kv.1 ≠ k)
abbrev Store := List Cell
structure Exc where
  cls : Str
  fs : List (Str × D)
inductive Res (α : Type) where
  | ok (a : α) (m : Store) | err (e : Exc) (m : Store) | stuck
def M (α : Type) : Type := Store → Res α
def M.ret {α : Type} (a : α) : M α := fun m => .ok a m
def M.bnd {α β : Type} (x : M α) (f : α → M β) : M β := fun m => match x m with
  | .ok a m1 => f a m1
  | .err e m1 => .err e m1
  | .stuck => .stuck
instance : Monad M where
  pure := M.ret
  bind := M.bnd
def stuck {α : Type} : M α := fun _ => .stuck
/-- a bound that must hold -/
def chk (p : Prop) [Decidable p] : M Unit := fun m => if p then .ok () m else .stuck
/-- a list -/
def getC (h : Nat) : M Cell := fun m => match m[h]? with
  | some c => if c.isL then .ok c m else .stuck
  | none => .stuck
/-- any cell -/
def getA (h : Nat) : M Cell := fun m => match m[h]? with
  | some c => .ok c m
  | none => .stuck
/-- any cell but an exception's fields -/
def getY (h : Nat) : M Cell := fun m => match m[h]? with
  | some c => if c.isX then .stuck else .ok c m
  | none => .stuck
/-- a dict -/
def getT (h : Nat) : M (List (Key × D)) := fun m => match m[h]? with
  | some (.dct kvs) => .ok kvs m
  | _ => .stuck
def putT (h : Nat) (kvs : List (Key × D)) : M Unit := fun m => .ok () (m.set h (.dct kvs))
/-- a list that may be written -/
def getL (h : Nat) : M (List D) := fun m => match m[h]? with
  | some (.lst xs) => .ok xs m
  | _ => .stuck
def putL (h : Nat) (xs : List D) : M Unit := fun m => .ok () (m.set h (.lst xs))
def newL (xs : List D) : M Nat := fun m => .ok m.length (m ++ [.lst xs])
def newT (kvs : List (Key × D)) : M Nat := fun m => .ok m.length (m ++ [.dct kvs])
def optM {α : Type} : Option α → M α
  | some a => pure a
  | none => stuck

/-! ### data as the library's PyData (what repr and == are about) -/
def optAll {α β : Type} (f : α → Option β) : List α → Option (List β)
  | [] => some []
  | x :: xs => match f x, optAll f xs with
    | some y, some ys => some (y :: ys)
    | _, _ => none
def dat (m : Store) : Nat → D → Option PyData
  | _, .non => some .none
  | _, .bl b => some (.bool b)
  | _, .int i => some (.int i)
  | _, .str x => some (.str x)
  | 0, .tup _ => none
  | n + 1, .tup xs => (optAll (dat m n) xs).map .tuple
  | 0, .ref _ => none
  | n + 1, .ref h => match m[h]? with
    | some c => if c.isL then (optAll (dat m n) c.items).map .list else none
    | none => none
/-- how deep data may be -/
def deepest : Nat := 60
def datR : R → M PyData
  | .d x => fun m => match dat m deepest x with
    | some p => .ok p m
    | none => .stuck
  | .tl xs => fun m => match optAll (dat m deepest) xs with
    | some ps => .ok (.list ps) m
    | none => .stuck

/-! ### values -/
def R.up : R → M D
  | .d x => pure x
  | .tl xs => do return .ref (← newL xs)
/-- the items of a list or a tuple -/
def seqR : R → M (List D)
  | .tl xs => pure xs
  | .d (.tup xs) => pure xs
  | .d (.ref h) => do return (← getC h).items
  | _ => stuck
/-- .. of a list -/
def listR : R → M (List D)
  | .tl xs => pure xs
  | .d (.ref h) => do return (← getC h).items
  | _ => stuck
/-- .. of a list that may be written -/
def ownR : R → M (List D)
  | .tl xs => pure xs
  | .d (.ref h) => getL h
  | _ => stuck
def intR : R → M Int
  | .d (.int i) => pure i
  | _ => stuck
def tru : R → M Bool
  | .d .non => pure false
  | .d (.bl b) => pure b
  | .d (.int i) => pure (i != 0)
  | .d (.str x) => do
    chk (x.length ≤ sizeLine)
    return ((x.length : Int) != 0)
  | x => do return !(← seqR x).isEmpty
def bigMul (i j : Int) : Prop := i.natAbs < 2 ^ 64 ∨ j.natAbs < 2 ^ 64
instance (i j : Int) : Decidable (bigMul i j) := by unfold bigMul; infer_instance
def addR : R → R → M R
  | .d (.int i), .d (.int j) => pure (.d (.int (i + j)))
  | .d (.str x), .d (.str y) => do
    chk (x.length + y.length ≤ sizeLine)
    return .d (.str (x ++ y))
  | .d (.tup xs), .d (.tup ys) => do
    chk (xs.length + ys.length ≤ sizeLine)
    return .d (.tup (xs ++ ys))
  | x, y => do
    let xs ← ownR x
    let ys ← ownR y
    chk (xs.length + ys.length ≤ sizeLine)
    return .tl (xs ++ ys)
/-- a text so many times -/
def repS (x : Str) (k : Nat) : Str := ⟨(List.replicate k x.cps).foldl (· ++ ·) #[]⟩
def mulR : R → R → M R
  | .d (.int i), .d (.int j) => do
    chk (bigMul i j)
    return .d (.int (i * j))
  | .d (.str x), .d (.int k) => do
    chk (-(2 ^ 63) ≤ k ∧ k < 2 ^ 63 ∧ x.length * k.toNat ≤ sizeLine)
    return .d (.str (repS x k.toNat))
  | .d (.tup xs), .d (.int k) => do
    chk (-(2 ^ 63) ≤ k ∧ k < 2 ^ 63 ∧ xs.length * k.toNat ≤ 1000000)
    return .d (.tup (List.replicate k.toNat xs).flatten)
  | x, .d (.int k) => do
    let xs ← ownR x
    chk (-(2 ^ 63) ≤ k ∧ k < 2 ^ 63 ∧ xs.length * k.toNat ≤ sizeLine)
    return .tl (List.replicate k.toNat xs).flatten
  | _, _ => stuck
def binR : Operator → R → R → M R
  | .Add, x, y => addR x y
  | .Sub, x, y => do return .d (.int ((← intR x) - (← intR y)))
  | .Mult, x, y => mulR x y
  | .FloorDiv, x, y => do
    let i ← intR x
    let j ← intR y
    chk (j ≠ 0 ∧ j.natAbs < 1073741824)
    return .d (.int (i.fdiv j))
  | .Mod, x, y => do
    let i ← intR x
    let j ← intR y
    chk (j ≠ 0)
    return .d (.int (i.fmod j))
  | .Pow, x, y => do
    let i ← intR x
    let j ← intR y
    chk (0 ≤ j ∧ j ≤ 1000000 ∧ i.natAbs < 2 ^ 64)
    return .d (.int (i ^ j.toNat))
  | _, _, _ => stuck
/-- a scalar's == (the quick way, for texts and numbers) -/
def eqR : R → R → M Bool
  | .d (.int i), .d (.int j) => pure (decide (i = j))
  | .d (.str x), .d (.str y) => pure (decide (x = y))
  | x, y => do
    let p ← datR x
    let q ← datR y
    chk (p.canLay0 = true ∧ q.canLay0 = true)
    return PyData.eqv p q
def ordR (f : Int → Int → Bool) (x y : R) : M R := do
  let i ← intR x
  let j ← intR y
  return .d (.bl (f i j))
def isN : R → Bool
  | .d .non => true
  | _ => false
def keyR : R → M Key
  | .d x => optM (keyOf x)
  | _ => stuck
/-- a text in a text -/
def inS (x y : Str) : Bool := match x.cps.toList with
  | [c] => decide (c ∈ y.cps.toList)
  | _ => !(Builtin.Str.occurrences y x 0 y.length 1).isEmpty
/-- a datum in a list, a tuple -/
def inL (x : R) (y : R) : M Bool := do
  let p ← datR x
  let q ← datR y
  match q with
  | .list ps => do
    chk (p.canLay0 = true ∧ PyData.canLayAll0 ps = true)
    return ps.any fun z => PyData.eqv z p
  | .tuple ps => do
    chk (p.canLay0 = true ∧ PyData.canLayAll0 ps = true)
    return ps.any fun z => PyData.eqv z p
  | _ => stuck
def inC : Cell → R → R → M Bool
  | .dct kvs, x, _ => do
    let k ← keyR x
    return (getK kvs k).isSome
  | .exc _, _, _ => stuck
  | _, x, y => inL x y
def inR : R → R → M Bool
  | .d (.str x), .d (.str y) => pure (inS x y)
  | x, .d (.ref h) => do
    let c ← getA h
    inC c x (.d (.ref h))
  | x, y => inL x y
/-- is, of None and of truths -/
def isR (k : Bool → Bool) (x y : R) : M R := match y with
  | .d .non => pure (.d (.bl (k (isN x))))
  | .d (.bl b) => (match x with
    | .d (.bl a) => pure (.d (.bl (k (decide (a = b)))))
    | _ => stuck)
  | _ => stuck
def cmpR : CmpOp → R → R → M R
  | .In, x, y => do return .d (.bl (← inR x y))
  | .NotIn, x, y => do return .d (.bl (!(← inR x y)))
  | .Eq, x, y => do return .d (.bl (← eqR x y))
  | .NotEq, x, y => do return .d (.bl (!(← eqR x y)))
  | .Lt, x, y => ordR (fun i j => decide (i < j)) x y
  | .LtE, x, y => ordR (fun i j => decide (i ≤ j)) x y
  | .Gt, x, y => ordR (fun i j => decide (j < i)) x y
  | .GtE, x, y => ordR (fun i j => decide (j ≤ i)) x y
  | .Is, x, y => isR (fun b => b) x y
  | .IsNot, x, y => isR (fun b => !b) x y
/-- an item of a cell -/
def ixC : Cell → R → M R
  | .lst xs, i => do
    let k ← intR i
    return .d (← optM (atI xs k))
  | .frz xs, i => do
    let k ← intR i
    return .d (← optM (atI xs k))
  | .dct kvs, i => do
    let k ← keyR i
    return .d (← optM (getK kvs k))
  | .exc _, _ => stuck
def ixR : R → R → M R
  | .d (.str x), i => do
    let k ← intR i
    chk (x.length ≤ sizeLine)
    let c ← optM (atI x.cps.toList k)
    return .d (.str ⟨#[c]⟩)
  | .d (.ref h), i => do
    let c ← getA h
    ixC c i
  | o, i => do
    let xs ← seqR o
    let k ← intR i
    return .d (← optM (atI xs k))
def cut {α : Type} (xs : List α) (lo hi : Option Int) : List α := (xs.drop (HT.sIx xs.length 0 lo)).take (HT.sIx xs.length xs.length hi - HT.sIx xs.length 0 lo)
def cutR : R → Option Int → Option Int → M R
  | .d (.tup xs), lo, hi => pure (.d (.tup (cut xs lo hi)))
  | .d (.str x), lo, hi => do
    chk (x.length ≤ sizeLine)
    return .d (.str (cutS x lo hi))
  | o, lo, hi => do return .tl (cut (← listR o) lo hi)
def lenR : R → M R
  | .d (.str x) => do
    chk (x.length ≤ sizeLine)
    return .d (.int x.length)
  | o => do return .d (.int (← seqR o).length)
def intOf : D → Option Int
  | .int i => some i
  | _ => none
def blOf : D → Option Bool
  | .bl b => some b
  | _ => none
def intsR (o : R) : M (List Int) := do optM (optAll intOf (← listR o))
/-- .. of a list or a tuple -/
def intsS (o : R) : M (List Int) := do optM (optAll intOf (← seqR o))
def maxI : List Int → Int
  | [] => 0
  | x :: xs => xs.foldl max x
def minI : List Int → Int
  | [] => 0
  | x :: xs => xs.foldl min x

/-! ### built-in types -/
inductive Ty where
  | int | bool | str | tuple | list | dict
  deriving DecidableEq
def tyC : Cell → Ty → Bool
  | .dct _, t => decide (t = .dict)
  | .exc _, _ => false
  | _, t => decide (t = .list)
def tyD : D → Ty → Bool
  | .bl _, t => decide (t = .bool ∨ t = .int)
  | .int _, t => decide (t = .int)
  | .str _, t => decide (t = .str)
  | .tup _, t => decide (t = .tuple)
  | _, _ => false
/-- isinstance of some of these -/
def isiR (ts : List Ty) : R → M R
  | .tl _ => pure (.d (.bl (ts.any fun t => decide (t = .list))))
  | .d (.ref h) => do
    let c ← getY h
    return .d (.bl (ts.any (tyC c)))
  | .d x => pure (.d (.bl (ts.any (tyD x))))
/-- backwards -/
def revR : R → M R
  | .d (.tup xs) => pure (.d (.tup xs.reverse))
  | o => do return .tl (← listR o).reverse
/-! ### built-in functions -/
inductive BF where
  | len | max1 | min1 | max2 | min2 | sum | all | any | tuple | list | repr | int1 | sorted | str1
  deriving DecidableEq
/-- rising -/
def sortI (is : List Int) : List Int := is.mergeSort fun i j => decide (i ≤ j)
def bfR : BF → List R → M R
  | .len, [x] => lenR x
  | .sum, [x] => do return .d (.int (← intsS x).sum)
  | .max1, [x] => do
    let is ← intsS x
    chk (0 < is.length)
    return .d (.int (maxI is))
  | .min1, [x] => do
    let is ← intsS x
    chk (0 < is.length)
    return .d (.int (minI is))
  | .max2, [x, y] => do
    let i ← intR x
    let j ← intR y
    return .d (.int (if j > i then j else i))
  | .min2, [x, y] => do
    let i ← intR x
    let j ← intR y
    return .d (.int (if j < i then j else i))
  | .all, [x] => do return .d (.bl ((← optM (optAll blOf (← listR x))).all id))
  | .any, [x] => do return .d (.bl ((← optM (optAll blOf (← listR x))).any id))
  | .tuple, [x] => do return .d (.tup (← seqR x))
  | .list, [x] => do return .tl (← seqR x)
  | .repr, [x] => do
    let p ← datR x
    chk (p.showable = true ∧ p.shown.length ≤ sizeLine)
    return .d (.str p.shown)
  | .int1, [.d (.int i)] => pure (.d (.int i))
  | .int1, [.d (.bl b)] => pure (.d (.int (if b then 1 else 0)))
  | .str1, [.d (.int i)] => do
    chk (i.natAbs.log2 < 1920)
    return .d (.str (toString i))
  | .str1, [.d (.str x)] => pure (.d (.str x))
  | .sorted, [x] => do return .tl ((sortI (← intsR x)).map .int)
  | _, _ => stuck
/-- max, min with a default -/
def mxdR (k : Bool) (x : R) (y : D) : M R := do
  let is ← intsS x
  match is with
  | [] => pure (.d y)
  | i :: is => pure (.d (.int (if k then is.foldl max i else is.foldl min i)))
/-- methods: of lists, of texts, of dicts -/
inductive MF where
  | append | extend | pop | count | popAt | insert | index | join | upper | get1 | get2 | pop2
  deriving DecidableEq
/-- its arguments get names -/
def MF.names : MF → Bool
  | .append | .insert | .get2 | .pop2 => true
  | _ => false
/-- whose it is -/
def MF.of : MF → Ty
  | .join | .upper => .str
  | .get1 | .get2 | .pop2 => .dict
  | _ => .list
def strR : R → M Str
  | .d (.str x) => pure x
  | _ => stuck
def dctR : R → M (List (Key × D))
  | .d (.ref h) => getT h
  | _ => stuck
def strOf : D → Option Str
  | .str x => some x
  | _ => none
/-- what has such a method -/
def okM (f : MF) (x : R) : M Unit := match f.of with
  | .str => do
    let _ ← strR x
    return ()
  | .dict => do
    let _ ← dctR x
    return ()
  | _ => do
    let _ ← ownR x
    return ()
/-- the first of equal things -/
def firstEq (p : PyData) : List PyData → Nat → Option Nat
  | [], _ => none
  | z :: zs, i => if PyData.eqv z p then some i else firstEq p zs (i + 1)
def mfR : MF → R → List R → M R
  | .append, .d (.ref h), [.d x] => do
    let xs ← getL h
    chk (xs.length < sizeLine)
    putL h (xs ++ [x])
    return .d .non
  | .extend, .d (.ref h), [y] => do
    let ys ← ownR y
    let xs ← getL h
    chk (xs.length + ys.length ≤ sizeLine)
    putL h (xs ++ ys)
    return .d .non
  | .pop, .d (.ref h), [] => do
    let xs ← getL h
    let x ← optM xs[xs.length - 1]?
    putL h xs.dropLast
    return .d x
  | .count, .d (.ref h), [.d (.int k)] => do
    let xs ← getL h
    let is ← optM (optAll intOf xs)
    return .d (.int (is.count k : Nat))
  | .popAt, .d (.ref h), [.d (.int k)] => do
    let xs ← getL h
    chk (0 ≤ k ∧ k < 2 ^ 63)
    let x ← optM xs[k.toNat]?
    putL h (xs.eraseIdx k.toNat)
    return .d x
  | .insert, .d (.ref h), [.d (.int k), .d x] => do
    let xs ← getL h
    chk (xs.length < sizeLine ∧ 0 ≤ k ∧ k < 2 ^ 63)
    putL h (xs.take k.toNat ++ [x] ++ xs.drop k.toNat)
    return .d .non
  | .index, x, [y] => do
    let q ← datR x
    let p ← datR y
    match q with
    | .list ps => do
      chk (p.canLay0 = true ∧ PyData.canLayAll0 ps = true)
      return .d (.int ((← optM (firstEq p ps 0)) : Nat))
    | _ => stuck
  | .join, .d (.str z), [y] => do
    let ws ← optM (optAll strOf (← seqR y))
    chk ((ws.map (·.length)).sum + ws.length * z.length ≤ 16777216)
    return .d (.str (Txt.join z ws))
  | .upper, .d (.str z), [] => do
    chk (z.length ≤ 5592405)
    return .d (.str (Txt.upper z))
  | .get1, .d (.ref h), [y] => do
    let kvs ← getT h
    let k ← keyR y
    return .d ((getK kvs k).getD .non)
  | .get2, .d (.ref h), [y, .d z] => do
    let kvs ← getT h
    let k ← keyR y
    return .d ((getK kvs k).getD z)
  | .pop2, .d (.ref h), [y, .d z] => do
    let kvs ← getT h
    let k ← keyR y
    match getK kvs k with
    | some d => do
      putT h (delK kvs k)
      return .d d
    | none => return .d z
  | _, _, _ => stuck

/-! ### the text -/
inductive T where
  | name (i : Nat) | tup (is : List Nat)
mutual
inductive E where
  | never | cst (d : D) | var (i : Nat)
  | bin (o : Operator) (a b : E) | neg (a : E) | not (a : E)
  | cmp (o : CmpOp) (a b : E) | cmp2 (o p : CmpOp) (a b c : E)
  | and (a b : E) | or (a b : E) | ite (c a b : E)
  | tup (es : Es) | lst (es : Es) | dct (ks : List Key) (es : Es) | isi (ts : List Ty) (e : E) | rev (e : E) | lrg1 (a : E) | lrg2 (a b : E) | mxd (k : Bool) (a d : E)
  | ix (a i : E) | sl (a : E) (hl hh : Bool) (lo hi : E)
  | call (f : Str) (es : Es) | bif (f : BF) (es : Es) | meth (f : MF) (o : E) (es : Es)
  | comp (own : List Nat) (t : T) (it : I) (c e : E)
  | xf (i : Nat) (f : Str) | ise (i : Nat) (all cs : List Str) | hcall (f : Str) (i : Nat) (es : Es)
inductive Es where
  | nil | cons (e : E) (r : Es)
inductive I where
  | seq (e : E) | range1 (a : E) | range2 (a b : E) | enum (e : E) | zip (a b : E) | rvl (e : E) | rvr (a : E)
end
mutual
inductive S where
  | never | skip | seq (a b : S) | set (t : T) (e : E) | par (i j : Nat) (a b : E) | par3 (i j l : Nat) (a b c : E) | setix (o i e : E)
  | expr (e : E) | ret (e : E) | ite (c : E) (a b : S) | for_ (t : T) (it : I) (b : S) | whl (c : E) (b : S)
  | brk | cont
  | raise (c : Str) (fs : List Str) (es : Es) | try_ (b : S) (h : Hs)
/-- the clauses: all classes that are known, those that this one takes, the name's slot, the suite -/
inductive Hs where
  | nil | cons (all cs : List Str) (i : Option Nat) (s : S) (r : Hs)
end

abbrev Env := List (Option D)
def getV (r : Env) (i : Nat) : M D := fun m => match r[i]? with
  | some (some d) => .ok d m
  | _ => .stuck
def setAll : List Nat → List D → Env → Env
  | i :: is, x :: xs, r => setAll is xs (r.set i (some x))
  | _, _, r => r
def asgT : T → D → Env → M Env
  | .name i, x, r => pure (r.set i (some x))
  | .tup is, .tup xs, r => do
    chk (xs.length = is.length)
    return setAll is xs r
  | _, _, _ => stuck
def wipeE (r : Env) : List Nat → Env
  | [] => r
  | v :: vs => (wipeE r vs).set v none
/-- the lists that are walked stand as they were -/
def chkAll : List (Nat × List D) → M Unit
  | [] => pure ()
  | (h, xs) :: l => do
    let c ← getC h
    chk (c.items = xs)
    chkAll l
/-- [elt for ..]: the turns -/
def compL (st : M Unit) (turn : D → M (Option D)) : List D → M (List D)
  | [] => do
    st
    return []
  | x :: xs => do
    st
    let y ← turn x
    let ys ← compL st turn xs
    return (match y with
      | some z => z :: ys
      | none => ys)
def signs (x : Str) : List D := x.cps.toList.map fun c => D.str ⟨#[c]⟩
/-- what is walked, and which lists must stand -/
def walkR : R → M (List D × List (Nat × List D))
  | .tl xs => pure (xs, [])
  | .d (.tup xs) => pure (xs, [])
  | .d (.str x) => pure (signs x, [])
  | .d (.ref h) => do
    let c ← getC h
    return (c.items, [(h, c.items)])
  | _ => stuck
/-- .. a list -/
def walkL : R → M (List D × List (Nat × List D))
  | .tl xs => pure (xs, [])
  | .d (.ref h) => do
    let c ← getC h
    return (c.items, [(h, c.items)])
  | _ => stuck
def upto (lo : Int) (n : Nat) : List D := (List.range n).map fun (i : Nat) => D.int (lo + (i : Int))
def small62 (i : Int) : Prop := -(2 ^ 62) ≤ i ∧ i < 2 ^ 62
instance (i : Int) : Decidable (small62 i) := by unfold small62; infer_instance
def zipD (xs ys : List D) : List D := (xs.zip ys).map fun p => D.tup [p.1, p.2]
def enumD (xs : List D) : List D := xs.zipIdx.map fun p => D.tup [.int (p.2 : Int), p.1]

def enumR : R → M (List D × List (Nat × List D))
  | .d (.tup xs) => pure (enumD xs, [])
  | x => do
    let p ← walkL x
    return (enumD p.1, p.2)
def zipR : R → R → M (List D × List (Nat × List D))
  | .d (.tup xs), .d (.tup ys) => pure (zipD xs ys, [])
  | x, y => do
    let p ← walkL x
    let q ← walkL y
    return (zipD p.1 q.1, p.2 ++ q.2)
/-- backwards -/
def revI : R → M (List D × List (Nat × List D))
  | .d (.tup xs) => pure (xs.reverse, [])
  | x => do
    let p ← walkL x
    return (p.1.reverse, p.2)
abbrev CF := Str → List D → M D
/-- a slice's part: there or not -/
def partM (b : Bool) (f : Env → M R) (r : Env) : M (Option Int) := match b with
  | true => do return some (← intR (← f r))
  | false => pure none
/-- a method's arguments -/
def argM (b : Bool) (fd : Env → M (List D)) (fr : Env → M (List R)) (r : Env) : M (List R) := match b with
  | true => do return (← fd r).map R.d
  | false => fr r
/-- nothing may be raised here -/
def noErr {α : Type} (x : M α) : M α := fun m => match x m with
  | .err _ _ => .stuck
  | y => y
/-- a value that gets its name -/
def upM (f : Env → M R) (r : Env) : M D := do R.up (← f r)
/-- [elt for ..]: one turn -/
def compT (ct : Env → M Bool) (ev : Env → M D) (t : T) (own : List Nat) (r : Env) (x : D) : M (Option D) := do
  let r1 ← asgT t x (wipeE r own)
  if ← ct r1 then do return some (← ev r1) else pure none
/-- what an expression does: as a value, as a test -/
structure Dn where
  v : Env → M R
  t : Env → M Bool
def Dn.of (v : Env → M R) : Dn := ⟨v, fun r => do tru (← v r)⟩
/-- what stands at the name of a caught exception: its class, its fields' handle -/
def excV (r : Env) (i : Nat) : M (Str × Nat) := do
  match ← getV r i with
  | .tup [.str c, .ref h] => pure (c, h)
  | _ => stuck
def getX (h : Nat) : M (List (Str × D)) := fun m => match m[h]? with
  | some (.exc fs) => .ok fs m
  | _ => .stuck
section
variable (cf : CF)
mutual
def den : E → Dn
  | .never => .of fun _ => stuck
  | .cst d => .of fun _ => pure (.d d)
  | .var i => .of fun r => do return .d (← getV r i)
  | .bin o a b => .of fun r => do
    let x ← (den a).v r
    let y ← (den b).v r
    binR o x y
  | .neg a => .of fun r => do return .d (.int (-(← intR (← (den a).v r))))
  | .not a => ⟨fun r => do return .d (.bl (!(← tru (← (den a).v r)))), fun r => do return !(← (den a).t r)⟩
  | .cmp o a b => .of fun r => do
    let x ← (den a).v r
    let y ← (den b).v r
    cmpR o x y
  | .cmp2 o p a b c => .of fun r => do
    let x ← (den a).v r
    let y ← (den b).v r
    let z ← cmpR o x y
    match z with
    | .d (.bl true) => do
      let w ← (den c).v r
      cmpR p y w
    | .d (.bl false) => pure (.d (.bl false))
    | _ => stuck
  | .and a b => ⟨fun r => do
      let x ← (den a).v r
      if ← tru x then (den b).v r else pure x,
    fun r => do if ← (den a).t r then (den b).t r else pure false⟩
  | .or a b => ⟨fun r => do
      let x ← (den a).v r
      if ← tru x then pure x else (den b).v r,
    fun r => do if ← (den a).t r then pure true else (den b).t r⟩
  | .ite c a b => ⟨fun r => do if ← (den c).t r then (den a).v r else (den b).v r, fun r => do if ← (den c).t r then (den a).t r else (den b).t r⟩
  | .tup es => .of fun r => do
    let xs ← denD es r
    chk (xs.length ≤ sizeLine)
    return .d (.tup xs)
  | .lst es => .of fun r => do
    let xs ← denD es r
    chk (xs.length ≤ sizeLine)
    return .tl xs
  | .dct ks es => .of fun r => do
    let xs ← denD es r
    chk (xs.length = ks.length ∧ ks.length ≤ 15 ∧ ks.Nodup)
    return .d (.ref (← newT (ks.zip xs)))
  | .isi ts e => .of fun r => do
    let x ← (den e).v r
    isiR ts x
  | .rev e => .of fun r => do
    let x ← (den e).v r
    revR x
  | .mxd k a d => .of fun r => do
    let x ← (den a).v r
    let y ← upM (den d).v r
    mxdR k x y
  | .lrg1 a => .of fun r => do
    let n ← intR (← (den a).v r)
    chk (small62 n ∧ n.toNat ≤ 16777216)
    return .tl (upto 0 n.toNat)
  | .lrg2 a b => .of fun r => do
    let lo ← intR (← (den a).v r)
    let hi ← intR (← (den b).v r)
    chk (small62 lo ∧ small62 hi ∧ (hi - lo).toNat ≤ 16777216)
    return .tl (upto lo (hi - lo).toNat)
  | .ix a i => .of fun r => do
    let x ← (den a).v r
    let y ← (den i).v r
    ixR x y
  | .sl a hl hh lo hi => .of fun r => do
    let x ← (den a).v r
    let l ← partM hl (den lo).v r
    let h ← partM hh (den hi).v r
    cutR x l h
  | .call f es => .of fun r => do
    let xs ← denD es r
    return .d (← cf f xs)
  | .bif f es => .of fun r => do
    let xs ← denR es r
    bfR f xs
  | .meth f o es => .of fun r => do
    let x ← (den o).v r
    okM f x
    let xs ← argM f.names (denD es) (denR es) r
    mfR f x xs
  | .xf i f => .of fun r => do
    let q ← excV r i
    let fs ← getX q.2
    return .d (← optM (fs.lookup f))
  | .ise i all cs => .of fun r => do
    let q ← excV r i
    let _ ← getX q.2
    chk (q.1 ∈ all)
    return .d (.bl (decide (q.1 ∈ cs)))
  | .hcall f i es => .of fun r => do
    let q ← excV r i
    let xs ← denD es r
    return .d (← cf f (.tup [.str q.1, .ref q.2] :: xs))
  | .comp own t it c e => .of fun r => do
    let p ← denI it r
    let ys ← compL (chkAll p.2) (fun x => noErr (compT (den c).t (upM (den e).v) t own r x)) p.1
    chk (ys.length ≤ sizeLine)
    return .tl ys
def denR : Es → Env → M (List R)
  | .nil, _ => pure []
  | .cons e es, r => do
    let x ← (den e).v r
    let xs ← denR es r
    return x :: xs
def denD : Es → Env → M (List D)
  | .nil, _ => pure []
  | .cons e es, r => do
    let x ← upM (den e).v r
    let xs ← denD es r
    return x :: xs
def denI : I → Env → M (List D × List (Nat × List D))
  | .seq e, r => do walkR (← (den e).v r)
  | .range1 a, r => do
    let n ← intR (← (den a).v r)
    chk (small62 n)
    return (upto 0 n.toNat, [])
  | .range2 a b, r => do
    let lo ← intR (← (den a).v r)
    let hi ← intR (← (den b).v r)
    chk (small62 lo ∧ small62 hi)
    return (upto lo (hi - lo).toNat, [])
  | .enum e, r => do enumR (← (den e).v r)
  | .zip a b, r => do
    let x ← (den a).v r
    let y ← (den b).v r
    zipR x y
  | .rvl e, r => do revI (← (den e).v r)
  | .rvr a, r => do
    let n ← intR (← (den a).v r)
    chk (small62 n)
    return ((upto 0 n.toNat).reverse, [])
end
def evR (e : E) (r : Env) : M R := (den cf e).v r
def tst (e : E) (r : Env) : M Bool := (den cf e).t r
def evE (e : E) (r : Env) : M D := upM (den cf e).v r

/-! ### statements -/
inductive Fl where
  | nx | brk | cont | ret (x : D)
inductive SR where
  | ok (f : Fl) (r : Env) (m : Store) | err (e : Exc) (r : Env) (m : Store) | stuck
abbrev SM := Env → Store → SR
/-- an expression's end, then a statement's -/
def Res.to {α : Type} (x : Res α) (r : Env) (k : α → Store → SR) : SR := match x with
  | .ok a m => k a m
  | .err e m => .err e r m
  | .stuck => .stuck
def SM.seq (a b : SM) : SM := fun r m => match a r m with
  | .ok .nx r1 m1 => b r1 m1
  | x => x
def forL (st : M Unit) (turn : D → SM) : List D → SM
  | [] => fun r m => (st m).to r fun _ m1 => .ok .nx r m1
  | x :: xs => fun r m => (st m).to r fun _ m1 => match turn x r m1 with
    | .ok .nx r2 m2 => forL st turn xs r2 m2
    | .ok .cont r2 m2 => forL st turn xs r2 m2
    | .ok .brk r2 m2 => .ok .nx r2 m2
    | y => y
def whileL (c : Env → M Bool) (turn : SM) : Nat → SM
  | 0 => fun _ _ => .stuck
  | n + 1 => fun r m => (c r m).to r fun b m1 => if b then (match turn r m1 with
    | .ok .nx r2 m2 => whileL c turn n r2 m2
    | .ok .cont r2 m2 => whileL c turn n r2 m2
    | .ok .brk r2 m2 => .ok .nx r2 m2
    | y => y) else .ok .nx r m1
/-- a for's turn -/
def forT (t : T) (b : SM) (x : D) : SM := fun r m => (asgT t x r m).to r fun r2 m2 => b r2 m2
/-- o[i] = e, behind the three values -/
def setC (h : Nat) (k : R) (x : D) : Cell → M Unit
  | .lst xs => do
    let n ← intR k
    let j ← optM (ixN xs.length n)
    putL h (xs.set j x)
  | .dct kvs => do
    let n ← keyR k
    chk (kvs.length < sizeLine)
    putT h (putD kvs n x)
  | .frz _ => stuck
  | .exc _ => stuck
def setIx (l k : R) (x : D) : M Unit := match l with
  | .d (.ref h) => do
    let c ← getA h
    setC h k x c
  | _ => stuck
/-- behind a suite: its name is gone; nothing may be raised there -/
def SR.behind (i : Option Nat) : SR → SR
  | .ok f r m => .ok f (match i with
    | some i => r.set i none
    | none => r) m
  | _ => .stuck
/-- a suite begins: its name stands for the exception -/
def hotE (i : Option Nat) (e : Exc) (m : Store) (r : Env) : Env := match i with
  | some i => r.set i (some (.tup [.str e.cls, .ref m.length]))
  | none => r
variable (wf : Nat)
mutual
def exS : S → SM
  | .never => fun _ _ => .stuck
  | .skip => fun r m => .ok .nx r m
  | .seq a b => SM.seq (exS a) (exS b)
  | .set t e => fun r m => (evE cf e r m).to r fun x m1 => (asgT t x r m1).to r fun r2 m2 => .ok .nx r2 m2
  | .par i j a b => fun r m => (evE cf a r m).to r fun x m1 => (evE cf b r m1).to r fun y m2 => .ok .nx ((r.set i (some x)).set j (some y)) m2
  | .par3 i j l a b c => fun r m => (evE cf a r m).to r fun x m1 => (evE cf b r m1).to r fun y m2 => (evE cf c r m2).to r fun z m3 => .ok .nx (((r.set i (some x)).set j (some y)).set l (some z)) m3
  | .setix o i e => fun r m => (evE cf e r m).to r fun x m1 => (evR cf o r m1).to r fun l m2 => (evR cf i r m2).to r fun k m3 => (setIx l k x m3).to r fun _ m4 => .ok .nx r m4
  | .expr e => fun r m => (evR cf e r m).to r fun _ m1 => .ok .nx r m1
  | .ret e => fun r m => (evE cf e r m).to r fun x m1 => .ok (.ret x) r m1
  | .ite c a b => fun r m => (tst cf c r m).to r fun k m1 => if k then exS a r m1 else exS b r m1
  | .for_ t it b => fun r m => (denI cf it r m).to r fun p m1 => forL (chkAll p.2) (forT t (exS b)) p.1 r m1
  | .whl c b => whileL (tst cf c) (exS b) wf
  | .brk => fun r m => .ok .brk r m
  | .cont => fun r m => .ok .cont r m
  | .raise c fs es => fun r m => (denD cf es r m).to r fun xs m1 => if xs.length = fs.length ∧ fs.Nodup then .err ⟨c, fs.zip xs⟩ r m1 else .stuck
  | .try_ b h => fun r m => match exS b r m with
    | .err e r1 m1 => exH h e r1 m1
    | x => x
def exH : Hs → Exc → SM
  | .nil, e => fun r m => .err e r m
  | .cons all cs i s h, e => fun r m => if e.cls ∈ all then (if e.cls ∈ cs then (exS s (hotE i e m r) (m ++ [.exc e.fs])).behind i else exH h e r m) else .stuck
end
end

/-! ### a text: its functions -/
structure Fn where
  name : Str
  pars : Nat
  slots : Nat
  dfl : List D
  body : S
def SR.out : SR → Res D
  | .ok (.ret x) _ m => .ok x m
  | .ok .nx _ m => .ok .non m
  | .ok _ _ _ => .stuck
  | .err e _ m => .err e m
  | .stuck => .stuck
def findFn : List Fn → Str → Option Fn
  | [], _ => none
  | f :: fs, x => if f.name = x then some f else findFn fs x
def startE (f : Fn) (xs : List D) : Env := xs.map some ++ List.replicate (f.slots - xs.length) none
/-- the arguments, filled up by the defaults -/
def filled (n : Nat) (dfl xs : List D) : List D := xs ++ dfl.drop (dfl.length - (n - xs.length))
def runFn (cf : CF) (wf : Nat) (f : Fn) (xs : List D) : M D := fun m => (exS cf wf f.body (startE f xs) m).out
def callOf (fs : List Fn) (b : Fn → List D → M D) : CF := fun x => match findFn fs x with
  | none => fun _ => stuck
  | some f => fun xs => do
    chk (xs.length ≤ f.pars ∧ f.pars ≤ xs.length + f.dfl.length)
    b f (filled f.pars f.dfl xs)
/-- a body that runs, calls at most so many deep -/
@[irreducible] noncomputable def bodyN (fs : List Fn) (wf : Nat) (n : Nat) : Fn → List D → M D := Nat.rec (motive := fun _ => Fn → List D → M D) (fun _ _ => stuck) (fun _ b f xs => runFn (callOf fs b) wf f xs) n
theorem bodyN_zero {fs : List Fn} {wf : Nat} {f : Fn} {xs : List D} : bodyN fs wf 0 f xs = stuck := by
  unfold bodyN
  rfl
theorem bodyN_succ {fs : List Fn} {wf n : Nat} {f : Fn} {xs : List D} : bodyN fs wf (n + 1) f xs = runFn (callOf fs (bodyN fs wf n)) wf f xs := by
  conv => lhs; unfold bodyN
  show runFn (callOf fs _) wf f xs = _
  congr 2
  unfold bodyN
  rfl
noncomputable abbrev callN (fs : List Fn) (wf n : Nat) : CF := callOf fs (bodyN fs wf n)
end Pf

/-! Pf2: plain data in the hand layer's heap; each construct's meaning holds in the model. -/
namespace Pf
open PySem L2
abbrev Fg := PySem.W.Frag

/-! ### a datum, a value of the layer -/
mutual
inductive RD (K : Fg) (g : List Addr) (H : Hp) : D → V → Prop
  | non : RD K g H .non .non
  | bl (b : Bool) : RD K g H (.bl b) (.bl b)
  | int (i : Int) : RD K g H (.int i) (.int i)
  | str (x : Str) : RD K g H (.str x) (.str x)
  | tup {a : Addr} {xs : List D} {vs : List V} : SqT K H a vs → RDs K g H xs vs → RD K g H (.tup xs) (.ref a)
  | ref {h : Nat} {a : Addr} : g[h]? = some a → RD K g H (.ref h) (.ref a)
inductive RDs (K : Fg) (g : List Addr) (H : Hp) : List D → List V → Prop
  | nil : RDs K g H [] []
  | cons {x : D} {xs : List D} {v : V} {vs : List V} : RD K g H x v → RDs K g H xs vs → RDs K g H (x :: xs) (v :: vs)
end
/-- a dict's pairs -/
def RKs (K : Fg) (g : List Addr) (H : Hp) (ks : List (Key × D)) (ws : List (Key × V)) : Prop := ws.map (·.1) = ks.map (·.1) ∧ RDs K g H (ks.map (·.2)) (ws.map (·.2))
/-- an exception's fields -/
def XR (K : Fg) (g : List Addr) (H : Hp) (es : List (Str × D)) (fs : List (Str × V)) : Prop := ∀ f d, es.lookup f = some d → ∃ v, fs.lookup f = some v ∧ RD K g H d v
/-- what a cell is -/
def CellAt (K : Fg) (g : List Addr) (H : Hp) (a : Addr) : Cell → Prop
  | .exc es => ∃ fs, H a = some (.xd fs) ∧ XR K g H es fs
  | .dct ks => ∃ ws, H a = some (.dK ws) ∧ RKs K g H ks ws
  | .lst xs => ∃ vs, H a = some (.lst vs) ∧ RDs K g H xs vs
  | .frz xs => ∃ o vs, H a = some (.frz o (.lst vs)) ∧ RDs K g H xs vs
/-- the store in the heap: g, where each handle stands -/
structure Rel (K : Fg) (g : List Addr) (m : Store) (H : Hp) : Prop where
  len : g.length = m.length
  nd : g.Nodup
  cell : ∀ (h : Nat) (c : Cell) (a : Addr), m[h]? = some c → g[h]? = some a → CellAt K g H a c
/-- what the store may write -/
def Wr : HO → Prop
  | .lst _ => True
  | .dK _ => True
  | _ => False
/-- what may come behind: new things, changed lists of the store -/
structure Ext (g : List Addr) (H : Hp) (g' : List Addr) (H' : Hp) : Prop where
  pre : ∃ l, g' = g ++ l ∧ ∀ a ∈ l, H a = none
  keep : ∀ b o, H b = some o → (b ∈ g → ¬ Wr o) → H' b = some o
  free : ∀ b, H' b = none → H b = none
theorem Ext.refl (g : List Addr) (H : Hp) : Ext g H g H := ⟨⟨[], by simp, fun _ z => nomatch z⟩, fun _ _ e _ => e, fun _ e => e⟩
theorem Ext.trans {g g1 g2 : List Addr} {H H1 H2 : Hp} (a : Ext g H g1 H1) (b : Ext g1 H1 g2 H2) : Ext g H g2 H2 := by
  obtain ⟨l1, e1, n1⟩ := a.pre
  obtain ⟨l2, e2, n2⟩ := b.pre
  refine ⟨⟨l1 ++ l2, by rw [e2, e1, List.append_assoc], fun x hx => ?_⟩, fun x o h c => ?_, fun x h => a.free x (b.free x h)⟩
  · rcases List.mem_append.mp hx with z | z
    · exact n1 x z
    · exact a.free x (n2 x z)
  · refine b.keep x o (a.keep x o h c) fun z => ?_
    rw [e1] at z
    rcases List.mem_append.mp z with z | z
    · exact c z
    · rw [n1 x z] at h; cases h
/-- a new thing is laid -/
theorem Ext.new {g : List Addr} {H : Hp} {p : Addr} {o : HO} (hp : H p = none) : Ext g H g (upd H p o) :=
  ⟨⟨[], by simp, fun _ z => nomatch z⟩, fun b u e _ => by rw [upd_ne (ne_of_none e hp)]; exact e, fun b e => by
    by_cases h : b = p
    · rw [h]; exact hp
    · rw [upd_ne h] at e; exact e⟩
theorem SqT.ext {K : Fg} {g g' : List Addr} {H H' : Hp} {a : Addr} {vs : List V} (e : Ext g H g' H') (h : SqT K H a vs) : SqT K H' a vs := by
  rcases h with (h | ⟨o, h⟩) | h
  · exact .inl (.inl (e.keep _ _ h fun _ z => z))
  · exact .inl (.inr ⟨o, e.keep _ _ h fun _ z => z⟩)
  · exact .inr h
section
variable {K : Fg} {g g' : List Addr} {H H' : Hp}
mutual
theorem RD.ext (e : Ext g H g' H') : ∀ {x : D} {v : V}, RD K g H x v → RD K g' H' x v
  | _, _, .non => .non
  | _, _, .bl b => .bl b
  | _, _, .int i => .int i
  | _, _, .str x => .str x
  | _, _, .tup s r => .tup (SqT.ext e s) (RDs.ext e r)
  | _, _, .ref h => .ref (by
    obtain ⟨l, e1, _⟩ := e.pre
    rw [e1, List.getElem?_append_left (List.getElem?_eq_some_iff.mp h).1]
    exact h)
theorem RDs.ext (e : Ext g H g' H') : ∀ {xs : List D} {vs : List V}, RDs K g H xs vs → RDs K g' H' xs vs
  | _, _, .nil => .nil
  | _, _, .cons a b => .cons (RD.ext e a) (RDs.ext e b)
end
theorem RDs.length : ∀ {xs : List D} {vs : List V}, RDs K g H xs vs → xs.length = vs.length
  | _, _, .nil => rfl
  | _, _, .cons _ r => by rw [List.length_cons, List.length_cons, RDs.length r]
theorem RDs.get : ∀ {xs : List D} {vs : List V} {i : Nat} {x : D}, RDs K g H xs vs → xs[i]? = some x → ∃ v, vs[i]? = some v ∧ RD K g H x v
  | _, _, _, _, .nil, e => by simp at e
  | _, _, 0, _, .cons r _, e => by simp at e; subst e; exact ⟨_, rfl, r⟩
  | _, _, i + 1, x, .cons _ t, e => by
    obtain ⟨u, h1, h2⟩ := RDs.get (i := i) (x := x) t (by simpa using e)
    exact ⟨u, by simpa using h1, h2⟩
theorem RDs.getV : ∀ {xs : List D} {vs : List V} {i : Nat} {v : V}, RDs K g H xs vs → vs[i]? = some v → ∃ x, xs[i]? = some x ∧ RD K g H x v
  | _, _, _, _, .nil, e => by simp at e
  | _, _, 0, _, .cons r _, e => by simp at e; subst e; exact ⟨_, rfl, r⟩
  | _, _, i + 1, x, .cons _ t, e => by
    obtain ⟨u, h1, h2⟩ := RDs.getV (i := i) (v := x) t (by simpa using e)
    exact ⟨u, by simpa using h1, h2⟩
theorem RDs.app : ∀ {xs ys : List D} {vs ws : List V}, RDs K g H xs vs → RDs K g H ys ws → RDs K g H (xs ++ ys) (vs ++ ws)
  | _, _, _, _, .nil, s => s
  | _, _, _, _, .cons r t, s => .cons r (RDs.app t s)
theorem RDs.set {x : D} {v : V} (r : RD K g H x v) : ∀ {xs : List D} {vs : List V} (i : Nat), RDs K g H xs vs → RDs K g H (xs.set i x) (vs.set i v)
  | _, _, _, .nil => .nil
  | _, _, 0, .cons _ t => .cons r t
  | _, _, i + 1, .cons q t => .cons q (RDs.set r i t)
theorem RDs.take : ∀ {xs : List D} {vs : List V} (n : Nat), RDs K g H xs vs → RDs K g H (xs.take n) (vs.take n)
  | _, _, 0, _ => .nil
  | _, _, _ + 1, .nil => .nil
  | _, _, n + 1, .cons r t => .cons r (RDs.take n t)
theorem RDs.drop : ∀ {xs : List D} {vs : List V} (n : Nat), RDs K g H xs vs → RDs K g H (xs.drop n) (vs.drop n)
  | _, _, 0, r => r
  | _, _, _ + 1, .nil => .nil
  | _, _, n + 1, .cons r t => RDs.drop n t
theorem RDs.rep {xs : List D} {vs : List V} (h : RDs K g H xs vs) : ∀ k : Nat, RDs K g H (List.replicate k xs).flatten (List.replicate k vs).flatten
  | 0 => .nil
  | k + 1 => by
    rw [List.replicate_succ, List.replicate_succ, List.flatten_cons, List.flatten_cons]
    exact h.app (RDs.rep h k)
theorem RDs.cut {xs : List D} {vs : List V} (h : RDs K g H xs vs) (lo hi : Option Int) : RDs K g H (cut xs lo hi) (cutV vs lo hi) := by
  unfold Pf.cut cutV
  rw [h.length]
  exact (h.drop _).take _
theorem RDs.nil_iff {xs : List D} {vs : List V} (h : RDs K g H xs vs) : xs.isEmpty = vs.isEmpty := by
  cases h <;> rfl
end
/-- a value on its way, from H0 on: a list that no name holds is new -/
def RR (K : Fg) (H0 : Hp) (g : List Addr) (H : Hp) : R → V → Prop
  | .d x, v => RD K g H x v
  | .tl xs, v => ∃ a vs, v = .ref a ∧ H a = some (.lst vs) ∧ a ∉ g ∧ H0 a = none ∧ RDs K g H xs vs
theorem Ext.notIn {g g' : List Addr} {H H' : Hp} (e : Ext g H g' H') {a : Addr} {o : HO} (h : H a = some o) (n : a ∉ g) : a ∉ g' := by
  obtain ⟨l, e1, e2⟩ := e.pre
  rw [e1]
  intro z
  rcases List.mem_append.mp z with z | z
  · exact n z
  · rw [e2 a z] at h; cases h
theorem RR.ext {K : Fg} {H0 : Hp} {g g' : List Addr} {H H' : Hp} (e : Ext g H g' H') : ∀ {x : R} {v : V}, RR K H0 g H x v → RR K H0 g' H' x v
  | .d x, v, h => RD.ext e h
  | .tl xs, v, ⟨a, vs, h1, h2, h3, h5, h4⟩ => ⟨a, vs, h1, e.keep _ _ h2 fun z => absurd z h3, e.notIn h2 h3, h5, h4.ext e⟩
theorem RR.sooner {K : Fg} {H0 H1 : Hp} {g : List Addr} {H : Hp} (f : ∀ a, H1 a = none → H0 a = none) : ∀ {x : R} {v : V}, RR K H1 g H x v → RR K H0 g H x v
  | .d x, v, h => h
  | .tl xs, v, ⟨a, vs, h1, h2, h3, h5, h4⟩ => ⟨a, vs, h1, h2, h3, f a h5, h4⟩
/-- the exception that is handled: the object, its dict, its class's name, the slot of its name -/
structure Gh where
  a : Addr
  d : Addr
  cls : Str
  i : Nat
/-- the names' values; G: the exception that is handled -/
structure RS (K : Fg) (G : Option Gh) (g : List Addr) (H : Hp) (r : Env) (σ : St) : Prop where
  len : r.length = σ.length
  slot : ∀ (i : Nat) (x : D), r[i]? = some (some x) → (∀ q, G = some q → i ≠ q.i) → ∃ v, σ[i]? = some (some v) ∧ RD K g H x v
  gh : ∀ (q : Gh), G = some q → ∀ x, r[q.i]? = some (some x) → σ[q.i]? = some (some (.ref q.a)) ∧ ∃ h, x = .tup [.str q.cls, .ref h] ∧ g[h]? = some q.d
theorem RS.ext {K : Fg} {G : Option Gh} {g g' : List Addr} {H H' : Hp} {r : Env} {σ : St} (e : Ext g H g' H') (h : RS K G g H r σ) : RS K G g' H' r σ :=
  ⟨h.len, fun i x q z => let ⟨v, a, b⟩ := h.slot i x q z; ⟨v, a, b.ext e⟩, fun q hq x hx => let ⟨a, h, b, c⟩ := h.gh q hq x hx; ⟨a, h, b, by
    obtain ⟨l, e1, _⟩ := e.pre
    rw [e1, List.getElem?_append_left (List.getElem?_eq_some_iff.mp c).1]
    exact c⟩⟩
theorem RS.set' {K : Fg} {G : Option Gh} {g : List Addr} {H : Hp} {r : Env} {σ : St} (h : RS K G g H r σ) {i : Nat} {x : D} {v : V} (q : RD K g H x v) (n : ∀ q, G = some q → i ≠ q.i) : RS K G g H (r.set i (some x)) (σ.set i (some v)) := by
  refine ⟨by rw [List.length_set, List.length_set]; exact h.len, fun j y e z => ?_, fun q hq y hy => ?_⟩
  · by_cases hj : i = j
    · subst hj
      have hl : i < (r.set i (some x)).length := (List.getElem?_eq_some_iff.mp e).1
      rw [List.length_set] at hl
      rw [List.getElem?_set_self hl] at e
      cases e
      exact ⟨v, List.getElem?_set_self (by rw [← h.len]; exact hl), q⟩
    · rw [List.getElem?_set_ne hj] at e
      obtain ⟨u, a, b⟩ := h.slot j y e z
      exact ⟨u, by rw [List.getElem?_set_ne hj]; exact a, b⟩
  · have hj := n q hq
    rw [List.getElem?_set_ne hj] at hy
    rw [List.getElem?_set_ne hj]
    exact h.gh q hq y hy
theorem RS.set {K : Fg} {g : List Addr} {H : Hp} {r : Env} {σ : St} (h : RS K none g H r σ) {i : Nat} {x : D} {v : V} (q : RD K g H x v) : RS K none g H (r.set i (some x)) (σ.set i (some v)) := h.set' q fun _ z => nomatch z
theorem RS.gone {K : Fg} {G : Option Gh} {g : List Addr} {H : Hp} {r : Env} {σ : St} (h : RS K G g H r σ) (v : Nat) (u : Option V) : RS K G g H (r.set v none) (σ.set v u) := by
  have no : ∀ {j : Nat} {y : D}, (r.set v none)[j]? = some (some y) → v ≠ j := fun {j y} e => by
    rintro rfl
    have hl : v < (r.set v none).length := (List.getElem?_eq_some_iff.mp e).1
    rw [List.length_set] at hl
    rw [List.getElem?_set_self hl] at e
    cases e
  refine ⟨by rw [List.length_set, List.length_set]; exact h.len, fun j y e z => ?_, fun q hq y e => ?_⟩
  · have hj := no e
    rw [List.getElem?_set_ne hj] at e
    obtain ⟨u, a, b⟩ := h.slot j y e z
    exact ⟨u, by rw [List.getElem?_set_ne hj]; exact a, b⟩
  · have hj := no e
    rw [List.getElem?_set_ne hj] at e
    rw [List.getElem?_set_ne hj]
    exact h.gh q hq y e
theorem RS.wipe {K : Fg} {G : Option Gh} {g : List Addr} {H : Hp} {r : Env} {σ : St} (h : RS K G g H r σ) : ∀ vs : List Nat, RS K G g H (wipeE r vs) (wipe σ vs)
  | [] => h
  | v :: vs => by
    unfold wipeE L2.wipe
    exact (RS.wipe h vs).gone v none
theorem XR.ext {K : Fg} {g g' : List Addr} {H H' : Hp} {es : List (Str × D)} {fs : List (Str × V)} (x : Ext g H g' H') (h : XR K g H es fs) : XR K g' H' es fs := fun f d e => let ⟨v, a, b⟩ := h f d e; ⟨v, a, b.ext x⟩
/-- an exception: its class, its own dict -/
def ExcAt (K : Fg) (g : List Addr) (H : Hp) (e : Exc) (cls : Value) (d : Option Addr) : Prop :=
  cls = .ref (He.ga K e.cls) ∧ ∃ a fs, d = some a ∧ H a = some (.xd fs) ∧ a ∉ g ∧ XR K g H e.fs fs
theorem ExcAt.ext {K : Fg} {g g' : List Addr} {H H' : Hp} {e : Exc} {cls : Value} {d : Option Addr} (x : Ext g H g' H') (h : ExcAt K g H e cls d) : ExcAt K g' H' e cls d := by
  obtain ⟨h1, a, fs, h2, h3, h4, h5⟩ := h
  exact ⟨h1, a, fs, h2, x.keep _ _ h3 (fun _ z => z), x.notIn h3 h4, h5.ext x⟩
/-- what is wished of exceptions; the exception that is handled -/
structure WG where
  w : WX
  g : Option Gh := none
instance : Coe WX WG := ⟨fun w => ⟨w, none⟩⟩

/-! ### ends -/
/-- how an answer is told, from H0 on -/
abbrev Rep (α β : Type) := Hp → List Addr → Hp → α → β → Prop
/-- what is wanted behind; H0: where the expression began; g, H: where it stands -/
def Po {α β : Type} (K : Fg) (W : WG) (σ : St) (rep : Rep α β) (H0 : Hp) (g : List Addr) (H : Hp) (r : Res α) (Q : β → Hp → Prop) : Prop :=
  match r with
  | .ok x m => ∀ g' H' v, Ext g H g' H' → Rel K g' m H' → rep H0 g' H' x v → Q v H'
  | .err e m => ∀ g' H' cls d, Ext g H g' H' → Rel K g' m H' → ExcAt K g' H' e cls d → (∀ a, d = some a → H a = none) → W.w cls d σ H'
  | .stuck => False
/-- a way of telling that may begin sooner -/
def Soon {α β : Type} (rep : Rep α β) : Prop := ∀ {H0 H1 : Hp} {g : List Addr} {H : Hp} {x : α} {v : β}, (∀ a, H1 a = none → H0 a = none) → rep H1 g H x v → rep H0 g H x v
section
variable {α β γ δ : Type} {K : Fg} {W : WG} {σ : St} {rep : Rep α β} {rep' : Rep γ δ} {H0 : Hp} {g g' : List Addr} {H H' : Hp} {Q : β → Hp → Prop} {Q' : δ → Hp → Prop} {m : Store}
theorem Po.later {r : Res α} (e : Ext g H g' H') (h : Po K W σ rep H0 g H r Q) : Po K W σ rep H0 g' H' r Q := by
  cases r with
  | ok x m => exact fun g2 H2 v a => h g2 H2 v (e.trans a)
  | err x m => exact fun g2 H2 c d a rl ea nw => h g2 H2 c d (e.trans a) rl ea fun b z => e.free b (nw b z)
  | stuck => exact h
theorem Po.soon {H1 : Hp} {r : Res α} (s : Soon rep) (f : ∀ a, H1 a = none → H0 a = none) (h : Po K W σ rep H0 g H r Q) : Po K W σ rep H1 g H r Q := by
  cases r with
  | ok x m => exact fun g2 H2 v a rl rp => h g2 H2 v a rl (s f rp)
  | err x m => exact h
  | stuck => exact h
theorem Po.bnd {H1 : Hp} {x : M γ} {f : γ → M α} (h : Po K W σ rep H0 g H (M.bnd x f m) Q)
    (k : ∀ a m1 g1 H2 v, Ext g H g1 H2 → Rel K g1 m1 H2 → rep' H1 g1 H2 a v → Po K W σ rep H0 g1 H2 (f a m1) Q → Q' v H2) : Po K W σ rep' H1 g H (x m) Q' := by
  unfold M.bnd at h
  cases e : x m with
  | ok a m1 =>
    rw [e] at h
    exact fun g1 H1 v ex rl rp => k a m1 g1 H1 v ex rl rp (Po.later ex h)
  | err y m1 =>
    rw [e] at h
    exact h
  | stuck =>
    rw [e] at h
    exact h.elim
theorem Po.ret {x : α} {v : β} (h : Po K W σ rep H0 g H (.ok x m) Q) (rl : Rel K g m H) (rp : rep H0 g H x v) : Q v H := h g H v (Ext.refl _ _) rl rp
end
/-- an expression's reading by its meaning -/
def tM {α β : Type} (K : Fg) (W : WG) (rep : Rep α β) (f : Env → M α) : St → Hp → (β → Hp → Prop) → Prop :=
  fun σ H Q => ∃ r m g, RS K W.g g H r σ ∧ Rel K g m H ∧ Po K W σ rep H g H (f r m) Q
def same {α : Type} : Rep α α := fun _ _ _ a b => a = b
def repD (K : Fg) : Rep D V := fun _ g H x v => RD K g H x v
def repDs (K : Fg) : Rep (List D) (List V) := fun _ g H x v => RDs K g H x v
theorem soonR (K : Fg) : Soon (RR K) := fun f h => RR.sooner f h
theorem soonD (K : Fg) : Soon (repD K) := fun _ h => h
theorem soonDs (K : Fg) : Soon (repDs K) := fun _ h => h
theorem soonS {α : Type} : Soon (same (α := α)) := fun _ h => h
abbrev PoR (K : Fg) (W : WG) (σ : St) := Po (α := R) (β := V) K W σ (RR K)
abbrev tR (K : Fg) (W : WG) (f : Env → M R) : TE := tM K W (RR K) f
abbrev tD (K : Fg) (W : WG) (f : Env → M D) : TE := tM K W (repD K) f
abbrev tT (K : Fg) (W : WG) (f : Env → M Bool) : TT := tM K W same f
/-- an expression's reading is another one's -/
theorem _root_.L2.PE.imp {X : Cx} {e : Expr} {t t' : TE} (h : PE X e t) (k : ∀ σ H Q, t' σ H Q → t σ H Q) : PE X e t' := ⟨fun pins s σ H Q I q => h.run pins s σ H Q I (k σ H Q q)⟩
theorem _root_.L2.PT.imp {X : Cx} {e : Expr} {t t' : TT} (h : PT X e t) (k : ∀ σ H Q, t' σ H Q → t σ H Q) : PT X e t' := ⟨fun pins s σ H Q I q => h.run pins s σ H Q I (k σ H Q q)⟩
theorem _root_.L2.PW.imp {X : Cx} {e : Expr} {t t' : TT} (h : PW X e t) (k : ∀ σ H Q, t' σ H Q → t σ H Q) : PW X e t' := ⟨fun w pins s σ H Q I q => h.run w pins s σ H Q I (k σ H Q q)⟩
theorem _root_.L2.PA.imp {X : Cx} {e : List Expr} {t t' : TA} (h : PA X e t) (k : ∀ σ H Q, t' σ H Q → t σ H Q) : PA X e t' := ⟨fun p pins s σ H Q I q => h.run p pins s σ H Q I (k σ H Q q)⟩
theorem _root_.L2.PS.imp {X : Cx} {e : Stmt} {t t' : TS} (h : PS X e t) (k : ∀ D σ H, t' D σ H → t D σ H) : PS X e t' := ⟨fun pins s σ H D I q => h.run pins s σ H D I (k D σ H q)⟩
theorem _root_.L2.PSs.imp {X : Cx} {e : List Stmt} {t t' : TS} (h : PSs X e t) (k : ∀ D σ H, t' D σ H → t D σ H) : PSs X e t' := ⟨fun pins s σ H D I q => h.run pins s σ H D I (k D σ H q)⟩

/-! ### the store's turns in the heap -/
section
variable {K : Fg} {g : List Addr} {m : Store} {H : Hp}
theorem Rel.get (r : Rel K g m H) {h : Nat} {a : Addr} (e : g[h]? = some a) : ∃ c, m[h]? = some c ∧ CellAt K g H a c := by
  have hl : h < m.length := by rw [← r.len]; exact (List.getElem?_eq_some_iff.mp e).1
  exact ⟨m[h], List.getElem?_eq_getElem hl, r.cell h _ a (List.getElem?_eq_getElem hl) e⟩
theorem RKs.ext {g' : List Addr} {H' : Hp} (e : Ext g H g' H') {ks : List (Key × D)} {ws : List (Key × V)} (h : RKs K g H ks ws) : RKs K g' H' ks ws := ⟨h.1, h.2.ext e⟩
theorem CellAt.ext {g' : List Addr} {H' : Hp} {a : Addr} (e : Ext g H g' H') (k : ∀ o, Wr o → H a = some o → H' a = some o) : ∀ {c : Cell}, CellAt K g H a c → CellAt K g' H' a c
  | .lst xs, ⟨vs, h1, h2⟩ => ⟨vs, k _ trivial h1, h2.ext e⟩
  | .dct xs, ⟨vs, h1, h2⟩ => ⟨vs, k _ trivial h1, h2.ext e⟩
  | .exc xs, ⟨vs, h1, h2⟩ => ⟨vs, e.keep _ _ h1 (fun _ z => z), h2.ext e⟩
  | .frz xs, ⟨o, vs, h1, h2⟩ => ⟨o, vs, e.keep _ _ h1 (fun _ z => z), h2.ext e⟩
theorem CellAt.some_ {a : Addr} : ∀ {c : Cell}, CellAt K g H a c → ∃ o, H a = some o
  | .exc xs, ⟨vs, h1, h2⟩ => ⟨_, h1⟩
  | .dct xs, ⟨vs, h1, h2⟩ => ⟨_, h1⟩
  | .lst xs, ⟨vs, h1, h2⟩ => ⟨_, h1⟩
  | .frz xs, ⟨o, vs, h1, h2⟩ => ⟨_, h1⟩
theorem Rel.mem (r : Rel K g m H) {a : Addr} (h : a ∈ g) : ∃ o, H a = some o := by
  obtain ⟨i, e⟩ := List.getElem?_of_mem h
  obtain ⟨c, _, q⟩ := r.get e
  exact q.some_
/-- something new beside the store -/
theorem Rel.new (r : Rel K g m H) {p : Addr} {o : HO} (hp : H p = none) : Rel K g m (upd H p o) :=
  ⟨r.len, r.nd, fun h c a e1 e2 => (r.cell h c a e1 e2).ext (Ext.new hp) fun o _ q => by rw [upd_ne (ne_of_none q hp)]; exact q⟩
theorem Rel.notIn (r : Rel K g m H) {p : Addr} (hp : H p = none) : p ∉ g := fun h => by
  obtain ⟨o, e⟩ := r.mem h
  rw [hp] at e; cases e
/-- more handles -/
theorem app_at {l : List Addr} {h : Nat} {a : Addr} (e : g[h]? = some a) : (g ++ l)[h]? = some a := by
  rw [List.getElem?_append_left (List.getElem?_eq_some_iff.mp e).1]
  exact e
mutual
theorem RD.grow {l : List Addr} : ∀ {x : D} {v : V}, RD K g H x v → RD K (g ++ l) H x v
  | _, _, .non => .non
  | _, _, .bl b => .bl b
  | _, _, .int i => .int i
  | _, _, .str x => .str x
  | _, _, .tup s r => .tup s (RDs.grow r)
  | _, _, .ref h => .ref (app_at h)
theorem RDs.grow {l : List Addr} : ∀ {xs : List D} {vs : List V}, RDs K g H xs vs → RDs K (g ++ l) H xs vs
  | _, _, .nil => .nil
  | _, _, .cons a b => .cons (RD.grow a) (RDs.grow b)
end
theorem CellAt.grow {l : List Addr} {a : Addr} : ∀ {c : Cell}, CellAt K g H a c → CellAt K (g ++ l) H a c
  | .lst xs, ⟨vs, h1, h2⟩ => ⟨vs, h1, h2.grow⟩
  | .frz xs, ⟨o, vs, h1, h2⟩ => ⟨o, vs, h1, h2.grow⟩
  | .dct xs, ⟨vs, h1, h2⟩ => ⟨vs, h1, h2.1, h2.2.grow⟩
  | .exc xs, ⟨vs, h1, h2⟩ => ⟨vs, h1, fun f d e => let ⟨v, a, b⟩ := h2 f d e; ⟨v, a, b.grow⟩⟩
/-- something new gets a handle -/
theorem Rel.add (r : Rel K g m H) {a : Addr} {c0 : Cell} (h1 : CellAt K g H a c0) (h2 : a ∉ g) : Rel K (g ++ [a]) (m ++ [c0]) H := by
  refine ⟨by rw [List.length_append, List.length_append, r.len]; rfl, ?_, fun h c b e1 e2 => ?_⟩
  · rw [List.nodup_append]
    refine ⟨r.nd, by simp, fun x hx y hy => ?_⟩
    have : y = a := by simpa using hy
    subst this
    rintro rfl
    exact h2 hx
  · by_cases hl : h < m.length
    · rw [List.getElem?_append_left hl] at e1
      rw [List.getElem?_append_left (by rw [r.len]; exact hl)] at e2
      exact (r.cell h c b e1 e2).grow
    · rw [List.getElem?_append_right (by omega)] at e1
      rw [List.getElem?_append_right (by rw [r.len]; omega)] at e2
      rw [r.len] at e2
      have hk : h - m.length = 0 := by
        have := (List.getElem?_eq_some_iff.mp e1).1
        rw [List.length_singleton] at this
        omega
      rw [hk] at e1 e2
      cases e1
      cases e2
      exact h1.grow
/-- a list on its way gets a handle -/
theorem Rel.named (r : Rel K g m H) {a : Addr} {vs : List V} {xs : List D} (h1 : H a = some (.lst vs)) (h2 : a ∉ g) (h3 : RDs K g H xs vs) : Rel K (g ++ [a]) (m ++ [.lst xs]) H := r.add (c0 := .lst xs) ⟨vs, h1, h3⟩ h2
theorem Ext.named {H0 : Hp} {g0 : List Addr} (e : Ext g0 H0 g H) {a : Addr} (h : H0 a = none) : Ext g0 H0 (g ++ [a]) H := by
  obtain ⟨l, e1, e2⟩ := e.pre
  refine ⟨⟨l ++ [a], by rw [e1, List.append_assoc], fun x hx => ?_⟩, e.keep, e.free⟩
  rcases List.mem_append.mp hx with z | z
  · exact e2 x z
  · have : x = a := by simpa using z
    rw [this]; exact h
/-- what stands at a handle is written -/
theorem Ext.write {h : Nat} {a : Addr} {o o' : HO} (e : g[h]? = some a) (h1 : H a = some o) (hw : Wr o) : Ext g H g (upd H a o') := by
  refine ⟨⟨[], by simp, fun _ z => nomatch z⟩, fun b u q c => ?_, fun b q => ?_⟩
  · by_cases hb : b = a
    · subst hb
      rw [h1] at q
      cases q
      exact absurd hw (c (List.mem_of_getElem? e))
    · rw [upd_ne hb]; exact q
  · by_cases hb : b = a
    · subst hb; rw [upd_same] at q; cases q
    · rw [upd_ne hb] at q; exact q
theorem Rel.writeC (r : Rel K g m H) {h : Nat} {a : Addr} {o o' : HO} {c' : Cell} (e : g[h]? = some a) (h1 : H a = some o) (hw : Wr o) (h2 : CellAt K g (upd H a o') a c') : Ext g H g (upd H a o') ∧ Rel K g (m.set h c') (upd H a o') := by
  have ex : Ext g H g (upd H a o') := Ext.write e h1 hw
  refine ⟨ex, ⟨by rw [List.length_set]; exact r.len, r.nd, fun k c b e1 e2 => ?_⟩⟩
  by_cases hk : h = k
  · subst hk
    rw [e] at e2
    cases e2
    have hl : h < (m.set h c').length := (List.getElem?_eq_some_iff.mp e1).1
    rw [List.length_set] at hl
    rw [List.getElem?_set_self hl] at e1
    cases e1
    exact h2
  · rw [List.getElem?_set_ne hk] at e1
    have hne : b ≠ a := by
      rintro rfl
      obtain ⟨l1, q1⟩ := List.getElem?_eq_some_iff.mp e
      obtain ⟨l2, q2⟩ := List.getElem?_eq_some_iff.mp e2
      exact hk ((List.getElem_inj r.nd).mp (q1.trans q2.symm))
    exact (r.cell k c b e1 e2).ext ex fun o _ q => by rw [upd_ne hne]; exact q
/-- a list of the store is written -/
theorem Rel.write (r : Rel K g m H) {h : Nat} {a : Addr} {vs ws : List V} {xs : List D} (e : g[h]? = some a) (h1 : H a = some (.lst vs)) (h2 : RDs K g H xs ws) : Ext g H g (upd H a (.lst ws)) ∧ Rel K g (m.set h (.lst xs)) (upd H a (.lst ws)) :=
  r.writeC (c' := .lst xs) e h1 trivial ⟨ws, upd_same, h2.ext (Ext.write e h1 trivial)⟩
/-- a dict of the store is written -/
theorem Rel.writeT (r : Rel K g m H) {h : Nat} {a : Addr} {vs ws : List (Key × V)} {xs : List (Key × D)} (e : g[h]? = some a) (h1 : H a = some (.dK vs)) (h2 : RKs K g H xs ws) : Ext g H g (upd H a (.dK ws)) ∧ Rel K g (m.set h (.dct xs)) (upd H a (.dK ws)) :=
  r.writeC (c' := .dct xs) e h1 trivial ⟨ws, upd_same, h2.ext (Ext.write e h1 trivial)⟩
end

/-! ### the small looks -/
section
variable {β : Type} {α : Type} {K : Fg} {W : WG} {σ : St} {rep : Rep α β} {H0 H1 : Hp} {g : List Addr} {H : Hp} {m : Store} {Q : β → Hp → Prop}
theorem Rel.own (rl : Rel K g m H) {h : Nat} {a : Addr} (e : g[h]? = some a) {xs : List D} (q : m[h]? = some (.lst xs)) : ∃ vs, H a = some (.lst vs) ∧ RDs K g H xs vs := rl.cell h _ a q e
theorem Rel.ownT (rl : Rel K g m H) {h : Nat} {a : Addr} (e : g[h]? = some a) {xs : List (Key × D)} (q : m[h]? = some (.dct xs)) : ∃ vs, H a = some (.dK vs) ∧ RKs K g H xs vs := rl.cell h _ a q e
theorem Rel.look (rl : Rel K g m H) {h : Nat} {a : Addr} (e : g[h]? = some a) {c : Cell} (q : m[h]? = some c) (hl : c.isL = true) : ∃ vs, SqL K H a vs ∧ RDs K g H c.items vs := by
  have z := rl.cell h c a q e
  cases c with
  | lst xs => obtain ⟨vs, h1, h2⟩ := z; exact ⟨vs, .inl (.inl h1), h2⟩
  | frz xs => obtain ⟨o, vs, h1, h2⟩ := z; exact ⟨vs, .inl (.inr ⟨o, h1⟩), h2⟩
  | dct xs => cases hl
  | exc xs => cases hl
theorem chk_ok {p : Prop} [Decidable p] {f : Unit → M α} (h : Po K W σ rep H0 g H ((chk p >>= f) m) Q) : p ∧ Po K W σ rep H0 g H (f () m) Q := by
  have h' : Po K W σ rep H0 g H (M.bnd (chk p) f m) Q := h
  unfold M.bnd chk at h'
  by_cases hp : p
  · rw [if_pos hp] at h'
    exact ⟨hp, h'⟩
  · rw [if_neg hp] at h'
    exact h'.elim
theorem optM_ok {γ : Type} {o : Option γ} {f : γ → M α} (h : Po K W σ rep H0 g H ((optM o >>= f) m) Q) : ∃ x, o = some x ∧ Po K W σ rep H0 g H (f x m) Q := by
  cases o with
  | none => exact (show False from h).elim
  | some x => exact ⟨x, rfl, h⟩
theorem getC_ok {h : Nat} {f : Cell → M α} (p : Po K W σ rep H0 g H ((getC h >>= f) m) Q) : ∃ c, m[h]? = some c ∧ c.isL = true ∧ Po K W σ rep H0 g H (f c m) Q := by
  have p' : Po K W σ rep H0 g H (M.bnd (getC h) f m) Q := p
  unfold M.bnd getC at p'
  cases e : m[h]? with
  | none => rw [e] at p'; exact p'.elim
  | some c =>
    rw [e] at p'
    cases hl : c.isL with
    | true =>
      simp only [hl, if_true] at p'
      exact ⟨c, rfl, hl, p'⟩
    | false =>
      simp only [hl] at p'
      exact p'.elim
theorem getA_ok {h : Nat} {f : Cell → M α} (p : Po K W σ rep H0 g H ((getA h >>= f) m) Q) : ∃ c, m[h]? = some c ∧ Po K W σ rep H0 g H (f c m) Q := by
  have p' : Po K W σ rep H0 g H (M.bnd (getA h) f m) Q := p
  unfold M.bnd getA at p'
  cases e : m[h]? with
  | none => rw [e] at p'; exact p'.elim
  | some c => rw [e] at p'; exact ⟨c, rfl, p'⟩
theorem getY_ok {h : Nat} {f : Cell → M α} (p : Po K W σ rep H0 g H ((getY h >>= f) m) Q) : ∃ c, m[h]? = some c ∧ c.isX = false ∧ Po K W σ rep H0 g H (f c m) Q := by
  have p' : Po K W σ rep H0 g H (M.bnd (getY h) f m) Q := p
  unfold M.bnd getY at p'
  cases e : m[h]? with
  | none => rw [e] at p'; exact p'.elim
  | some c =>
    rw [e] at p'
    cases hl : c.isX with
    | false =>
      simp only [hl] at p'
      exact ⟨c, rfl, hl, p'⟩
    | true =>
      simp only [hl, if_true] at p'
      exact p'.elim
theorem getT_ok {h : Nat} {f : List (Key × D) → M α} (p : Po K W σ rep H0 g H ((getT h >>= f) m) Q) : ∃ xs, m[h]? = some (.dct xs) ∧ Po K W σ rep H0 g H (f xs m) Q := by
  have p' : Po K W σ rep H0 g H (M.bnd (getT h) f m) Q := p
  unfold M.bnd getT at p'
  cases e : m[h]? with
  | none => rw [e] at p'; exact p'.elim
  | some c =>
    rw [e] at p'
    cases c with
    | dct xs => exact ⟨xs, rfl, p'⟩
    | exc xs => exact p'.elim
    | frz xs => exact p'.elim
    | lst xs => exact p'.elim
theorem getL_ok {h : Nat} {f : List D → M α} (p : Po K W σ rep H0 g H ((getL h >>= f) m) Q) : ∃ xs, m[h]? = some (.lst xs) ∧ Po K W σ rep H0 g H (f xs m) Q := by
  have p' : Po K W σ rep H0 g H (M.bnd (getL h) f m) Q := p
  unfold M.bnd getL at p'
  cases e : m[h]? with
  | none => rw [e] at p'; exact p'.elim
  | some c =>
    rw [e] at p'
    cases c with
    | lst xs => exact ⟨xs, rfl, p'⟩
    | exc xs => exact p'.elim
    | frz xs => exact p'.elim
    | dct xs => exact p'.elim
theorem int_ok {x : R} {v : V} {f : Int → M α} (r : RR K H1 g H x v) (h : Po K W σ rep H0 g H ((intR x >>= f) m) Q) : ∃ i, x = .d (.int i) ∧ v = .int i ∧ Po K W σ rep H0 g H (f i m) Q := by
  cases x with
  | tl xs => exact (show False from h).elim
  | d x =>
    cases x with
    | int i =>
      cases (show RD K g H (.int i) v from r)
      exact ⟨i, rfl, rfl, h⟩
    | non => exact (show False from h).elim
    | bl b => exact (show False from h).elim
    | str y => exact (show False from h).elim
    | tup ys => exact (show False from h).elim
    | ref k => exact (show False from h).elim
theorem keyOf_ok {x : D} {v : V} {k : Key} (r : RD K g H x v) (h : keyOf x = some k) : v = kV k := by
  cases r <;> first | (cases h; rfl) | (cases h)
theorem key_ok {x : R} {v : V} {f : Key → M α} (r : RR K H1 g H x v) (h : Po K W σ rep H0 g H ((keyR x >>= f) m) Q) : ∃ k, v = kV k ∧ Po K W σ rep H0 g H (f k m) Q := by
  cases x with
  | tl xs => exact (show False from h).elim
  | d x =>
    obtain ⟨k, e, h⟩ := optM_ok (show Po K W σ rep H0 g H ((optM (keyOf x) >>= f) m) Q from h)
    exact ⟨k, keyOf_ok r e, h⟩
theorem own_ok {x : R} {v : V} {f : List D → M α} (rl : Rel K g m H) (r : RR K H1 g H x v) (h : Po K W σ rep H0 g H ((ownR x >>= f) m) Q) :
    ∃ a vs xs, v = .ref a ∧ H a = some (.lst vs) ∧ RDs K g H xs vs ∧ Po K W σ rep H0 g H (f xs m) Q := by
  cases x with
  | tl xs =>
    obtain ⟨a, vs, e, h1, h2, _, h3⟩ := r
    exact ⟨a, vs, xs, e, h1, h3, h⟩
  | d x =>
    cases x with
    | ref k =>
      cases (show RD K g H (.ref k) v from r) with
      | ref e =>
        obtain ⟨xs, q, p⟩ := getL_ok h
        obtain ⟨vs, h1, h2⟩ := rl.own e q
        exact ⟨_, vs, xs, rfl, h1, h2, p⟩
    | non => exact (show False from h).elim
    | bl b => exact (show False from h).elim
    | str y => exact (show False from h).elim
    | tup ys => exact (show False from h).elim
    | int k => exact (show False from h).elim
theorem list_ok {x : R} {v : V} {f : List D → M α} (rl : Rel K g m H) (r : RR K H1 g H x v) (h : Po K W σ rep H0 g H ((listR x >>= f) m) Q) :
    ∃ a vs xs, v = .ref a ∧ SqL K H a vs ∧ RDs K g H xs vs ∧ Po K W σ rep H0 g H (f xs m) Q := by
  cases x with
  | tl xs =>
    obtain ⟨a, vs, e, h1, h2, _, h3⟩ := r
    exact ⟨a, vs, xs, e, .inl (.inl h1), h3, h⟩
  | d x =>
    cases x with
    | ref k =>
      cases (show RD K g H (.ref k) v from r) with
      | ref e =>
        have h' : Po K W σ rep H0 g H ((getC k >>= fun c => f c.items) m) Q := by
          have e : (listR (.d (.ref k)) >>= f) m = (getC k >>= fun c => f c.items) m := by
            show M.bnd (M.bnd (getC k) fun c => M.ret c.items) f m = M.bnd (getC k) (fun c => f c.items) m
            unfold M.bnd
            cases getC k m <;> rfl
          rw [← e]; exact h
        obtain ⟨c, q, hl, p⟩ := getC_ok h'
        obtain ⟨vs, h1, h2⟩ := rl.look e q hl
        exact ⟨_, vs, c.items, rfl, h1, h2, p⟩
    | non => exact (show False from h).elim
    | bl b => exact (show False from h).elim
    | str y => exact (show False from h).elim
    | tup ys => exact (show False from h).elim
    | int k => exact (show False from h).elim
theorem seq_ok {x : R} {v : V} {f : List D → M α} (rl : Rel K g m H) (r : RR K H1 g H x v) (h : Po K W σ rep H0 g H ((seqR x >>= f) m) Q) :
    ∃ a vs xs, v = .ref a ∧ (SqL K H a vs ∨ (x = .d (.tup xs) ∧ SqT K H a vs)) ∧ RDs K g H xs vs ∧ Po K W σ rep H0 g H (f xs m) Q := by
  cases x with
  | tl xs =>
    obtain ⟨a, vs, e, h1, h2, _, h3⟩ := r
    exact ⟨a, vs, xs, e, .inl (.inl (.inl h1)), h3, h⟩
  | d x =>
    cases x with
    | ref k =>
      obtain ⟨a, vs, xs, h1, h2, h3, h4⟩ := list_ok rl r (show Po K W σ rep H0 g H ((listR (.d (.ref k)) >>= f) m) Q from h)
      exact ⟨a, vs, xs, h1, .inl h2, h3, h4⟩
    | tup ys =>
      cases (show RD K g H (.tup ys) v from r) with
      | tup s rr => exact ⟨_, _, ys, rfl, .inr ⟨rfl, s⟩, rr, h⟩
    | non => exact (show False from h).elim
    | bl b => exact (show False from h).elim
    | str y => exact (show False from h).elim
    | int k => exact (show False from h).elim
end
/-- a text, a number, a truth: nothing of the heap -/
theorem Po.val {K : Fg} {W : WG} {σ : St} {H0 : Hp} {g : List Addr} {H : Hp} {m : Store} {Q : VK} {x : D} {v : V} (h : PoR K W σ H0 g H ((pure (R.d x) : M R) m) Q) (rl : Rel K g m H) (r : RD K g H x v) : Q v H :=
  Po.ret (rep := RR K) (x := R.d x) (show PoR K W σ H0 g H (.ok (.d x) m) Q from h) rl r
/-- a new list on its way -/
theorem Po.newL {K : Fg} {W : WG} {σ : St} {H0 : Hp} {g : List Addr} {H : Hp} {m : Store} {Q : VK} {xs : List D} {vs : List V} {p : Addr} (h : PoR K W σ H0 g H ((pure (R.tl xs) : M R) m) Q) (rl : Rel K g m H) (f : ∀ a, H a = none → H0 a = none) (r : RDs K g H xs vs) (hp : H p = none) :
    Q (.ref p) (upd H p (.lst vs)) :=
  (show PoR K W σ H0 g H (.ok (.tl xs) m) Q from h) g _ (.ref p) (Ext.new hp) (rl.new hp) ⟨p, vs, rfl, upd_same, rl.notIn hp, f p hp, r.ext (Ext.new hp)⟩
/-- a new tuple -/
theorem Po.newT {K : Fg} {W : WG} {σ : St} {H0 : Hp} {g : List Addr} {H : Hp} {m : Store} {Q : VK} {xs : List D} {vs : List V} {p : Addr} (h : PoR K W σ H0 g H ((pure (R.d (.tup xs)) : M R) m) Q) (rl : Rel K g m H) (r : RDs K g H xs vs) (hp : H p = none) :
    Q (.ref p) (upd H p (.tup vs)) :=
  (show PoR K W σ H0 g H (.ok (.d (.tup xs)) m) Q from h) g _ (.ref p) (Ext.new hp) (rl.new hp) (.tup (SqT.of upd_same) (r.ext (Ext.new hp)))
/-! ### a dict's pairs -/
section
variable {K : Fg} {g : List Addr} {H : Hp}
theorem RKs.nil : RKs K g H [] [] := ⟨rfl, .nil⟩
theorem RKs.cons {k : Key} {d : D} {v : V} {ks : List (Key × D)} {ws : List (Key × V)} (r : RD K g H d v) (h : RKs K g H ks ws) : RKs K g H ((k, d) :: ks) ((k, v) :: ws) := ⟨by simp [h.1], .cons r h.2⟩
/-- pair by pair -/
theorem RKs.ind {P : List (Key × D) → List (Key × V) → Prop} (h0 : P [] []) (h1 : ∀ k d v ks ws, RD K g H d v → RKs K g H ks ws → P ks ws → P ((k, d) :: ks) ((k, v) :: ws)) : ∀ {ks : List (Key × D)} {ws : List (Key × V)}, RKs K g H ks ws → P ks ws
  | [], [], _ => h0
  | [], _ :: _, h => by have := h.1; simp at this
  | _ :: _, [], h => by have := h.1; simp at this
  | (k, d) :: ks, (j, v) :: ws, h => by
    have e := h.1
    simp only [List.map_cons, List.cons.injEq] at e
    obtain ⟨rfl, e⟩ := e
    cases h.2 with
    | cons a b => exact h1 _ _ _ _ _ a ⟨e, b⟩ (RKs.ind h0 h1 ⟨e, b⟩)
theorem RKs.length {ks : List (Key × D)} {ws : List (Key × V)} (h : RKs K g H ks ws) : ks.length = ws.length := by
  have := congrArg List.length h.1
  simpa using this.symm
theorem RKs.get {ks : List (Key × D)} {ws : List (Key × V)} {k : Key} (h : RKs K g H ks ws) : (getK ks k = none ∧ valV ws k = none) ∨ ∃ d v, getK ks k = some d ∧ valV ws k = some v ∧ RD K g H d v := by
  refine RKs.ind (P := fun ks ws => (getK ks k = none ∧ valV ws k = none) ∨ ∃ d v, getK ks k = some d ∧ valV ws k = some v ∧ RD K g H d v) (.inl ⟨rfl, rfl⟩) (fun j d v ks ws r _ ih => ?_) h
  by_cases e : j = k
  · exact .inr ⟨d, v, by simp [getK, List.find?_cons, e], valV_pos (p := (j, v)) e, r⟩
  · have e1 : getK ((j, d) :: ks) k = getK ks k := by simp [getK, List.find?_cons, e]
    rw [e1, valV_neg (p := (j, v)) e]
    exact ih
theorem RKs.any {ks : List (Key × D)} {ws : List (Key × V)} (k : Key) (h : RKs K g H ks ws) : (ks.any fun kv => decide (kv.1 = k)) = ws.any fun kv => decide (kv.1 = k) :=
  RKs.ind (P := fun ks ws => (ks.any fun kv => decide (kv.1 = k)) = ws.any fun kv => decide (kv.1 = k)) rfl (fun j d v ks ws r _ ih => by simp only [List.any_cons, ih]) h
theorem RKs.app {ks ks' : List (Key × D)} {ws ws' : List (Key × V)} (h : RKs K g H ks ws) (h' : RKs K g H ks' ws') : RKs K g H (ks ++ ks') (ws ++ ws') := ⟨by simp [h.1, h'.1], by simpa using h.2.app h'.2⟩
theorem RKs.put {ks : List (Key × D)} {ws : List (Key × V)} {k : Key} {d : D} {v : V} (r : RD K g H d v) (h : RKs K g H ks ws) : RKs K g H (putD ks k d) (putK ws k v) := by
  unfold putD putK
  rw [h.any k]
  split
  · exact RKs.ind (P := fun ks ws => RKs K g H (ks.map fun kv => if kv.1 = k then (kv.1, d) else kv) (ws.map fun kv => if kv.1 = k then (kv.1, v) else kv)) .nil (fun j d' v' ks ws r' _ ih => by
      simp only [List.map_cons]
      by_cases e : j = k
      · rw [if_pos e, if_pos e]; exact .cons r ih
      · rw [if_neg e, if_neg e]; exact .cons r' ih) h
  · exact h.app (.cons r .nil)
theorem RKs.merge : ∀ {ps : List (Key × D)} {qs : List (Key × V)} {ks : List (Key × D)} {ws : List (Key × V)}, RKs K g H ps qs → RKs K g H ks ws → RKs K g H (mergeD ks ps) (mergeK ws qs)
  | [], [], _, _, _, h => h
  | [], _ :: _, _, _, h, _ => by have := h.1; simp at this
  | _ :: _, [], _, _, h, _ => by have := h.1; simp at this
  | (k, d) :: ps, (j, v) :: qs, ks, ws, hp, h => by
    have e := hp.1
    simp only [List.map_cons, List.cons.injEq] at e
    obtain ⟨rfl, e⟩ := e
    cases hp.2 with
    | cons a b => exact RKs.merge (ps := ps) (qs := qs) ⟨e, b⟩ (h.put a)
theorem RKs.drop {ks : List (Key × D)} {ws : List (Key × V)} {k : Key} (h : RKs K g H ks ws) : RKs K g H (delK ks k) (dropK ws k) := by
  unfold delK dropK
  exact RKs.ind (P := fun ks ws => RKs K g H (ks.filter fun kv => decide (kv.1 ≠ k)) (ws.filter fun kv => decide (kv.1 ≠ k))) .nil (fun j d' v' ks ws r' _ ih => by
    by_cases e : j = k
    · rw [List.filter_cons_of_neg (by simp [e]), List.filter_cons_of_neg (by simp [e])]; exact ih
    · rw [List.filter_cons_of_pos (by simp [e]), List.filter_cons_of_pos (by simp [e])]; exact .cons r' ih) h
end
end Pf

/-! Pf3: operators, comparisons, subscripts, built-in functions by values. -/
namespace Pf
open PySem L2

section
variable {X : Cx}
/-! ### operators -/
def rAdds (K : Fg) : R2 := fun x y H Q => (∃ i j, x = .int i ∧ y = .int j ∧ Q (.int (i + j)) H) ∨
  (∃ i j, x = .str i ∧ y = .str j ∧ i.length + j.length ≤ sizeLine ∧ Q (.str (i ++ j)) H) ∨ rCatA K x y H Q ∨ rCat x y H Q
theorem op_adds : OpR X (binaryOp .Add) (rAdds X.K) := OpR.or op_add (OpR.or op_add_str (OpR.or op_catA op_cat))
/-- a text times an int -/
def rRepS : R2 := fun x y H Q => ∃ z k, x = .str z ∧ y = .int k ∧ -(2 ^ 63) ≤ k ∧ k < 2 ^ 63 ∧ z.length * k.toNat ≤ sizeLine ∧ Q (.str (repS z k.toNat)) H
theorem rep_void {z : Str} (h : z.length = 0) : ∀ n : Nat, repS z n = z := by
  have e : z.cps = #[] := Array.eq_empty_of_size_eq_zero h
  have go : ∀ n : Nat, (List.replicate n z.cps).foldl (· ++ ·) #[] = #[] := by
    intro n
    induction n with
    | zero => rfl
    | succ n ih =>
      rw [List.replicate_succ, List.foldl_cons, e] at *
      simpa using ih
  intro n
  unfold repS
  rw [go, ← e]
theorem op_repS : OpR X (binaryOp .Mult) rRepS := by
  intro pins s σ H x y v u Q I rx ry h
  obtain ⟨z, k, rfl, rfl, h1, h2, hz, q⟩ := h
  obtain ⟨t, rfl⟩ := rx
  obtain ⟨t', rfl⟩ := ry
  refine PySem.P.mul_str (by rw [decide_eq_false (by omega), decide_eq_false (by omega)]; rfl) (fun hn hk => ?_) (fun hn hk => ?_) ?_
  · have hl : ¬ (k = 1) ∧ ¬ (z.length = 0) := by simpa using hk
    have hle : (z.length : Int) * k ≤ 16777216 := by
      have : ((z.length * k.toNat : Nat) : Int) ≤ ((sizeLine : Nat) : Int) := by omega
      rw [Int.natCast_mul, Int.toNat_of_nonneg (by omega)] at this
      exact this
    have h3 : (z.length : Int) ≤ (2 ^ 63 - 1) / k := by
      rw [Int.le_ediv_iff_mul_le (by omega)]
      omega
    omega
  · unfold Builtin.Str.tooLong
    rw [decide_eq_false (by omega)]
  · by_cases hn : k < 1
    · rw [if_pos hn]
      refine ⟨by decide, ⟨.str Str.empty, H, I.tok _, ⟨_, rfl⟩, ?_⟩⟩
      have : k.toNat = 0 := by omega
      rw [this] at q
      exact q
    · rw [if_neg hn]
      by_cases hk : (k == 1 || z.length == 0) = true
      · rw [if_pos hk]
        refine ⟨.str z, H, I, ⟨_, rfl⟩, ?_⟩
        have e : repS z k.toNat = z := by
          rcases (by simpa using hk : k = 1 ∨ z.length = 0) with e | e
          · subst e
            unfold repS
            simp
          · exact rep_void e _
        rw [e] at q
        exact q
      · rw [if_neg hk]
        refine ⟨?_, ⟨.str (repS z k.toNat), H, I.tok _, ⟨_, rfl⟩, q⟩⟩
        exact PySem.fits_reps (by unfold Builtin.Str.tooLong; rw [decide_eq_false (by omega)])
def rMuls (K : Fg) : R2 := fun x y H Q => rI CMul (fun i j => .int (i * j)) x y H Q ∨ rRepS x y H Q ∨ rRep x y H Q ∨ Pf0.rMulT K x y H Q
theorem op_muls : OpR X (binaryOp .Mult) (rMuls X.K) := OpR.or op_mul (OpR.or op_repS (OpR.or op_rep Pf0.op_mulT))
def rBin (K : Fg) : Operator → R2
  | .Add => rAdds K
  | .Sub => rI0 fun i j => .int (i - j)
  | .Mult => rMuls K
  | .FloorDiv => rI CDivN fun i j => .int (i.fdiv j)
  | .Mod => rI (fun _ j => j ≠ 0) fun i j => .int (i.fmod j)
  | .Pow => rI CPow fun i j => .int (i ^ j.toNat)
  | _ => fun _ _ _ _ => False
theorem op_bin : ∀ o : Operator, OpR X (binaryOp o) (rBin X.K o)
  | .Add => op_adds
  | .Sub => op_sub
  | .Mult => op_muls
  | .FloorDiv => op_fdivN
  | .Mod => op_modN
  | .Pow => op_pow
  | .MatMult | .Div | .LShift | .RShift | .BitOr | .BitXor | .BitAnd => fun _ _ _ _ _ _ _ _ _ _ _ _ h => h.elim
end
section
variable {K : Fg} {W : WG} {σ : St} {H0 H1 H2 : Hp} {g : List Addr} {H : Hp} {m : Store} {Q : VK}
theorem nil_of {xs : List D} {vs : List V} (h : RDs K g H xs vs) (e : vs = []) : xs = [] := by
  subst e
  cases h
  rfl
theorem mul_big {i j : Int} (h : bigMul i j) : CMul i j := by
  rcases h with h | h
  · refine .inl ⟨?_, ?_⟩ <;> omega
  · refine .inr ⟨?_, ?_⟩ <;> omega
theorem cat_ok {x y : R} {v u : V} (rl : Rel K g m H) (f : ∀ a, H a = none → H0 a = none) (rx : RR K H1 g H x v) (ry : RR K H2 g H y u)
    (h : PoR K W σ H0 g H ((do
      let xs ← ownR x
      let ys ← ownR y
      chk (xs.length + ys.length ≤ sizeLine)
      return .tl (xs ++ ys) : M R) m) Q) : rCat v u H Q := by
  obtain ⟨a, vs, xs, rfl, h1, h2, h⟩ := own_ok rl rx h
  obtain ⟨b, ws, ys, rfl, h3, h4, h⟩ := own_ok rl ry h
  obtain ⟨c, h⟩ := chk_ok h
  rw [h2.length, h4.length] at c
  exact ⟨a, b, vs, ws, rfl, rfl, h1, h3, c, fun p hp => Po.newL h rl f (h2.app h4) hp⟩
theorem add_ok {x y : R} {v u : V} (rl : Rel K g m H) (f : ∀ a, H a = none → H0 a = none) (rx : RR K H1 g H x v) (ry : RR K H2 g H y u) (h : PoR K W σ H0 g H (addR x y m) Q) : rAdds K v u H Q := by
  unfold addR at h
  split at h
  · rename_i i j
    cases (show RD K g H (.int i) v from rx)
    cases (show RD K g H (.int j) u from ry)
    exact .inl ⟨i, j, rfl, rfl, Po.val h rl (.int _)⟩
  · rename_i i j
    cases (show RD K g H (.str i) v from rx)
    cases (show RD K g H (.str j) u from ry)
    obtain ⟨c, h⟩ := chk_ok h
    exact .inr (.inl ⟨i, j, rfl, rfl, c, Po.val h rl (.str _)⟩)
  · rename_i xs ys
    cases (show RD K g H (.tup xs) v from rx) with
    | @tup a _ vs s1 r1 =>
      cases (show RD K g H (.tup ys) u from ry) with
      | @tup b _ ws s2 r2 =>
        obtain ⟨c, h⟩ := chk_ok h
        rw [r1.length, r2.length] at c
        refine .inr (.inr (.inl ⟨a, b, vs, ws, rfl, rfl, s1, s2, c, fun e => ?_, fun _ e => ?_, fun _ _ p hp => Po.newT h rl (r1.app r2) hp⟩))
        · have := nil_of r1 e
          subst this
          exact Po.val h rl (.tup s2 r2)
        · have := nil_of r2 e
          subst this
          rw [List.append_nil] at h
          exact Po.val h rl (.tup s1 r1)
  · exact .inr (.inr (.inr (cat_ok rl f rx ry h)))
theorem mul_ok {x y : R} {v u : V} (rl : Rel K g m H) (f : ∀ a, H a = none → H0 a = none) (rx : RR K H1 g H x v) (ry : RR K H2 g H y u) (h : PoR K W σ H0 g H (mulR x y m) Q) : rMuls K v u H Q := by
  unfold mulR at h
  split at h
  · rename_i i j
    cases (show RD K g H (.int i) v from rx)
    cases (show RD K g H (.int j) u from ry)
    obtain ⟨c, h⟩ := chk_ok h
    exact .inl ⟨i, j, rfl, rfl, mul_big c, Po.val h rl (.int _)⟩
  · rename_i z k
    cases (show RD K g H (.str z) v from rx)
    cases (show RD K g H (.int k) u from ry)
    obtain ⟨⟨c1, c2, c3⟩, h⟩ := chk_ok h
    exact .inr (.inl ⟨z, k, rfl, rfl, c1, c2, c3, Po.val h rl (.str _)⟩)
  · rename_i xs k
    cases (show RD K g H (.int k) u from ry)
    obtain ⟨⟨c1, c2, c3⟩, h⟩ := chk_ok h
    cases (show RD K g H (.tup xs) v from rx) with
    | @tup a _ vs s r =>
      rw [r.length] at c3
      refine .inr (.inr (.inr ⟨a, k, vs, rfl, rfl, s, ⟨c1, c2, c3⟩, fun e => ?_, fun _ p hp => Po.newT h rl (r.rep _) hp⟩))
      rcases e with e | e
      · subst e
        have e : (List.replicate (1 : Int).toNat xs).flatten = xs := by simp
        rw [e] at h
        exact Po.val h rl (.tup s r)
      · have e2 := nil_of r e
        subst e2
        have e : (List.replicate k.toNat ([] : List D)).flatten = [] := by simp
        rw [e] at h
        exact Po.val h rl (.tup s r)
  · rename_i k _ _ _
    cases (show RD K g H (.int k) u from ry)
    obtain ⟨a, vs, xs, rfl, h1, h2, h⟩ := own_ok rl rx h
    obtain ⟨⟨c1, c2, c3⟩, h⟩ := chk_ok h
    rw [h2.length] at c3
    exact .inr (.inr (.inl ⟨a, k, vs, rfl, rfl, h1, c1, c2, c3, fun p hp => Po.newL h rl f (h2.rep _) hp⟩))
  · exact (show False from h).elim
theorem bin_ok {o : Operator} {x y : R} {v u : V} (rl : Rel K g m H) (f : ∀ a, H a = none → H0 a = none) (rx : RR K H1 g H x v) (ry : RR K H2 g H y u) (h : PoR K W σ H0 g H (binR o x y m) Q) : rBin K o v u H Q := by
  cases o <;> simp only [binR] at h
  case Add => exact add_ok rl f rx ry h
  case Sub =>
    obtain ⟨i, rfl, rfl, h⟩ := int_ok rx h
    obtain ⟨j, rfl, rfl, h⟩ := int_ok ry h
    exact ⟨i, j, rfl, rfl, Po.val h rl (.int _)⟩
  case Mult => exact mul_ok rl f rx ry h
  case FloorDiv =>
    obtain ⟨i, rfl, rfl, h⟩ := int_ok rx h
    obtain ⟨j, rfl, rfl, h⟩ := int_ok ry h
    obtain ⟨c, h⟩ := chk_ok h
    exact ⟨i, j, rfl, rfl, c, Po.val h rl (.int _)⟩
  case Mod =>
    obtain ⟨i, rfl, rfl, h⟩ := int_ok rx h
    obtain ⟨j, rfl, rfl, h⟩ := int_ok ry h
    obtain ⟨c, h⟩ := chk_ok h
    exact ⟨i, j, rfl, rfl, c, Po.val h rl (.int _)⟩
  case Pow =>
    obtain ⟨i, rfl, rfl, h⟩ := int_ok rx h
    obtain ⟨j, rfl, rfl, h⟩ := int_ok ry h
    obtain ⟨c, h⟩ := chk_ok h
    exact ⟨i, j, rfl, rfl, c, Po.val h rl (.int _)⟩
  all_goals exact (show False from h).elim

/-! ### data for == and repr -/
theorem dat_ok (rl : Rel K g m H) : ∀ (n : Nat) (x : D) (v : V) (p : PyData), RD K g H x v → dat m n x = some p → Dp K H v p := by
  have all : ∀ (n : Nat), (∀ (x : D) (v : V) (p : PyData), RD K g H x v → dat m n x = some p → Dp K H v p) → ∀ (xs : List D) (vs : List V) (ps : List PyData), RDs K g H xs vs → optAll (dat m n) xs = some ps → DpAll K H vs ps := by
    intro n ih xs
    induction xs with
    | nil =>
      intro vs ps r e
      cases r
      cases e
      exact .nil
    | cons x xs ihx =>
      intro vs ps r e
      cases r with
      | cons r1 r2 =>
        unfold optAll at e
        cases e1 : dat m n x with
        | none => rw [e1] at e; cases e
        | some y =>
          cases e2 : optAll (dat m n) xs with
          | none => rw [e1, e2] at e; cases e
          | some ys =>
            rw [e1, e2] at e
            cases e
            exact .cons (ih x _ y r1 e1) (ihx _ ys r2 e2)
  intro n
  induction n with
  | zero =>
    intro x v p r e
    cases x with
    | non => cases r; cases e; exact .non
    | bl b => cases r; cases e; exact .bl b
    | int i => cases r; cases e; exact .int i
    | str y => cases r; cases e; exact .str y
    | tup xs => cases e
    | ref h => cases e
  | succ n ih =>
    intro x v p r e
    cases x with
    | non => cases r; cases e; exact .non
    | bl b => cases r; cases e; exact .bl b
    | int i => cases r; cases e; exact .int i
    | str y => cases r; cases e; exact .str y
    | tup xs =>
      cases r with
      | tup s r =>
        have e' : (optAll (dat m n) xs).map PyData.tuple = some p := e
        cases e2 : optAll (dat m n) xs with
        | none => rw [e2] at e'; cases e'
        | some ys =>
          rw [e2] at e'
          cases e'
          exact .tup s (all n ih xs _ ys r e2)
    | ref h =>
      cases r with
      | ref q =>
        have e' : (match m[h]? with
          | some c => if c.isL then (optAll (dat m n) c.items).map PyData.list else none
          | none => none) = some p := e
        cases e1 : m[h]? with
        | none => rw [e1] at e'; cases e'
        | some c =>
          rw [e1] at e'
          have e' : (if c.isL then (optAll (dat m n) c.items).map PyData.list else none) = some p := e'
          cases hl : c.isL with
          | false => rw [hl] at e'; cases e'
          | true =>
          rw [hl] at e'
          have e' : (optAll (dat m n) c.items).map PyData.list = some p := e'
          cases e2 : optAll (dat m n) c.items with
          | none => rw [e2] at e'; cases e'
          | some ys =>
            rw [e2] at e'
            cases e'
            obtain ⟨vs, h1, h2⟩ := rl.look q e1 hl
            exact .lst h1 (all n ih c.items _ ys h2 e2)
theorem dats_ok (rl : Rel K g m H) {n : Nat} : ∀ {xs : List D} {vs : List V} {ps : List PyData}, RDs K g H xs vs → optAll (dat m n) xs = some ps → DpAll K H vs ps := by
  intro xs
  induction xs with
  | nil =>
    intro vs ps r e
    cases r
    cases e
    exact .nil
  | cons x xs ihx =>
    intro vs ps r e
    cases r with
    | cons r1 r2 =>
      unfold optAll at e
      cases e1 : dat m n x with
      | none => rw [e1] at e; cases e
      | some y =>
        cases e2 : optAll (dat m n) xs with
        | none => rw [e1, e2] at e; cases e
        | some ys =>
          rw [e1, e2] at e
          cases e
          exact .cons (dat_ok rl n x _ y r1 e1) (ihx r2 e2)
theorem datR_ok {α β : Type} {rep : Rep α β} {Q : β → Hp → Prop} (rl : Rel K g m H) {x : R} {v : V} {f : PyData → M α} (r : RR K H1 g H x v) (h : Po K W σ rep H0 g H ((datR x >>= f) m) Q) : ∃ p, Dp K H v p ∧ Po K W σ rep H0 g H (f p m) Q := by
  have h' : Po K W σ rep H0 g H (M.bnd (datR x) f m) Q := h
  unfold M.bnd datR at h'
  cases x with
  | d x =>
    simp only at h'
    cases e : dat m deepest x with
    | none => rw [e] at h'; exact h'.elim
    | some p =>
      rw [e] at h'
      exact ⟨p, dat_ok rl _ x v p r e, h'⟩
  | tl xs =>
    simp only at h'
    cases e : optAll (dat m deepest) xs with
    | none => rw [e] at h'; exact h'.elim
    | some ps =>
      rw [e] at h'
      obtain ⟨a, vs, e1, h1, h2, _, h3⟩ := r
      subst e1
      exact ⟨_, .lst (.inl (.inl h1)) (dats_ok rl h3 e), h'⟩
end

/-- data of the store: not too deep, no dict -/
theorem dat_deep (m : Store) : ∀ (n : Nat) (x : D) (p : PyData), dat m n x = some p → p.depth ≤ n ∧ p.hasDict = false := by
  have all : ∀ (n : Nat), (∀ (x : D) (p : PyData), dat m n x = some p → p.depth ≤ n ∧ p.hasDict = false) → ∀ (xs : List D) (ps : List PyData), optAll (dat m n) xs = some ps → PyData.depthAll ps ≤ n ∧ PyData.hasDictAll ps = false := by
    intro n ih xs
    induction xs with
    | nil =>
      intro ps e
      cases e
      simp only [PyData.depthAll, PyData.hasDictAll]
      exact ⟨Nat.zero_le _, trivial⟩
    | cons x xs ihx =>
      intro ps e
      unfold optAll at e
      cases e1 : dat m n x with
      | none => rw [e1] at e; cases e
      | some y =>
        cases e2 : optAll (dat m n) xs with
        | none => rw [e1, e2] at e; cases e
        | some ys =>
          rw [e1, e2] at e
          cases e
          obtain ⟨h1, h2⟩ := ih x y e1
          obtain ⟨h3, h4⟩ := ihx ys e2
          simp only [PyData.depthAll, PyData.hasDictAll, h2, h4]
          exact ⟨Nat.max_le.mpr ⟨h1, h3⟩, rfl⟩
  intro n
  induction n with
  | zero =>
    intro x p e
    cases x with
    | tup xs => cases e
    | ref h => cases e
    | _ => cases e; simp only [PyData.depth, PyData.hasDict]; exact ⟨Nat.le_refl _, trivial⟩
  | succ n ih =>
    intro x p e
    cases x with
    | tup xs =>
      have e' : (optAll (dat m n) xs).map PyData.tuple = some p := e
      cases e2 : optAll (dat m n) xs with
      | none => rw [e2] at e'; cases e'
      | some ys =>
        rw [e2] at e'
        cases e'
        obtain ⟨h1, h2⟩ := all n ih xs ys e2
        simp only [PyData.depth, PyData.hasDict]
        exact ⟨Nat.succ_le_succ h1, h2⟩
    | ref h =>
      have e' : (match m[h]? with
        | some c => if c.isL then (optAll (dat m n) c.items).map PyData.list else none
        | none => none) = some p := e
      cases e1 : m[h]? with
      | none => rw [e1] at e'; cases e'
      | some c =>
        rw [e1] at e'
        have e' : (if c.isL then (optAll (dat m n) c.items).map PyData.list else none) = some p := e'
        cases hl : c.isL with
        | false => rw [hl] at e'; cases e'
        | true =>
        rw [hl] at e'
        have e' : (optAll (dat m n) c.items).map PyData.list = some p := e'
        cases e2 : optAll (dat m n) c.items with
        | none => rw [e2] at e'; cases e'
        | some ys =>
          rw [e2] at e'
          cases e'
          obtain ⟨h1, h2⟩ := all n ih c.items ys e2
          simp only [PyData.depth, PyData.hasDict]
          exact ⟨Nat.succ_le_succ h1, h2⟩
    | _ => cases e; simp only [PyData.depth, PyData.hasDict]; exact ⟨Nat.zero_le _, trivial⟩
theorem dats_deep (m : Store) {n : Nat} : ∀ {xs : List D} {ps : List PyData}, optAll (dat m n) xs = some ps → PyData.depthAll ps ≤ n ∧ PyData.hasDictAll ps = false := by
  intro xs
  induction xs with
  | nil =>
    intro ps e
    cases e
    simp only [PyData.depthAll, PyData.hasDictAll]
    exact ⟨Nat.zero_le _, trivial⟩
  | cons x xs ihx =>
    intro ps e
    unfold optAll at e
    cases e1 : dat m n x with
    | none => rw [e1] at e; cases e
    | some y =>
      cases e2 : optAll (dat m n) xs with
      | none => rw [e1, e2] at e; cases e
      | some ys =>
        rw [e1, e2] at e
        cases e
        obtain ⟨h1, h2⟩ := dat_deep m n x y e1
        obtain ⟨h3, h4⟩ := ihx e2
        simp only [PyData.depthAll, PyData.hasDictAll, h2, h4]
        exact ⟨Nat.max_le.mpr ⟨h1, h3⟩, rfl⟩
section
variable {K : Fg} {W : WG} {σ : St} {H0 H1 H2 : Hp} {g : List Addr} {H : Hp} {m : Store} {Q : VK}
theorem datR_ok2 {α β : Type} {rep : Rep α β} {Q : β → Hp → Prop} (rl : Rel K g m H) {x : R} {v : V} {f : PyData → M α} (r : RR K H1 g H x v) (h : Po K W σ rep H0 g H ((datR x >>= f) m) Q) :
    ∃ p, Dp K H v p ∧ (p.depth ≤ 61 ∧ p.hasDict = false) ∧ Po K W σ rep H0 g H (f p m) Q := by
  have h' : Po K W σ rep H0 g H (M.bnd (datR x) f m) Q := h
  unfold M.bnd datR at h'
  cases x with
  | d x =>
    simp only at h'
    cases e : dat m deepest x with
    | none => rw [e] at h'; exact h'.elim
    | some p =>
      rw [e] at h'
      obtain ⟨h1, h2⟩ := dat_deep m _ x p e
      exact ⟨p, dat_ok rl _ x v p r e, ⟨Nat.le_trans h1 (by decide), h2⟩, h'⟩
  | tl xs =>
    simp only at h'
    cases e : optAll (dat m deepest) xs with
    | none => rw [e] at h'; exact h'.elim
    | some ps =>
      rw [e] at h'
      obtain ⟨a, vs, e1, h1, h2, _, h3⟩ := r
      subst e1
      obtain ⟨d1, d2⟩ := dats_deep m e
      refine ⟨_, .lst (.inl (.inl h1)) (dats_ok rl h3 e), ?_, h'⟩
      simp only [PyData.depth, PyData.hasDict]
      exact ⟨Nat.succ_le_succ d1, d2⟩

/-! ### == -/
def rEqs (K : Fg) : R2 := fun x y H Q => rEq x y H Q ∨ rEqD K x y H Q
def rNes (K : Fg) : R2 := fun x y H Q => rNe x y H Q ∨ rNeD K x y H Q
theorem eq_ok {x y : R} {v u : V} {k : Bool → Bool} {rep : Rep R V} (rl : Rel K g m H) (rx : RR K H1 g H x v) (ry : RR K H2 g H y u) (h : PoR K W σ H0 g H (((eqR x y) >>= fun b => pure (R.d (.bl (k b)))) m) Q) :
    (scal v u = true ∧ Q (.bl (k (decide (v = u)))) H) ∨ ∃ d e, Dp K H v d ∧ Dp K H u e ∧ SeqAt.shaped d = true ∧ SeqAt.shaped e = true ∧ Q (.bl (k (PyData.eqv d e))) H := by
  unfold eqR at h
  split at h
  · rename_i i j
    cases (show RD K g H (.int i) v from rx)
    cases (show RD K g H (.int j) u from ry)
    refine .inl ⟨rfl, ?_⟩
    have e : decide (V.int i = V.int j) = decide (i = j) := by
      by_cases q : i = j
      · subst q; simp
      · have : ¬ V.int i = V.int j := fun z => q (V.int.inj z)
        rw [decide_eq_false q, decide_eq_false this]
    rw [e]
    exact Po.val (show PoR K W σ H0 g H ((pure (R.d (.bl (k (decide (i = j))))) : M R) m) Q from h) rl (.bl _)
  · rename_i i j
    cases (show RD K g H (.str i) v from rx)
    cases (show RD K g H (.str j) u from ry)
    refine .inl ⟨rfl, ?_⟩
    have e : decide (V.str i = V.str j) = decide (i = j) := by
      by_cases q : i = j
      · subst q; simp
      · have : ¬ V.str i = V.str j := fun z => q (V.str.inj z)
        rw [decide_eq_false q, decide_eq_false this]
    rw [e]
    exact Po.val (show PoR K W σ H0 g H ((pure (R.d (.bl (k (decide (i = j))))) : M R) m) Q from h) rl (.bl _)
  · have h2 : PoR K W σ H0 g H ((datR x >>= fun p => datR y >>= fun q => chk (p.canLay0 = true ∧ q.canLay0 = true) >>= fun _ => pure (R.d (.bl (k (PyData.eqv p q)))) : M R) m) Q := by
      have e : (datR x >>= fun p => datR y >>= fun q => chk (p.canLay0 = true ∧ q.canLay0 = true) >>= fun _ => pure (R.d (.bl (k (PyData.eqv p q)))) : M R) m = ((do
        let p ← datR x
        let q ← datR y
        chk (p.canLay0 = true ∧ q.canLay0 = true)
        return PyData.eqv p q : M Bool) >>= fun b => pure (R.d (.bl (k b)))) m := by
        show M.bnd (datR x) (fun p => M.bnd (datR y) fun q => M.bnd (chk _) fun _ => M.ret _) m = M.bnd (M.bnd (datR x) fun p => M.bnd (datR y) fun q => M.bnd (chk _) fun _ => M.ret _) (fun b => M.ret _) m
        unfold M.bnd
        cases datR x m with
        | ok p m1 =>
          simp only
          cases datR y m1 with
          | ok q m2 =>
            simp only
            cases chk (p.canLay0 = true ∧ q.canLay0 = true) m2 <;> rfl
          | err _ _ => rfl
          | stuck => rfl
        | err _ _ => rfl
        | stuck => rfl
      rw [e]
      exact h
    obtain ⟨p, hp, ⟨dp, _⟩, h2⟩ := datR_ok2 rl rx h2
    obtain ⟨q, hq, ⟨dq, _⟩, h2⟩ := datR_ok2 rl ry h2
    obtain ⟨⟨c1, c2⟩, h2⟩ := chk_ok h2
    have sh : ∀ {z : PyData}, z.canLay0 = true → z.depth ≤ 61 → SeqAt.shaped z = true := fun {z} a b => by
      unfold SeqAt.shaped
      rw [a, decide_eq_true (Nat.le_trans b (by decide))]
      rfl
    exact .inr ⟨p, q, hp, hq, sh c1 dp, sh c2 dq, Po.val h2 rl (.bl _)⟩
end
/-! ### in -/
def rInS (neg : Bool) : R2 := fun x y H Q => ∃ i j, x = .str i ∧ y = .str j ∧ Q (.bl (if neg then !inS i j else inS i j)) H
theorem op_inS2 {X : Cx} : OpR X (compareOp .In) (rInS false) := by
  intro pins s σ H x y v u Q I rx ry h
  obtain ⟨i, j, rfl, rfl, q⟩ := h
  by_cases hc : ∃ c, i.cps.toList = [c]
  · obtain ⟨c, hc⟩ := hc
    have e : i = ⟨#[c]⟩ := by
      obtain ⟨a⟩ := i
      have : a = #[c] := by
        apply Array.toList_inj.mp
        simpa using hc
      rw [this]
    refine op_in_sign pins s σ H _ _ v u Q I rx ry ⟨c, j, by rw [e], rfl, ?_⟩
    have : inS i j = decide (c ∈ j.cps.toList) := by unfold inS; rw [hc]
    rw [← this]
    exact q
  · refine op_in_str pins s σ H _ _ v u Q I rx ry ⟨i, j, rfl, rfl, ?_⟩
    have : inS i j = !(Builtin.Str.occurrences j i 0 j.length 1).isEmpty := by
      unfold inS
      split
      · rename_i c q; exact absurd ⟨c, q⟩ hc
      · rfl
    rw [← this]
    exact q
theorem op_notInS2 {X : Cx} : OpR X (compareOp .NotIn) (rInS true) := by
  intro pins s σ H x y v u Q I rx ry h
  obtain ⟨i, j, rfl, rfl, q⟩ := h
  by_cases hc : ∃ c, i.cps.toList = [c]
  · obtain ⟨c, hc⟩ := hc
    have e : i = ⟨#[c]⟩ := by
      obtain ⟨a⟩ := i
      have : a = #[c] := by
        apply Array.toList_inj.mp
        simpa using hc
      rw [this]
    refine op_notIn_sign pins s σ H _ _ v u Q I rx ry ⟨c, j, by rw [e], rfl, ?_⟩
    have : inS i j = decide (c ∈ j.cps.toList) := by unfold inS; rw [hc]
    rw [← this]
    exact q
  · refine op_notIn_str pins s σ H _ _ v u Q I rx ry ⟨i, j, rfl, rfl, ?_⟩
    have : inS i j = !(Builtin.Str.occurrences j i 0 j.length 1).isEmpty := by
      unfold inS
      split
      · rename_i c q; exact absurd ⟨c, q⟩ hc
      · rfl
    rw [← this]
    exact q
/-- in a list, a tuple of data -/
def rInQ (K : Fg) (neg : Bool) : R2 := fun x y H Q => ∃ d ds, Dp K H x d ∧ (Dp K H y (.list ds) ∨ Dp K H y (.tuple ds)) ∧ d.depth ≤ 61 ∧ d.canLay0 = true ∧ PyData.canLayAll0 ds = true ∧ Q (.bl (if neg then !(ds.any fun z => PyData.eqv z d) else ds.any fun z => PyData.eqv z d)) H
theorem op_inQ {X : Cx} (hu : X.A.units + 64 < cLine) : OpR X (compareOp .In) (rInQ X.K false) := by
  intro pins s σ H x y v u Q I rx ry h
  obtain ⟨d, ds, hd, he, dp, c1, c2, q⟩ := h
  obtain ⟨as, r1⟩ := Dp.reads I d x v hd rx
  have room : X.A.units + 1 + min (PyData.depthAll ds) d.depth < cLine := by
    have := Nat.min_le_right (PyData.depthAll ds) d.depth
    omega
  rcases he with he | he
  · obtain ⟨bs, r2⟩ := Dp.reads I _ y u he ry
    exact SeqAt.in_list_reads r2 r1 c2 c1 room ⟨.bl _, H, I, rfl, q⟩
  · obtain ⟨bs, r2⟩ := Dp.reads I _ y u he ry
    exact SeqAt.in_tuple_reads r2 r1 c2 c1 room ⟨.bl _, H, I, rfl, q⟩
theorem op_notInQ {X : Cx} (hu : X.A.units + 64 < cLine) : OpR X (compareOp .NotIn) (rInQ X.K true) := by
  intro pins s σ H x y v u Q I rx ry h
  obtain ⟨d, ds, hd, he, dp, c1, c2, q⟩ := h
  obtain ⟨as, r1⟩ := Dp.reads I d x v hd rx
  have room : X.A.units + 1 + min (PyData.depthAll ds) d.depth < cLine := by
    have := Nat.min_le_right (PyData.depthAll ds) d.depth
    omega
  rcases he with he | he
  · obtain ⟨bs, r2⟩ := Dp.reads I _ y u he ry
    exact SeqAt.notIn_list_reads r2 r1 c2 c1 room ⟨.bl _, H, I, rfl, q⟩
  · obtain ⟨bs, r2⟩ := Dp.reads I _ y u he ry
    exact SeqAt.notIn_tuple_reads r2 r1 c2 c1 room ⟨.bl _, H, I, rfl, q⟩
/-- in a dict -/
def rInT (neg : Bool) : R2 := fun x y H Q => ∃ a o, y = .ref a ∧ DGet H a x o ∧ Q (.bl (if neg then !o.isSome else o.isSome)) H
theorem op_inT {X : Cx} (hu : X.A.units + 64 < cLine) : OpR X (compareOp .In) (rInT false) := by
  intro pins s σ H x y v u Q I rx ry h
  obtain ⟨a, o, rfl, g, q⟩ := h
  obtain rfl : u = Value.ref a := ry
  exact d_in (by omega) I g rx fun s3 I3 => ⟨.bl o.isSome, H, I3, rfl, q⟩
theorem op_notInT {X : Cx} (hu : X.A.units + 64 < cLine) : OpR X (compareOp .NotIn) (rInT true) := by
  intro pins s σ H x y v u Q I rx ry h
  obtain ⟨a, o, rfl, g, q⟩ := h
  obtain rfl : u = Value.ref a := ry
  exact d_notIn (by omega) I g rx fun s3 I3 => ⟨.bl (!o.isSome), H, I3, rfl, q⟩
def rIns (K : Fg) (neg : Bool) : R2 := fun x y H Q => rInS neg x y H Q ∨ rInQ K neg x y H Q ∨ rInT neg x y H Q
section
variable {K : Fg} {W : WG} {σ : St} {H0 H1 H2 : Hp} {g : List Addr} {H : Hp} {m : Store} {Q : VK}
theorem inL_ok {x y : R} {v u : V} {neg : Bool} (rl : Rel K g m H) (rx : RR K H1 g H x v) (ry : RR K H2 g H y u) (h : PoR K W σ H0 g H ((inL x y >>= fun b => pure (R.d (.bl (if neg then !b else b))) : M R) m) Q) : rInQ K neg v u H Q := by
  have h' : PoR K W σ H0 g H ((datR x >>= fun p => datR y >>= fun q => (match q with
    | .list ps => (do
      chk (p.canLay0 = true ∧ PyData.canLayAll0 ps = true)
      return ps.any fun z => PyData.eqv z p : M Bool)
    | .tuple ps => (do
      chk (p.canLay0 = true ∧ PyData.canLayAll0 ps = true)
      return ps.any fun z => PyData.eqv z p : M Bool)
    | _ => stuck) >>= fun b => pure (R.d (.bl (if neg then !b else b)))) m) Q := by
    have e : (inL x y >>= fun b => pure (R.d (.bl (if neg then !b else b))) : M R) m = (datR x >>= fun p => datR y >>= fun q => (match q with
    | .list ps => (do
      chk (p.canLay0 = true ∧ PyData.canLayAll0 ps = true)
      return ps.any fun z => PyData.eqv z p : M Bool)
    | .tuple ps => (do
      chk (p.canLay0 = true ∧ PyData.canLayAll0 ps = true)
      return ps.any fun z => PyData.eqv z p : M Bool)
    | _ => stuck) >>= fun b => pure (R.d (.bl (if neg then !b else b)))) m := by
      unfold inL
      show M.bnd (M.bnd (datR x) fun p => M.bnd (datR y) _) _ m = M.bnd (datR x) (fun p => M.bnd (datR y) fun q => M.bnd _ _) m
      unfold M.bnd
      cases datR x m with
      | ok p m1 =>
        simp only
        cases datR y m1 with
        | ok q m2 => rfl
        | err _ _ => rfl
        | stuck => rfl
      | err _ _ => rfl
      | stuck => rfl
    rw [← e]; exact h
  obtain ⟨p, hp, ⟨d1, _⟩, h'⟩ := datR_ok2 rl rx h'
  obtain ⟨q, hq, _, h'⟩ := datR_ok2 rl ry h'
  have fin : ∀ ps : List PyData, (Dp K H u (.list ps) ∨ Dp K H u (.tuple ps)) → PoR K W σ H0 g H (((do
      chk (p.canLay0 = true ∧ PyData.canLayAll0 ps = true)
      return ps.any fun z => PyData.eqv z p : M Bool) >>= fun b => pure (R.d (.bl (if neg then !b else b)))) m) Q → rInQ K neg v u H Q := fun ps hu h => by
    have h2 : PoR K W σ H0 g H ((chk (p.canLay0 = true ∧ PyData.canLayAll0 ps = true) >>= fun _ => pure (R.d (.bl (if neg then !(ps.any fun z => PyData.eqv z p) else ps.any fun z => PyData.eqv z p))) : M R) m) Q := by
      have e : ((do
      chk (p.canLay0 = true ∧ PyData.canLayAll0 ps = true)
      return ps.any fun z => PyData.eqv z p : M Bool) >>= fun b => pure (R.d (.bl (if neg then !b else b)))) m = (chk (p.canLay0 = true ∧ PyData.canLayAll0 ps = true) >>= fun _ => pure (R.d (.bl (if neg then !(ps.any fun z => PyData.eqv z p) else ps.any fun z => PyData.eqv z p))) : M R) m := by
        show M.bnd (M.bnd (chk _) fun _ => M.ret _) (fun b => M.ret _) m = M.bnd (chk _) (fun _ => M.ret _) m
        unfold M.bnd chk
        by_cases c : p.canLay0 = true ∧ PyData.canLayAll0 ps = true
        · rw [if_pos c]; rfl
        · rw [if_neg c]
      rw [← e]; exact h
    obtain ⟨⟨c1, c2⟩, h3⟩ := chk_ok h2
    exact ⟨p, ps, hp, hu, d1, c1, c2, Po.val h3 rl (.bl _)⟩
  cases q with
  | list ps => exact fin ps (.inl hq) h'
  | tuple ps => exact fin ps (.inr hq) h'
  | _ => exact (show False from h').elim
theorem in_ok {x y : R} {v u : V} {neg : Bool} (rl : Rel K g m H) (rx : RR K H1 g H x v) (ry : RR K H2 g H y u) (h : PoR K W σ H0 g H ((inR x y >>= fun b => pure (R.d (.bl (if neg then !b else b))) : M R) m) Q) : rIns K neg v u H Q := by
  unfold inR at h
  split at h
  · rename_i i j
    cases (show RD K g H (.str i) v from rx)
    cases (show RD K g H (.str j) u from ry)
    exact .inl ⟨i, j, rfl, rfl, Po.val (show PoR K W σ H0 g H ((pure (R.d (.bl (if neg then !inS i j else inS i j))) : M R) m) Q from h) rl (.bl _)⟩
  · rename_i hh
    have h' : PoR K W σ H0 g H ((getA hh >>= fun c => inC c x (.d (.ref hh)) >>= fun b => pure (R.d (.bl (if neg then !b else b))) : M R) m) Q := by
      have e : ((getA hh >>= fun c => inC c x (.d (.ref hh))) >>= fun b => pure (R.d (.bl (if neg then !b else b))) : M R) m = (getA hh >>= fun c => inC c x (.d (.ref hh)) >>= fun b => pure (R.d (.bl (if neg then !b else b))) : M R) m := by
        show M.bnd (M.bnd (getA hh) _) _ m = M.bnd (getA hh) (fun c => M.bnd _ _) m
        unfold M.bnd
        cases getA hh m <;> rfl
      rw [← e]; exact h
    obtain ⟨c, q, h'⟩ := getA_ok h'
    cases c with
    | lst xs => exact .inr (.inl (inL_ok rl rx ry h'))
    | frz xs => exact .inr (.inl (inL_ok rl rx ry h'))
    | exc ks => exact (show False from h').elim
    | dct ks =>
      cases (show RD K g H (.ref hh) u from ry) with
      | @ref _ a e =>
        obtain ⟨ws, w1, w2⟩ := rl.ownT e q
        have h2 : PoR K W σ H0 g H ((keyR x >>= fun k => pure (R.d (.bl (if neg then !(getK ks k).isSome else (getK ks k).isSome))) : M R) m) Q := by
          have e : (inC (.dct ks) x (.d (.ref hh)) >>= fun b => pure (R.d (.bl (if neg then !b else b))) : M R) m = (keyR x >>= fun k => pure (R.d (.bl (if neg then !(getK ks k).isSome else (getK ks k).isSome))) : M R) m := by
            show M.bnd (M.bnd (keyR x) _) _ m = M.bnd (keyR x) (fun c => _) m
            unfold M.bnd
            cases keyR x m <;> rfl
          rw [← e]; exact h'
        obtain ⟨k, rfl, h2⟩ := key_ok rx h2
        refine .inr (.inr ⟨a, valV ws k, rfl, DGet.k w1, ?_⟩)
        have e3 : (getK ks k).isSome = (valV ws k).isSome := by
          rcases w2.get (k := k) with ⟨z1, z2⟩ | ⟨d, w, z1, z2, _⟩ <;> rw [z1, z2] <;> rfl
        rw [e3] at h2
        exact Po.val h2 rl (.bl _)
  · exact .inr (.inl (inL_ok rl rx ry h))
end
end Pf

/-! Pf4: comparisons, subscripts, slices, built-in functions and methods by values. -/
namespace Pf
open PySem L2

/-! ### comparisons -/
def rCmp (K : Fg) : CmpOp → R2
  | .Eq => rEqs K
  | .NotEq => rNes K
  | .Lt => rI0 fun i j => .bl (decide (i < j))
  | .LtE => rI0 fun i j => .bl (decide (i ≤ j))
  | .Gt => rI0 fun i j => .bl (decide (j < i))
  | .GtE => rI0 fun i j => .bl (decide (j ≤ i))
  | .Is => fun x y H Q => (y = .non ∧ Q (.bl (decide (x = .non))) H) ∨ rIsB x y H Q
  | .IsNot => fun x y H Q => (y = .non ∧ Q (.bl (!decide (x = .non))) H) ∨ rNotB x y H Q
  | .In => rIns K false
  | .NotIn => rIns K true
theorem op_cmp {X : Cx} (hu : X.A.units + 64 < cLine) : ∀ o : CmpOp, OpR X (compareOp o) (rCmp X.K o)
  | .Eq => OpR.or op_eq (op_eqD hu)
  | .NotEq => OpR.or op_ne (op_neD hu)
  | .Lt => op_lt
  | .LtE => op_le
  | .Gt => op_gt
  | .GtE => op_ge
  | .Is => OpR.or op_isN op_isBl
  | .IsNot => OpR.or op_notN op_notBl
  | .In => OpR.or op_inS2 (OpR.or (op_inQ hu) (op_inT hu))
  | .NotIn => OpR.or op_notInS2 (OpR.or (op_notInQ hu) (op_notInT hu))
section
variable {K : Fg} {W : WG} {σ : St} {H0 H1 H2 : Hp} {g : List Addr} {H : Hp} {m : Store} {Q : VK}
theorem ord_ok {f : Int → Int → Bool} {x y : R} {v u : V} (rl : Rel K g m H) (rx : RR K H1 g H x v) (ry : RR K H2 g H y u) (h : PoR K W σ H0 g H (ordR f x y m) Q) : rI0 (fun i j => .bl (f i j)) v u H Q := by
  unfold ordR at h
  obtain ⟨i, rfl, rfl, h⟩ := int_ok rx h
  obtain ⟨j, rfl, rfl, h⟩ := int_ok ry h
  exact ⟨i, j, rfl, rfl, Po.val h rl (.bl _)⟩
theorem isN_ok {x : R} {v : V} (rx : RR K H1 g H x v) : decide (v = .non) = isN x := by
  cases x with
  | tl xs =>
    obtain ⟨a, vs, rfl, _⟩ := rx
    exact decide_eq_false (fun e => nomatch e)
  | d x =>
    cases x with
    | non => cases (show RD K g H .non v from rx); rfl
    | bl b => cases (show RD K g H (.bl b) v from rx); rfl
    | int b => cases (show RD K g H (.int b) v from rx); rfl
    | str b => cases (show RD K g H (.str b) v from rx); rfl
    | tup b => cases (show RD K g H (.tup b) v from rx); rfl
    | ref b => cases (show RD K g H (.ref b) v from rx); rfl
theorem is_ok {k : Bool → Bool} {x y : R} {v u : V} (rl : Rel K g m H) (rx : RR K H1 g H x v) (ry : RR K H2 g H y u) (h : PoR K W σ H0 g H (isR k x y m) Q) :
    (u = .non ∧ Q (.bl (k (decide (v = .non)))) H) ∨ ∃ a b : Bool, v = .bl a ∧ u = .bl b ∧ Q (.bl (k (decide (a = b)))) H := by
  unfold isR at h
  split at h
  · cases (show RD K g H .non u from ry)
    refine .inl ⟨rfl, ?_⟩
    rw [isN_ok rx]
    exact Po.val h rl (.bl _)
  · rename_i b
    split at h
    · rename_i a
      cases (show RD K g H (.bl b) u from ry)
      cases (show RD K g H (.bl a) v from rx)
      exact .inr ⟨a, b, rfl, rfl, Po.val h rl (.bl _)⟩
    · exact (show False from h).elim
  · exact (show False from h).elim
theorem cmp_ok {o : CmpOp} {x y : R} {v u : V} (rl : Rel K g m H) (rx : RR K H1 g H x v) (ry : RR K H2 g H y u) (h : PoR K W σ H0 g H (cmpR o x y m) Q) : rCmp K o v u H Q := by
  cases o with
  | Eq => exact eq_ok (k := fun b => b) (rep := RR K) rl rx ry h
  | NotEq => exact eq_ok (k := fun b => !b) (rep := RR K) rl rx ry h
  | Lt => exact ord_ok rl rx ry h
  | LtE => exact ord_ok rl rx ry h
  | Gt => exact ord_ok rl rx ry h
  | GtE => exact ord_ok rl rx ry h
  | Is =>
    rcases is_ok (k := fun b => b) rl rx ry h with ⟨e, q⟩ | ⟨a, b, e1, e2, q⟩
    · exact .inl ⟨e, q⟩
    · exact .inr ⟨a, b, e1, e2, q⟩
  | IsNot =>
    rcases is_ok (k := fun b => !b) rl rx ry h with ⟨e, q⟩ | ⟨a, b, e1, e2, q⟩
    · exact .inl ⟨e, q⟩
    · exact .inr ⟨a, b, e1, e2, q⟩
  | In => exact in_ok (neg := false) rl rx ry h
  | NotIn => exact in_ok (neg := true) rl rx ry h
/-- a comparison's answer is a truth -/
theorem bnd_inv {α β : Type} {x : M α} {f : α → M β} {m m' : Store} {z : β} (h : (x >>= f) m = .ok z m') : ∃ a m1, x m = .ok a m1 ∧ f a m1 = .ok z m' := by
  have h' : M.bnd x f m = .ok z m' := h
  unfold M.bnd at h'
  cases e : x m with
  | ok a m1 => rw [e] at h'; exact ⟨a, m1, rfl, h'⟩
  | err _ _ => rw [e] at h'; cases h'
  | stuck => rw [e] at h'; cases h'
theorem cmpR_bl {o : CmpOp} {x y z : R} {m' : Store} (h : cmpR o x y m = .ok z m') : (∃ b, z = .d (.bl b)) := by
  have ord : ∀ {f : Int → Int → Bool} {z : R} {m' : Store}, ordR f x y m = .ok z m' → ∃ b, z = .d (.bl b) := fun {f z m'} h => by
    obtain ⟨a, m1, _, h⟩ := bnd_inv h
    obtain ⟨b, m2, _, h⟩ := bnd_inv h
    cases h
    exact ⟨_, rfl⟩
  have isb : ∀ {f : Bool → Bool} {z : R} {m' : Store}, isR f x y m = .ok z m' → ∃ b, z = .d (.bl b) := fun {f z m'} h => by
    unfold isR at h
    split at h
    · cases h; exact ⟨_, rfl⟩
    · split at h
      · cases h; exact ⟨_, rfl⟩
      · cases (show Res.stuck = _ from h)
    · cases (show Res.stuck = _ from h)
  cases o with
  | Eq =>
    obtain ⟨a, m1, _, h⟩ := bnd_inv h
    cases h
    exact ⟨_, rfl⟩
  | NotEq =>
    obtain ⟨a, m1, _, h⟩ := bnd_inv h
    cases h
    exact ⟨_, rfl⟩
  | Lt => exact ord h
  | LtE => exact ord h
  | Gt => exact ord h
  | GtE => exact ord h
  | Is => exact isb (f := fun b => b) h
  | IsNot => exact isb (f := fun b => !b) h
  | In =>
    obtain ⟨a, m1, _, h⟩ := bnd_inv h
    cases h
    exact ⟨_, rfl⟩
  | NotIn =>
    obtain ⟨a, m1, _, h⟩ := bnd_inv h
    cases h
    exact ⟨_, rfl⟩

/-! ### an item -/
theorem atI_ok {xs : List D} {vs : List V} {k : Int} {x : D} (r : RDs K g H xs vs) (e : atI xs k = some x) : ∃ v, atI vs k = some v ∧ RD K g H x v := by
  unfold atI at e ⊢
  rw [r.length] at e
  cases q : ixN vs.length k with
  | none => rw [q] at e; cases e
  | some j =>
    rw [q] at e
    exact r.get e
/-- an item of a dict -/
def rIxK : R2 := fun x y H Q => ∃ a v, x = .ref a ∧ DGet H a y (some v) ∧ Q v H
theorem ix_dct {X : Cx} (hu : X.A.units + 64 < cLine) : IxR X rIxK := by
  intro value slice pins s σ H x y v u Q I rx ry h hs
  obtain ⟨a, w, rfl, g, q⟩ := h
  obtain rfl : v = Value.ref a := rx
  unfold PyProof.Rows.subscriptTail
  refine wpAny_bind ?_
  have hT := dict_typeIs I g
  rw [getitemInPython_of_ne hT.not_modules]
  refine wpAny_bind (wpAny_specialOf hT PySem.F.slot_dict_getitem.lookup ?_)
  have fin : wpAny (model X.prog X.w) X.A (subscripted slice false (.ref a) u) (fun r s₃ => wpAny (model X.prog X.w) X.A (letTemporaryGo value (.ref a) r >>= fun _ => pure r) (EP X pins σ Q) X.xe s₃) X.xe s := by
    rw [hs]
    exact wpAny_operating (wpAny_mono (d_getItem (Q := EP X pins σ Q) (E := X.xe) (by omega) I g ry fun w' s3 I3 rw' => ⟨w, H, I3, rw', q⟩) (fun r s₃ h₃ => wpAny_bind (wpAny_letTemporaryGo (wpAny_pure h₃))) fun _ _ x => x)
  first
    | exact wpAny_pure (wpAny_bind fin)
    | exact wpAny_bind (wpAny_pure (wpAny_bind fin))
    | exact wpAny_bind fin
def rIxs (K : Fg) : R2 := fun x y H Q => rIx K x y H Q ∨ rIxK x y H Q
theorem ix_any {X : Cx} (hu : X.A.units + 64 < cLine) : IxR X (rIxs X.K) := IxR.or ix_seq (ix_dct hu)
theorem ix_ok {x y : R} {v u : V} (rl : Rel K g m H) (rx : RR K H1 g H x v) (ry : RR K H2 g H y u) (h : PoR K W σ H0 g H (ixR x y m) Q) : rIxs K v u H Q := by
  have lst : ∀ {a : Addr} {vs : List V} {xs : List D}, SqL K H a vs → RDs K g H xs vs → PoR K W σ H0 g H ((intR y >>= fun k => optM (atI xs k) >>= fun d => pure (R.d d) : M R) m) Q → rIxs K (.ref a) u H Q := fun {a vs xs} hs r h => by
    obtain ⟨k, rfl, rfl, h⟩ := int_ok ry h
    obtain ⟨d, e, h⟩ := optM_ok h
    obtain ⟨w, e2, rw_⟩ := atI_ok r e
    exact .inl (.inl ⟨a, vs, k, w, rfl, rfl, hs, e2, Po.val h rl rw_⟩)
  unfold ixR at h
  split at h
  · rename_i z
    cases (show RD K g H (.str z) v from rx)
    obtain ⟨k, rfl, rfl, h⟩ := int_ok ry h
    obtain ⟨c, h⟩ := chk_ok h
    obtain ⟨d, e, h⟩ := optM_ok h
    exact .inl (.inr (.inr ⟨z, k, d, rfl, rfl, c, e, Po.val h rl (.str _)⟩))
  · rename_i hh
    obtain ⟨c, q, h⟩ := getA_ok h
    cases (show RD K g H (.ref hh) v from rx) with
    | @ref _ a e =>
      cases c with
      | lst xs =>
        obtain ⟨vs, h1, h2⟩ := rl.look e q rfl
        exact lst h1 h2 h
      | frz xs =>
        obtain ⟨vs, h1, h2⟩ := rl.look e q rfl
        exact lst h1 h2 h
      | dct ks =>
        obtain ⟨ws, w1, w2⟩ := rl.ownT e q
        obtain ⟨k, rfl, h⟩ := key_ok ry h
        obtain ⟨d, e2, h⟩ := optM_ok h
        rcases w2.get (k := k) with ⟨z1, z2⟩ | ⟨d', w, z1, z2, z3⟩
        · rw [z1] at e2; cases e2
        · rw [z1] at e2
          cases e2
          exact .inr ⟨a, w, rfl, by rw [← z2]; exact DGet.k w1, Po.val h rl z3⟩
      | exc ks => exact (show False from h).elim
  · obtain ⟨a, vs, xs, rfl, hs, r, h⟩ := seq_ok rl rx h
    rcases hs with hs | ⟨_, hs⟩
    · exact lst hs r h
    · obtain ⟨k, rfl, rfl, h⟩ := int_ok ry h
      obtain ⟨d, e, h⟩ := optM_ok h
      obtain ⟨w, e2, rw_⟩ := atI_ok r e
      exact .inl (.inr (.inl ⟨a, vs, k, w, rfl, rfl, hs, e2, Po.val h rl rw_⟩))

/-! ### isinstance -/
def Ty.nm : Ty → String
  | .int => "int" | .bool => "bool" | .str => "str" | .tuple => "tuple" | .list => "list" | .dict => "dict"
theorem kit_tys {K : Fg} {a : String} {b : Ty} {r : Bool} (h : kitB a b.nm = some r) : PySem.W.kitOne K (.type a) (.type b.nm) = some r := kit_ty h
/-- the type of a value by its datum -/
theorem tyX_ok {x : R} {v : V} {α β : Type} {rep : Rep α β} {Q' : β → Hp → Prop} {f : R → M α} {ts : List Ty} (rl : Rel K g m H) (rx : RR K H1 g H x v) (h : Po K W σ rep H0 g H ((isiR ts x >>= f) m) Q') :
    ∃ (t : String) (b : Ty → Bool), TyX K H v (.type t) ∧ (∀ c : Ty, kitB t c.nm = some (b c)) ∧ Po K W σ rep H0 g H (f (.d (.bl (ts.any b))) m) Q' := by
  have lt : ∀ {a : Addr} {vs : List V}, SqL K H a vs → TyX K H (.ref a) (.type "list") := fun {a vs} hs => by
    rcases hs with (hs | ⟨o, hs⟩) | ⟨o, _, _, h1, h2, _⟩
    · exact .base (.lst hs)
    · exact .base (.frz hs)
    · exact .kList h1 h2
  have hl : ∀ c : Ty, kitB "list" c.nm = some (decide (c = .list)) := fun c => by cases c <;> decide +kernel
  cases x with
  | tl xs =>
    obtain ⟨a, vs, rfl, h1, _⟩ := rx
    exact ⟨"list", fun t => decide (t = .list), .base (.lst h1), hl, h⟩
  | d x =>
    cases x with
    | non =>
      cases (show RD K g H .non v from rx)
      exact ⟨"NoneType", fun _ => false, .base .non, fun c => by cases c <;> decide +kernel, h⟩
    | bl b =>
      cases (show RD K g H (.bl b) v from rx)
      exact ⟨"bool", tyD (.bl b), .base (.bl _), fun c => by cases c <;> (simp only [tyD]; decide +kernel), h⟩
    | int b =>
      cases (show RD K g H (.int b) v from rx)
      exact ⟨"int", tyD (.int b), .base (.int _), fun c => by cases c <;> (simp only [tyD]; decide +kernel), h⟩
    | str b =>
      cases (show RD K g H (.str b) v from rx)
      exact ⟨"str", tyD (.str b), .base (.str _), fun c => by cases c <;> (simp only [tyD]; decide +kernel), h⟩
    | tup b =>
      cases (show RD K g H (.tup b) v from rx) with
      | @tup a _ vs s r =>
        refine ⟨"tuple", tyD (.tup b), ?_, fun c => by cases c <;> (simp only [tyD]; decide +kernel), h⟩
        rcases s with (hs | ⟨o, hs⟩) | ⟨o, _, _, h1, h2, _⟩
        · exact .base (.tup hs)
        · exact .fTuple hs
        · exact .kTuple h1 h2
    | ref k =>
      have h' : Po K W σ rep H0 g H ((getY k >>= fun c => f (.d (.bl (ts.any (tyC c))))) m) Q' := by
        have e : (isiR ts (.d (.ref k)) >>= f) m = (getY k >>= fun c => f (.d (.bl (ts.any (tyC c))))) m := by
          show M.bnd (M.bnd (getY k) fun c => M.ret _) f m = M.bnd (getY k) (fun c => f _) m
          unfold M.bnd
          cases getY k m <;> rfl
        rw [← e]; exact h
      obtain ⟨c, q, qx, h'⟩ := getY_ok h'
      cases (show RD K g H (.ref k) v from rx) with
      | @ref _ a e =>
        cases c with
        | lst xs =>
          obtain ⟨vs, h1, h2⟩ := rl.look e q rfl
          exact ⟨"list", _, lt h1, hl, h'⟩
        | frz xs =>
          obtain ⟨vs, h1, h2⟩ := rl.look e q rfl
          exact ⟨"list", _, lt h1, hl, h'⟩
        | dct ks =>
          obtain ⟨ws, w1, w2⟩ := rl.ownT e q
          exact ⟨"dict", fun c => decide (c = .dict), .base (.dK w1), fun c => by cases c <;> decide +kernel, h'⟩
        | exc ks => cases qx
theorem kitAny_ty {t : String} {b : Ty → Bool} (h : ∀ c : Ty, kitB t c.nm = some (b c)) : ∀ ts : List Ty, PySem.W.kitAny K (.type t) (ts.map fun c => Value.type c.nm) = some (ts.any b)
  | [] => kitAny_nil
  | c :: ts => by
    rw [List.map_cons, List.any_cons]
    refine kitAny_cons (b := b c) (kit_tys (h c)) (fun e => ?_) fun e => ?_
    · rw [e, Bool.false_or]; exact kitAny_ty h ts
    · rw [e, Bool.true_or]
/-! ### slices -/
def rSl (K : Fg) : V → Option Int → Option Int → Hp → VK → Prop := fun x lo hi H Q => rSlA K x lo hi H Q ∨ rSlS x lo hi H Q ∨ rSlL K x lo hi H Q
theorem sl_any {X : Cx} : SlR X (rSl X.K) := SlR.or sl_tupA (SlR.or sl_str sl_list)
theorem cut_whole {α : Type} {xs : List α} {lo hi : Option Int} (h : HT.sIx xs.length 0 lo = 0 ∧ HT.sIx xs.length xs.length hi = xs.length) : cut xs lo hi = xs := by
  unfold cut
  rw [h.1, h.2, List.drop_zero, Nat.sub_zero, List.take_length]
theorem cut_ok {x : R} {v : V} {lo hi : Option Int} (rl : Rel K g m H) (f : ∀ a, H a = none → H0 a = none) (rx : RR K H1 g H x v) (h : PoR K W σ H0 g H (cutR x lo hi m) Q) : rSl K v lo hi H Q := by
  unfold cutR at h
  split at h
  · rename_i xs
    cases (show RD K g H (.tup xs) v from rx) with
    | @tup a _ vs s r =>
      refine .inl ⟨a, vs, rfl, s, fun w => ?_, fun _ p hp => Po.newT h rl (r.cut lo hi) hp⟩
      rw [← r.length] at w
      rw [cut_whole w] at h
      exact Po.val h rl (.tup s r)
  · rename_i z
    cases (show RD K g H (.str z) v from rx)
    obtain ⟨c, h⟩ := chk_ok h
    exact .inr (.inl ⟨z, rfl, c, Po.val h rl (.str _)⟩)
  · obtain ⟨a, vs, xs, rfl, s, r, h⟩ := list_ok rl rx h
    exact .inr (.inr ⟨a, vs, rfl, s, fun p hp => Po.newL h rl f (r.cut lo hi) hp⟩)
end
/-! ### truth, length -/
section
variable {α β : Type} {rep : Rep α β} {K : Fg} {W : WG} {σ : St} {H0 H1 H2 : Hp} {g : List Addr} {H : Hp} {m : Store} {Q : β → Hp → Prop}
theorem bnd_assoc {α β γ : Type} (x : M α) (f : α → M β) (k : β → M γ) (m : Store) : ((x >>= f) >>= k) m = (x >>= fun a => f a >>= k) m := by
  show M.bnd (M.bnd x f) k m = M.bnd x (fun a => M.bnd (f a) k) m
  unfold M.bnd
  cases x m <;> rfl
theorem tru_ok2 {x : R} {v : V} {f : Bool → M α} (rl : Rel K g m H) (rx : RR K H1 g H x v) (h : Po K W σ rep H0 g H ((tru x >>= f) m) Q) : ∃ k, TruV K v H k ∧ Po K W σ rep H0 g H (f k m) Q := by
  have last : ∀ {x : R} {v : V}, RR K H1 g H x v → Po K W σ rep H0 g H (((seqR x >>= fun xs => pure (!xs.isEmpty)) >>= f) m) Q → ∃ k, TruV K v H k ∧ Po K W σ rep H0 g H (f k m) Q := fun {x v} rx h => by
    rw [bnd_assoc] at h
    obtain ⟨a, vs, xs, rfl, hs, r, h⟩ := seq_ok rl rx h
    refine ⟨!xs.isEmpty, ?_, h⟩
    rw [r.nil_iff]
    rcases hs with hs | ⟨_, hs⟩
    · exact .inl ⟨vs, hs, rfl⟩
    · exact .inr (.inl ⟨vs, hs, rfl⟩)
  cases x with
  | tl xs => exact last rx h
  | d x =>
    cases x with
    | non => cases (show RD K g H .non v from rx); exact ⟨false, rfl, h⟩
    | bl b => cases (show RD K g H (.bl b) v from rx); exact ⟨b, rfl, h⟩
    | int i => cases (show RD K g H (.int i) v from rx); exact ⟨_, rfl, h⟩
    | str y =>
      cases (show RD K g H (.str y) v from rx)
      have h' : Po K W σ rep H0 g H (((chk (y.length ≤ sizeLine) >>= fun _ => pure ((y.length : Int) != 0)) >>= f) m) Q := h
      rw [bnd_assoc] at h'
      obtain ⟨c, h'⟩ := chk_ok h'
      exact ⟨_, ⟨c, rfl⟩, h'⟩
    | tup xs => exact last (x := .d (.tup xs)) rx h
    | ref k => exact last (x := .d (.ref k)) rx h
end
section
variable {K : Fg} {W : WG} {σ : St} {H0 H1 H2 : Hp} {g : List Addr} {H : Hp} {m : Store} {Q : VK}
theorem len_ok {x : R} {v : V} (rl : Rel K g m H) (rx : RR K H1 g H x v) (h : PoR K W σ H0 g H (lenR x m) Q) : ∃ n, LenV K v H n ∧ Q (.int n) H := by
  unfold lenR at h
  split at h
  · rename_i z
    cases (show RD K g H (.str z) v from rx)
    obtain ⟨c, h⟩ := chk_ok h
    exact ⟨_, ⟨c, rfl⟩, Po.val h rl (.int _)⟩
  · obtain ⟨a, vs, xs, rfl, hs, r, h⟩ := seq_ok rl rx h
    rw [r.length] at h
    refine ⟨vs.length, ?_, Po.val h rl (.int _)⟩
    rcases hs with hs | ⟨_, hs⟩
    · exact .inl ⟨vs, hs, rfl⟩
    · exact .inr ⟨vs, hs, rfl⟩
end

/-! ### lists of numbers, of truths -/
section
variable {K : Fg} {g : List Addr} {H : Hp}
theorem ints_of : ∀ {xs : List D} {vs : List V} {is : List Int}, RDs K g H xs vs → optAll intOf xs = some is → vs = is.map V.int := by
  intro xs
  induction xs with
  | nil => intro vs is r e; cases r; cases e; rfl
  | cons x xs ih =>
    intro vs is r e
    cases r with
    | cons r1 r2 =>
      unfold optAll at e
      cases x with
      | int i =>
        cases r1
        cases e2 : optAll intOf xs with
        | none => rw [e2] at e; cases e
        | some js =>
          rw [e2] at e
          cases e
          rw [ih r2 e2]
          rfl
      | _ => cases (show none = some is from e)
theorem bls_of : ∀ {xs : List D} {vs : List V} {is : List Bool}, RDs K g H xs vs → optAll blOf xs = some is → vs = is.map V.bl := by
  intro xs
  induction xs with
  | nil => intro vs is r e; cases r; cases e; rfl
  | cons x xs ih =>
    intro vs is r e
    cases r with
    | cons r1 r2 =>
      unfold optAll at e
      cases x with
      | bl i =>
        cases r1
        cases e2 : optAll blOf xs with
        | none => rw [e2] at e; cases e
        | some js =>
          rw [e2] at e
          cases e
          rw [ih r2 e2]
          rfl
      | _ => cases (show none = some is from e)
end
theorem maxI_mem : ∀ (x : Int) (xs : List Int), xs.foldl max x ∈ x :: xs ∧ ∀ y ∈ x :: xs, y ≤ xs.foldl max x
  | x, [] => ⟨by simp, fun y hy => by simp at hy; rw [hy]; exact Int.le_refl _⟩
  | x, z :: zs => by
    obtain ⟨h1, h2⟩ := maxI_mem (max x z) zs
    refine ⟨?_, fun y hy => ?_⟩
    · show zs.foldl max (max x z) ∈ _
      rcases List.mem_cons.mp h1 with e | e
      · rw [e]
        by_cases q : x ≤ z
        · rw [Int.max_eq_right q]; simp
        · rw [Int.max_eq_left (by omega)]; simp
      · exact List.mem_cons_of_mem _ (List.mem_cons_of_mem _ e)
    · show y ≤ zs.foldl max (max x z)
      have m0 := h2 (max x z) List.mem_cons_self
      rcases List.mem_cons.mp hy with e | hy
      · rw [e]; exact Int.le_trans (Int.le_max_left _ _) m0
      · rcases List.mem_cons.mp hy with e | hy
        · rw [e]; exact Int.le_trans (Int.le_max_right _ _) m0
        · exact h2 y (List.mem_cons_of_mem _ hy)
theorem minI_mem : ∀ (x : Int) (xs : List Int), xs.foldl min x ∈ x :: xs ∧ ∀ y ∈ x :: xs, xs.foldl min x ≤ y
  | x, [] => ⟨by simp, fun y hy => by simp at hy; rw [hy]; exact Int.le_refl _⟩
  | x, z :: zs => by
    obtain ⟨h1, h2⟩ := minI_mem (min x z) zs
    refine ⟨?_, fun y hy => ?_⟩
    · show zs.foldl min (min x z) ∈ _
      rcases List.mem_cons.mp h1 with e | e
      · rw [e]
        by_cases q : x ≤ z
        · rw [Int.min_eq_left q]; simp
        · rw [Int.min_eq_right (by omega)]; simp
      · exact List.mem_cons_of_mem _ (List.mem_cons_of_mem _ e)
    · show zs.foldl min (min x z) ≤ y
      have m0 := h2 (min x z) List.mem_cons_self
      rcases List.mem_cons.mp hy with e | hy
      · rw [e]; exact Int.le_trans m0 (Int.min_le_left _ _)
      · rcases List.mem_cons.mp hy with e | hy
        · rw [e]; exact Int.le_trans m0 (Int.min_le_right _ _)
        · exact h2 y (List.mem_cons_of_mem _ hy)

/-! ### built-in functions -/
/-- repr of data -/
theorem call_reprD {X : Cx} (hu : X.A.units + 64 < cLine) (hg : X.A.guards = some []) :
    CallR X (.builtin "repr") (fun xs H Q => ∃ v p, xs = [v] ∧ Dp X.K H v p ∧ p.depth ≤ 61 ∧ p.hasDict = false ∧ p.showable = true ∧ p.shown.length ≤ sizeLine ∧ Q (.str p.shown) H) := by
  intro pins s σ H xs us Q I r h
  obtain ⟨v, p, rfl, hd, dp, nd, sh, sz, q⟩ := h
  obtain ⟨u, rfl, ru⟩ := vals1 r
  cases p with
  | none =>
    cases hd
    cases ru
    have q : Q (.str "None") H := by
      have e : PyData.shown .none = ("None" : Str) := by simp only [PyData.shown]
      rw [e] at q; exact q
    exact PySem.P.repr_of_none ⟨.str _, H, I.tok _, ⟨_, rfl⟩, q⟩
  | bool b =>
    cases hd
    cases ru
    have q : Q (.str (if b then "True" else "False")) H := by
      have e : PyData.shown (.bool b) = (if b then "True" else "False" : Str) := by simp only [PyData.shown]
      rw [e] at q; exact q
    refine PySem.P.repr_of_bool ⟨.str (if b then "True" else "False"), H, I.tok _, ?_, q⟩
    cases b <;> exact ⟨_, rfl⟩
  | int i =>
    cases hd
    obtain ⟨t, rfl⟩ := ru
    have q : Q (.str (toString i)) H := by
      have e : PyData.shown (.int i) = ((toString i : String) : Str) := by simp only [PyData.shown]
      rw [e] at q; exact q
    have sh : i.natAbs.log2 < 1920 := by simpa [PyData.showable] using sh
    exact PySem.P.repr_of_int sh ⟨.str _, H, I.tok _, ⟨_, rfl⟩, q⟩
  | str x =>
    cases hd
    obtain ⟨t, rfl⟩ := ru
    have e : PyData.shown (.str x) = reprText x := by simp only [PyData.shown]
    rw [e] at q sz
    exact PySem.P.repr_of_str ⟨.str _, H, I.tok _, ⟨_, rfl⟩, q⟩ sz
  | list ps =>
    obtain ⟨as, rd⟩ := Dp.reads I _ _ _ hd ru
    cases hd with
    | lst h1 h2 =>
      cases ru
      exact repr_of_reads' rd sh (fun z => by rw [nd] at z; cases z) hg (by omega) (fun _ _ z => z) (fun h' u tk hk => ⟨.str _, H, I.kept hk, ⟨_, rfl⟩, q⟩) sz
  | tuple ps =>
    obtain ⟨as, rd⟩ := Dp.reads I _ _ _ hd ru
    cases hd with
    | tup h1 h2 =>
      cases ru
      exact repr_of_reads' rd sh (fun z => by rw [nd] at z; cases z) hg (by omega) (fun _ _ z => z) (fun h' u tk hk => ⟨.str _, H, I.kept hk, ⟨_, rfl⟩, q⟩) sz
  | dict kvs => simp [PyData.hasDict] at nd
/-- of a tuple -/
def rSumT (K : Fg) : List V → Hp → VK → Prop := fun vs H Q => ∃ (a : Addr) (ns : List Int), vs = [V.ref a] ∧ SqT K H a (ns.map V.int) ∧ Q (.int ns.sum) H
def rMaxT (K : Fg) (f : Int → Int → Int) : List V → Hp → VK → Prop := fun vs H Q => ∃ (a : Addr) (n : Int) (ns : List Int), vs = [V.ref a] ∧ SqT K H a ((n :: ns).map V.int) ∧ Q (.int (ns.foldl f n)) H
theorem reads_ints : ∀ {ns : List Int} {its : List Value} (h : Heap), Vals (ns.map V.int) its → ReadsAll h its (ns.map .int) []
  | [], _, h, .nil => .nil
  | n :: ns, _, h, .cons r rs => by
    obtain ⟨t, rfl⟩ := r
    exact .cons (as := []) (bs := []) (.int _ _) (reads_ints h rs)
theorem alike_ints (ns : List Int) : PySem.W.AlikeAll (ns.map .int) := by
  refine ⟨fun x hx y hy => ?_, fun x hx => ?_⟩
  · obtain ⟨i, _, rfl⟩ := List.mem_map.mp hx
    obtain ⟨j, _, rfl⟩ := List.mem_map.mp hy
    rfl
  · obtain ⟨i, _, rfl⟩ := List.mem_map.mp hx
    exact fun z => nomatch z
theorem depth_ints : ∀ ns : List Int, PyData.depthAll (ns.map .int) ≤ 1
  | [] => by unfold PyData.depthAll; decide
  | n :: ns => by
    have := depth_ints ns
    rw [List.map_cons]
    unfold PyData.depthAll
    have h : PyData.depth (.int n) ≤ 1 := by unfold PyData.depth; decide
    omega
open PyProof.Rows in
theorem cr_sumT {X : Cx} (hc : X.calm = true) : CallR X (.builtin "sum") (rSumT X.K) := by
  intro pins s σ H vs us Q I r h
  obtain ⟨a, ns, rfl, hs, q⟩ := h
  obtain ⟨its, rv, hl, _⟩ := I.tuple hs
  rw [Vals.ref1 r]
  have hi := rv.ints
  obtain ⟨xs, hx⟩ := hi.allInts.items
  have hn : numsOf its.toArray.toList = ns := by rw [show its.toArray.toList = its from rfl, hi.numsOf]
  have hl : s.heap.IsTuple a its.toArray := hl
  rw [hx] at hl hn
  rw [nums_intItems] at hn
  refine PySem.W.ktm_sumG (I.ok.hd hc) hl fun h' tk t' hk => ⟨.int ns.sum, H, I.kept hk, ⟨t', by rw [preSum_eq, List.take_of_length_le (by simp), hn]⟩, q⟩
theorem cr_maxT {X : Cx} (hc : X.calm = true) (hu : X.A.units + 64 < cLine) : CallR X (.builtin "max") (rMaxT X.K max) := by
  intro pins s σ H vs us Q I r h
  obtain ⟨a, n, ns, rfl, hs, q⟩ := h
  obtain ⟨its, rv, hl, _⟩ := I.tuple hs
  rw [Vals.ref1 r]
  have := depth_ints (n :: ns)
  refine PySem.W.max_tuple_data (x := .int n) (xs := ns.map .int) (I.ok.hd hc) hl (reads_ints s.heap rv) (alike_ints (n :: ns)) (by rw [List.map_cons] at this; omega) fun i v h' tk bs hv rd hk => ?_
  rw [PySem.W.maxD_ints] at rd
  cases rd with
  | int => exact ⟨.int _, H, I.kept hk, ⟨_, rfl⟩, q⟩
theorem cr_minT {X : Cx} (hc : X.calm = true) (hu : X.A.units + 64 < cLine) : CallR X (.builtin "min") (rMaxT X.K min) := by
  intro pins s σ H vs us Q I r h
  obtain ⟨a, n, ns, rfl, hs, q⟩ := h
  obtain ⟨its, rv, hl, _⟩ := I.tuple hs
  rw [Vals.ref1 r]
  have := depth_ints (n :: ns)
  refine PySem.W.min_tuple_data (x := .int n) (xs := ns.map .int) (I.ok.hd hc) hl (reads_ints s.heap rv) (alike_ints (n :: ns)) (by rw [List.map_cons] at this; omega) fun i v h' tk bs hv rd hk => ?_
  rw [PySem.W.minD_ints] at rd
  cases rd with
  | int => exact ⟨.int _, H, I.kept hk, ⟨_, rfl⟩, q⟩
theorem CallR.or {X : Cx} {f : Value} {r1 r2 : List V → Hp → VK → Prop} (h1 : CallR X f r1) (h2 : CallR X f r2) : CallR X f (fun vs H Q => r1 vs H Q ∨ r2 vs H Q) := by
  intro pins s σ H vs us Q I r h
  rcases h with h | h
  · exact h1 pins s σ H vs us Q I r h
  · exact h2 pins s σ H vs us Q I r h
/-- max, min with a default -/
def rMxd (K : Fg) (k : Bool) : List V → List V → Hp → VK → Prop := fun xs zs H Q => ∃ (a : Addr) (is : List Int) (z : V), xs = [V.ref a] ∧ zs = [z] ∧ (SqL K H a (is.map V.int) ∨ SqT K H a (is.map V.int)) ∧ (is = [] → Q z H) ∧ ∀ i r, is = i :: r → Q (.int (if k then r.foldl max i else r.foldl min i)) H
theorem cr_mxd {X : Cx} (hc : X.calm = true) (hu : X.A.units + 64 < cLine) : ∀ k : Bool, CallRK X (.builtin (if k then "max" else "min")) ["default"] (rMxd X.K k) := by
  intro k pins s σ H xs zs us ws Q I r rz h
  obtain ⟨a, is, z, rfl, rfl, hs, h0, h1⟩ := h
  rw [Vals.ref1 r]
  obtain ⟨w, rfl, rw'⟩ := vals1 rz
  have dp := depth_ints is
  have nil : is.map PyData.int = [] → is = [] := fun e => List.map_eq_nil_iff.mp e
  rcases hs with hs | hs
  · obtain ⟨its, rv, hl, _⟩ := I.list hs
    have f0 : is.map PyData.int = [] → ∀ h' tk, (∀ b o, s.heap.get? b = some o → h'.get? b = some o) → EP X pins σ Q w { s with heap := h', toks := tk } := fun e h' tk hk => ⟨z, H, I.kept hk, rw', h0 (nil e)⟩
    cases k with
    | true =>
      refine PySem.W.max_list_default (I.ok.hd hc) hl.isList (reads_ints s.heap rv) (alike_ints is) (by omega) f0 fun y ys i v h' tk bs e hv rd hk => ?_
      cases is with
      | nil => cases e
      | cons i r =>
        cases e
        rw [PySem.W.maxD_ints] at rd
        cases rd with
        | int => exact ⟨.int _, H, I.kept hk, ⟨_, rfl⟩, h1 i r rfl⟩
    | false =>
      refine PySem.W.min_list_default (I.ok.hd hc) hl.isList (reads_ints s.heap rv) (alike_ints is) (by omega) f0 fun y ys i v h' tk bs e hv rd hk => ?_
      cases is with
      | nil => cases e
      | cons i r =>
        cases e
        rw [PySem.W.minD_ints] at rd
        cases rd with
        | int => exact ⟨.int _, H, I.kept hk, ⟨_, rfl⟩, h1 i r rfl⟩
  · obtain ⟨its, rv, hl, _⟩ := I.tuple hs
    have f0 : is.map PyData.int = [] → ∀ h' tk, (∀ b o, s.heap.get? b = some o → h'.get? b = some o) → EP X pins σ Q w { s with heap := h', toks := tk } := fun e h' tk hk => ⟨z, H, I.kept hk, rw', h0 (nil e)⟩
    cases k with
    | true =>
      refine PySem.W.max_tuple_default (I.ok.hd hc) hl (reads_ints s.heap rv) (alike_ints is) (by omega) f0 fun y ys i v h' tk bs e hv rd hk => ?_
      cases is with
      | nil => cases e
      | cons i r =>
        cases e
        rw [PySem.W.maxD_ints] at rd
        cases rd with
        | int => exact ⟨.int _, H, I.kept hk, ⟨_, rfl⟩, h1 i r rfl⟩
    | false =>
      refine PySem.W.min_tuple_default (I.ok.hd hc) hl (reads_ints s.heap rv) (alike_ints is) (by omega) f0 fun y ys i v h' tk bs e hv rd hk => ?_
      cases is with
      | nil => cases e
      | cons i r =>
        cases e
        rw [PySem.W.minD_ints] at rd
        cases rd with
        | int => exact ⟨.int _, H, I.kept hk, ⟨_, rfl⟩, h1 i r rfl⟩
def BF.ty : BF → Option String
  | .tuple => some "tuple"
  | .list => some "list"
  | .int1 => some "int"
  | .str1 => some "str"
  | _ => none
def BF.nm : BF → String
  | .len => "len" | .max1 => "max" | .min1 => "min" | .max2 => "max" | .min2 => "min" | .sum => "sum" | .all => "all" | .any => "any"
  | .tuple => "tuple" | .list => "list" | .repr => "repr" | .int1 => "int" | .sorted => "sorted" | .str1 => "str"
def BF.val (f : BF) : Value := match f.ty with
  | some t => .type t
  | none => .builtin f.nm
def rBf (K : Fg) : BF → List V → Hp → VK → Prop
  | .len => fun xs H Q => ∃ x n, xs = [x] ∧ LenV K x H n ∧ Q (.int n) H
  | .max1 => fun vs H Q => rMax K vs H Q ∨ rMaxT K max vs H Q
  | .min1 => fun vs H Q => rMin K vs H Q ∨ rMaxT K min vs H Q
  | .max2 => fun xs H Q => ∃ i j, xs = [.int i, .int j] ∧ Q (.int (if j > i then j else i)) H
  | .min2 => fun xs H Q => ∃ i j, xs = [.int i, .int j] ∧ Q (.int (if j < i then j else i)) H
  | .sum => fun vs H Q => rSum K vs H Q ∨ rSumT K vs H Q
  | .all => rAll K
  | .any => rAny K
  | .tuple => fun xs H Q => ∃ p ys, xs = [.ref p] ∧ ((SqL K H p ys ∧ ∀ l, H l = none → Q (.ref l) (upd H l (.tup ys))) ∨ (SqT K H p ys ∧ Q (.ref p) H))
  | .list => fun xs H Q => ∃ p ys, xs = [.ref p] ∧ (SqL K H p ys ∨ SqT K H p ys) ∧ ∀ l, H l = none → Q (.ref l) (upd H l (.lst ys))
  | .repr => fun xs H Q => ∃ v p, xs = [v] ∧ Dp K H v p ∧ p.depth ≤ 61 ∧ p.hasDict = false ∧ p.showable = true ∧ p.shown.length ≤ sizeLine ∧ Q (.str p.shown) H
  | .int1 => fun xs H Q => (∃ i, xs = [.int i] ∧ Q (.int i) H) ∨ ∃ k, xs = [.bl k] ∧ Q (.int (if k then 1 else 0)) H
  | .str1 => fun xs H Q => (∃ i, xs = [.int i] ∧ i.natAbs.log2 < 1920 ∧ Q (.str (toString i)) H) ∨ ∃ a, xs = [.str a] ∧ Q (.str a) H
  | .sorted => rSortedI K
theorem call_bf {X : Cx} (hc : X.calm = true) (hu : X.A.units + 64 < cLine) (hg : X.A.guards = some []) : ∀ f : BF, CallR X f.val (rBf X.K f)
  | .len => call_len
  | .max1 => (cr_max hc).or (cr_maxT hc hu)
  | .min1 => (cr_min hc).or (cr_minT hc hu)
  | .max2 => call_max2 hc
  | .min2 => call_min2 hc
  | .sum => (cr_sum hc).or (cr_sumT hc)
  | .all => cr_all hc
  | .any => cr_any hc
  | .tuple => call_tuple_of
  | .list => call_list_of
  | .repr => call_reprD hu hg
  | .int1 => call_int1
  | .str1 => call_str_int.or SkE.call_str_str
  | .sorted => cr_sortedI
theorem sortI_perm (is : List Int) : (sortI is).Perm is := List.mergeSort_perm _ _
theorem sortI_pw (is : List Int) : (sortI is).Pairwise (· ≤ ·) := by
  have h := List.pairwise_mergeSort (le := fun i j : Int => decide (i ≤ j)) (fun a b c h1 h2 => by simp at *; omega) (fun a b => by simp; omega) is
  exact h.imp fun h => by simpa using h
theorem sortI_of {is js : List Int} (h1 : js.Perm is) (h2 : js.Pairwise (· ≤ ·)) : js = sortI is :=
  List.Perm.eq_of_pairwise (le := (· ≤ ·)) (fun a b _ _ h1 h2 => Int.le_antisymm h1 h2) h2 (sortI_pw is) (h1.trans (sortI_perm is).symm)
/-- arguments on their way -/
def RRs (K : Fg) (H0 : Hp) (g : List Addr) (H : Hp) : List R → List V → Prop
  | [], [] => True
  | x :: xs, v :: vs => RR K H0 g H x v ∧ RRs K H0 g H xs vs
  | _, _ => False
def repRs (K : Fg) : Rep (List R) (List V) := RRs K
theorem RRs.ext {K : Fg} {H0 : Hp} {g g' : List Addr} {H H' : Hp} (e : Ext g H g' H') : ∀ {xs : List R} {vs : List V}, RRs K H0 g H xs vs → RRs K H0 g' H' xs vs
  | [], [], _ => trivial
  | _ :: _, _ :: _, ⟨a, b⟩ => ⟨RR.ext e a, RRs.ext e b⟩
  | [], _ :: _, h => h.elim
  | _ :: _, [], h => h.elim
theorem soonRs (K : Fg) : Soon (repRs K) := by
  intro H0 H1 g H x v f h
  have go : ∀ {xs : List R} {vs : List V}, RRs K H1 g H xs vs → RRs K H0 g H xs vs := by
    intro xs
    induction xs with
    | nil => intro vs h; cases vs with
      | nil => trivial
      | cons _ _ => exact h.elim
    | cons x xs ih => intro vs h; cases vs with
      | nil => exact h.elim
      | cons v vs => exact ⟨RR.sooner f h.1, ih h.2⟩
  exact go h
section
variable {K : Fg} {W : WG} {σ : St} {H0 H1 H2 : Hp} {g : List Addr} {H : Hp} {m : Store} {Q : VK}
theorem one_of {xs : List V} {x : R} (h : RRs K H1 g H [x] xs) : ∃ v, xs = [v] ∧ RR K H1 g H x v := by
  cases xs with
  | nil => exact h.elim
  | cons v vs =>
    cases vs with
    | nil => exact ⟨v, rfl, h.1⟩
    | cons _ _ => exact h.2.elim
theorem two_of {xs : List V} {x y : R} (h : RRs K H1 g H [x, y] xs) : ∃ v u, xs = [v, u] ∧ RR K H1 g H x v ∧ RR K H1 g H y u := by
  cases xs with
  | nil => exact h.elim
  | cons v vs =>
    obtain ⟨u, rfl, hu⟩ := one_of h.2
    exact ⟨v, u, rfl, h.1, hu⟩
theorem ints_ok {α β : Type} {rep : Rep α β} {Q : β → Hp → Prop} {x : R} {v : V} {f : List Int → M α} (rl : Rel K g m H) (rx : RR K H1 g H x v) (h : Po K W σ rep H0 g H ((intsR x >>= f) m) Q) :
    ∃ a is, v = .ref a ∧ SqL K H a (is.map V.int) ∧ Po K W σ rep H0 g H (f is m) Q := by
  have h' : Po K W σ rep H0 g H (((listR x >>= fun xs => optM (optAll intOf xs)) >>= f) m) Q := h
  rw [bnd_assoc] at h'
  obtain ⟨a, vs, xs, rfl, hs, r, h⟩ := list_ok rl rx h'
  obtain ⟨is, e, h⟩ := optM_ok h
  rw [ints_of r e] at hs
  exact ⟨a, is, rfl, hs, h⟩
theorem intsS_ok {α β : Type} {rep : Rep α β} {Q : β → Hp → Prop} {x : R} {v : V} {f : List Int → M α} (rl : Rel K g m H) (rx : RR K H1 g H x v) (h : Po K W σ rep H0 g H ((intsS x >>= f) m) Q) :
    ∃ a is, v = .ref a ∧ (SqL K H a (is.map V.int) ∨ SqT K H a (is.map V.int)) ∧ Po K W σ rep H0 g H (f is m) Q := by
  have h' : Po K W σ rep H0 g H (((seqR x >>= fun xs => optM (optAll intOf xs)) >>= f) m) Q := h
  rw [bnd_assoc] at h'
  obtain ⟨a, vs, xs, rfl, hs, r, h⟩ := seq_ok rl rx h'
  obtain ⟨is, e, h⟩ := optM_ok h
  have e2 := ints_of r e
  subst e2
  refine ⟨a, is, rfl, ?_, h⟩
  rcases hs with hs | ⟨_, hs⟩
  · exact .inl hs
  · exact .inr hs
theorem bf_ok {f : BF} {xs : List R} {vs : List V} (rl : Rel K g m H) (fr : ∀ a, H a = none → H0 a = none) (rx : RRs K H1 g H xs vs) (h : PoR K W σ H0 g H (bfR f xs m) Q) : rBf K f vs H Q := by
  unfold bfR at h
  split at h
  · obtain ⟨v, rfl, r⟩ := one_of rx
    obtain ⟨n, h1, h2⟩ := len_ok rl r h
    exact ⟨v, n, rfl, h1, h2⟩
  · obtain ⟨v, rfl, r⟩ := one_of rx
    obtain ⟨a, is, rfl, hs, h⟩ := intsS_ok rl r h
    rcases hs with hs | hs
    · exact .inl ⟨a, is, rfl, hs, Po.val h rl (.int _)⟩
    · exact .inr ⟨a, is, rfl, hs, Po.val h rl (.int _)⟩
  · obtain ⟨v, rfl, r⟩ := one_of rx
    obtain ⟨a, is, rfl, hs, h⟩ := intsS_ok rl r h
    obtain ⟨c, h⟩ := chk_ok h
    cases is with
    | nil => simp at c
    | cons i is =>
      rcases hs with hs | hs
      · refine .inl ⟨a, _, rfl, hs, c, fun k k1 k2 => ?_⟩
        obtain ⟨m1, m2⟩ := maxI_mem i is
        have e : k = maxI (i :: is) := Int.le_antisymm (m2 k k1) (k2 _ m1)
        rw [e]
        exact Po.val h rl (.int _)
      · exact .inr ⟨a, i, is, rfl, hs, Po.val (x := .int (maxI (i :: is))) h rl (.int _)⟩
  · obtain ⟨v, rfl, r⟩ := one_of rx
    obtain ⟨a, is, rfl, hs, h⟩ := intsS_ok rl r h
    obtain ⟨c, h⟩ := chk_ok h
    cases is with
    | nil => simp at c
    | cons i is =>
      rcases hs with hs | hs
      · refine .inl ⟨a, _, rfl, hs, c, fun k k1 k2 => ?_⟩
        obtain ⟨m1, m2⟩ := minI_mem i is
        have e : k = minI (i :: is) := Int.le_antisymm (k2 _ m1) (m2 k k1)
        rw [e]
        exact Po.val h rl (.int _)
      · exact .inr ⟨a, i, is, rfl, hs, Po.val (x := .int (minI (i :: is))) h rl (.int _)⟩
  · obtain ⟨v, u, rfl, r1, r2⟩ := two_of rx
    obtain ⟨i, rfl, rfl, h⟩ := int_ok r1 h
    obtain ⟨j, rfl, rfl, h⟩ := int_ok r2 h
    exact ⟨i, j, rfl, Po.val h rl (.int _)⟩
  · obtain ⟨v, u, rfl, r1, r2⟩ := two_of rx
    obtain ⟨i, rfl, rfl, h⟩ := int_ok r1 h
    obtain ⟨j, rfl, rfl, h⟩ := int_ok r2 h
    exact ⟨i, j, rfl, Po.val h rl (.int _)⟩
  · obtain ⟨v, rfl, r⟩ := one_of rx
    obtain ⟨a, vs, xs, rfl, hs, r, h⟩ := list_ok rl r h
    obtain ⟨is, e, h⟩ := optM_ok h
    rw [bls_of r e] at hs
    exact ⟨a, is, rfl, hs, Po.val h rl (.bl _)⟩
  · obtain ⟨v, rfl, r⟩ := one_of rx
    obtain ⟨a, vs, xs, rfl, hs, r, h⟩ := list_ok rl r h
    obtain ⟨is, e, h⟩ := optM_ok h
    rw [bls_of r e] at hs
    exact ⟨a, is, rfl, hs, Po.val h rl (.bl _)⟩
  · obtain ⟨v, rfl, r⟩ := one_of rx
    obtain ⟨a, vs, xs, rfl, hs, r, h⟩ := seq_ok rl r h
    rcases hs with hs | ⟨_, hs⟩
    · exact ⟨a, vs, rfl, .inl ⟨hs, fun p hp => Po.newT h rl r hp⟩⟩
    · exact ⟨a, vs, rfl, .inr ⟨hs, Po.val h rl (.tup hs r)⟩⟩
  · obtain ⟨v, rfl, r⟩ := one_of rx
    obtain ⟨a, vs, xs, rfl, hs, r, h⟩ := seq_ok rl r h
    refine ⟨a, vs, rfl, ?_, fun p hp => Po.newL h rl fr r hp⟩
    rcases hs with hs | ⟨_, hs⟩
    · exact .inl hs
    · exact .inr hs
  · obtain ⟨v, rfl, r⟩ := one_of rx
    obtain ⟨p, hd, ⟨d1, d2⟩, h⟩ := datR_ok2 rl r h
    obtain ⟨⟨c1, c2⟩, h⟩ := chk_ok h
    exact ⟨v, p, rfl, hd, d1, d2, c1, c2, Po.val h rl (.str _)⟩
  · rename_i i
    obtain ⟨v, rfl, r⟩ := one_of rx
    cases (show RD K g H (.int i) v from r)
    exact .inl ⟨i, rfl, Po.val h rl (.int _)⟩
  · rename_i b
    obtain ⟨v, rfl, r⟩ := one_of rx
    cases (show RD K g H (.bl b) v from r)
    exact .inr ⟨b, rfl, Po.val h rl (.int _)⟩
  · rename_i i
    obtain ⟨v, rfl, r⟩ := one_of rx
    cases (show RD K g H (.int i) v from r)
    obtain ⟨c, h⟩ := chk_ok h
    exact .inl ⟨i, rfl, c, Po.val h rl (.str _)⟩
  · rename_i x
    obtain ⟨v, rfl, r⟩ := one_of rx
    cases (show RD K g H (.str x) v from r)
    exact .inr ⟨x, rfl, Po.val h rl (.str _)⟩
  · obtain ⟨v, rfl, r⟩ := one_of rx
    obtain ⟨a, is, rfl, hs, h⟩ := ints_ok rl r h
    refine ⟨a, is, rfl, hs, fun js p h1 h2 hp => ?_⟩
    rw [sortI_of h1 h2]
    have rint : ∀ ks : List Int, RDs K g H (ks.map .int) (ks.map V.int) := fun ks => by
      induction ks with
      | nil => exact .nil
      | cons i r ih => exact .cons (.int i) ih
    exact Po.newL h rl fr (rint _) hp
  · exact (show False from h).elim
end
end Pf

/-! Pf5: expressions. -/
namespace Pf
open PySem L2
section
variable {α β γ δ : Type} {K : Fg} {W : WG}
/-- the first of several steps -/
theorem tM.step {rep : Rep α β} {rep' : Rep γ δ} {f : Env → M γ} {k : γ → M α} {r : Env} {m : Store} {g : List Addr} {σ : St} {H H0 : Hp} {Q : β → Hp → Prop} {Q' : δ → Hp → Prop} (hs : RS K W.g g H r σ) (rl : Rel K g m H)
    (po : Po K W σ rep H0 g H ((f r >>= k) m) Q) (fr : ∀ a, H a = none → H0 a = none)
    (go : ∀ a m1 g1 H1 v, Ext g H g1 H1 → Rel K g1 m1 H1 → RS K W.g g1 H1 r σ → rep' H g1 H1 a v → (∀ a, H1 a = none → H0 a = none) → Po K W σ rep H0 g1 H1 (k a m1) Q → Q' v H1) : tM K W rep' f σ H Q' :=
  ⟨r, m, g, hs, rl, Po.bnd po fun a m1 g1 H1 v e rl1 rp po1 => go a m1 g1 H1 v e rl1 (hs.ext e) rp (fun b z => fr b (e.free b z)) po1⟩
/-- the last step: it is what is asked -/
theorem tM.last {rep : Rep α β} {f : Env → M α} {r : Env} {m : Store} {g : List Addr} {σ : St} {H H0 : Hp} {Q : β → Hp → Prop} (sn : Soon rep) (hs : RS K W.g g H r σ) (rl : Rel K g m H) (po : Po K W σ rep H0 g H (f r m) Q) (fr : ∀ a, H a = none → H0 a = none) : tM K W rep f σ H Q :=
  ⟨r, m, g, hs, rl, Po.soon sn fr po⟩
end
section
variable {X : Cx} {W : WG} {a b c e : Expr} {fa fb fc fe : Env → M R} {ta tb tc : Env → M Bool} {pos : Pos}
theorem e_cst {v : V} {x : D} (h : PE X e (tC v)) (r : ∀ g H, RD X.K g H x v) : PE X e (tR X.K W fun _ => pure (.d x)) :=
  h.imp fun σ H Q ⟨_, m, g, _, rl, po⟩ => Po.val po rl (r g H)
theorem getV_ok {α β : Type} {rep : Rep α β} {K : Fg} {σ : St} {H0 : Hp} {g : List Addr} {H : Hp} {m : Store} {Q : β → Hp → Prop} {i : Nat} {r : Env} {f : D → M α} (h : Po K W σ rep H0 g H ((getV r i >>= f) m) Q) : ∃ d, r[i]? = some (some d) ∧ Po K W σ rep H0 g H (f d m) Q := by
  have h' : Po K W σ rep H0 g H (M.bnd (getV r i) f m) Q := h
  unfold M.bnd getV at h'
  cases q : r[i]? with
  | none => rw [q] at h'; exact h'.elim
  | some o =>
    rw [q] at h'
    cases o with
    | none => exact h'.elim
    | some d => exact ⟨d, rfl, h'⟩
theorem e_var {i : Nat} {x : Str} (hq : ∀ q, W.g = some q → i ≠ q.i) (hN : X.N[i]? = some x) (hv : Vis X.env.scope x) (hd : (x == ("__debug__" : Str)) = false) (hcd : (x == ("__classdict__" : Str)) = false) : PE X (.Name x pos) (tR X.K W fun r => do return .d (← getV r i)) :=
  (pe_var hN hv hd hcd).imp fun σ H Q ⟨r, m, g, hs, rl, po⟩ => by
    obtain ⟨d, e, po⟩ := getV_ok po
    obtain ⟨v, h1, h2⟩ := hs.slot i d e hq
    exact ⟨v, h1, Po.val po rl h2⟩
theorem e_bin {o : Operator} (ha : PE X a (tR X.K W fa)) (hb : PE X b (tR X.K W fb)) : PE X (.BinOp a o b pos) (tR X.K W fun r => do
    let x ← fa r
    let y ← fb r
    binR o x y) :=
  (pe_op (op_bin o) ha hb).imp fun σ H Q ⟨r, m, g, hs, rl, po⟩ =>
    tM.step hs rl po (fun _ z => z) fun x m1 g1 H1 v e1 rl1 hs1 rx fr1 po1 =>
      tM.step hs1 rl1 po1 fr1 fun y m2 g2 H2 u e2 rl2 hs2 ry fr2 po2 => bin_ok rl2 fr2 (rx.ext e2) ry po2
theorem e_neg (ha : PE X a (tR X.K W fa)) : PE X (.UnaryOp .USub a pos) (tR X.K W fun r => do return .d (.int (-(← intR (← fa r))))) :=
  (pe_un un_neg ha).imp fun σ H Q ⟨r, m, g, hs, rl, po⟩ =>
    tM.step hs rl po (fun _ z => z) fun x m1 g1 H1 v e1 rl1 hs1 rx fr1 po1 => by
      obtain ⟨i, rfl, rfl, po1⟩ := int_ok rx po1
      exact ⟨i, rfl, Po.val po1 rl1 (.int _)⟩
theorem e_not (ha : PE X a (tR X.K W fa)) : PE X (.UnaryOp .Not a pos) (tR X.K W fun r => do return .d (.bl (!(← tru (← fa r))))) :=
  (pe_notT ha).imp fun σ H Q ⟨r, m, g, hs, rl, po⟩ =>
    tM.step hs rl po (fun _ z => z) fun x m1 g1 H1 v e1 rl1 hs1 rx fr1 po1 => by
      obtain ⟨k, h1, po1⟩ := tru_ok2 rl1 rx po1
      exact ⟨k, h1, Po.val po1 rl1 (.bl _)⟩
theorem t_not (ha : PT X a (tT X.K W ta)) : PT X (.UnaryOp .Not a pos) (tT X.K W fun r => do return !(← ta r)) :=
  (pt_not ha).imp fun σ H Q ⟨r, m, g, hs, rl, po⟩ =>
    tM.step hs rl po (fun _ z => z) fun x m1 g1 H1 v e1 rl1 hs1 rx fr1 po1 => by
      cases (show x = v from rx)
      exact Po.ret (rep := same) (x := !x) (show Po X.K W σ same H g1 H1 (.ok (!x) m1) Q from po1) rl1 rfl
theorem e_cmp {o : CmpOp} (hu : X.A.units + 64 < cLine) (hm : behindInMarks o b = false) (ha : PE X a (tR X.K W fa)) (hb : PE X b (tR X.K W fb)) : PE X (.Compare a [o] [b] pos) (tR X.K W fun r => do
    let x ← fa r
    let y ← fb r
    cmpR o x y) :=
  (pe_cmpR (op_cmp hu o) ha hb hm).imp fun σ H Q ⟨r, m, g, hs, rl, po⟩ =>
    tM.step hs rl po (fun _ z => z) fun x m1 g1 H1 v e1 rl1 hs1 rx fr1 po1 =>
      tM.step hs1 rl1 po1 fr1 fun y m2 g2 H2 u e2 rl2 hs2 ry fr2 po2 => cmp_ok rl2 (rx.ext e2) ry po2
/-- a comparison that gives a truth: as a test -/
theorem Po.test {K : Fg} {W : WG} {σ : St} {H0 : Hp} {g : List Addr} {H : Hp} {m : Store} {Q : Bool → Hp → Prop} {x : M R} (hb : ∀ z m', x m = .ok z m' → ∃ b, z = .d (.bl b)) (h : Po K W σ same H0 g H ((x >>= fun z => tru z) m) Q) :
    PoR K W σ H0 g H (x m) fun v H' => ∃ k, v = .bl k ∧ Q k H' := by
  have h' : Po K W σ same H0 g H (M.bnd x (fun z => tru z) m) Q := h
  unfold M.bnd at h'
  cases e : x m with
  | ok z m1 =>
    rw [e] at h'
    obtain ⟨k, rfl⟩ := hb z m1 e
    intro g1 H1 v ex rl rp
    cases (show RD K g1 H1 (.bl k) v from rp)
    exact ⟨k, rfl, h' g1 H1 k ex rl rfl⟩
  | err y m1 => rw [e] at h'; exact h'
  | stuck => rw [e] at h'; exact h'.elim
theorem t_cmp {o : CmpOp} (hu : X.A.units + 64 < cLine) (hm : behindInMarks o b = false) (ha : PE X a (tR X.K W fa)) (hb : PE X b (tR X.K W fb)) : PT X (.Compare a [o] [b] pos) (tT X.K W fun r => do tru (← (do
    let x ← fa r
    let y ← fb r
    cmpR o x y : M R))) :=
  (pt_cmpR (op_cmp hu o) ha hb hm).imp fun σ H Q ⟨r, m, g, hs, rl, po⟩ => by
    have po0 : Po X.K W σ same H g H (((fa r >>= fun x => fb r >>= fun y => cmpR o x y) >>= fun z => tru z) m) Q := po
    rw [bnd_assoc] at po0
    have po' : Po X.K W σ same H g H ((fa r >>= fun x => fb r >>= fun y => cmpR o x y >>= fun z => tru z) m) Q := by
      have e : (fun x => (fb r >>= fun y => cmpR o x y) >>= fun z => tru z) = (fun x => fb r >>= fun y => cmpR o x y >>= fun z => tru z) := by
        funext x
        exact funext fun m => bnd_assoc _ _ _ m
      rw [← e]; exact po0
    exact tM.step hs rl po' (fun _ z => z) fun x m1 g1 H1 v e1 rl1 hs1 rx fr1 po1 =>
      tM.step hs1 rl1 po1 fr1 fun y m2 g2 H2 u e2 rl2 hs2 ry fr2 po2 => cmp_ok rl2 (rx.ext e2) ry (Po.test (fun z m' h => cmpR_bl h) po2)
/-- a op b op c -/
def chainM (o p : CmpOp) (fa fb fc : Env → M R) (r : Env) : M R := do
    let x ← fa r
    let y ← fb r
    let z ← cmpR o x y
    match z with
    | .d (.bl true) => do
      let w ← fc r
      cmpR p y w
    | .d (.bl false) => pure (.d (.bl false))
    | _ => stuck
theorem chain_core {o p : CmpOp} {K : Fg} {σ : St} {H : Hp} {Q : VK} (h : tR K W (chainM o p fa fb fc) σ H Q) : tChain (rCmp K o) (rCmp K p) (tR K W fa) (tR K W fb) (tR K W fc) σ H Q := by
  obtain ⟨r, m, g, hs, rl, po⟩ := h
  exact tM.step hs rl po (fun _ z => z) fun x m1 g1 H1 v e1 rl1 hs1 rx fr1 po1 =>
      tM.step hs1 rl1 po1 fr1 fun y m2 g2 H2 u e2 rl2 hs2 ry fr2 po2 =>
        cmp_ok (H0 := H) (W := W) (σ := σ) rl2 (rx.ext e2) ry (Po.bnd (rep' := RR K) po2 fun z m3 g3 H3 w e3 rl3 rz po3 => by
          cases z with
          | tl xs => exact (show False from po3).elim
          | d z =>
            cases z with
            | bl k =>
              cases (show RD K g3 H3 (.bl k) w from rz)
              refine ⟨k, rfl, ?_⟩
              cases k with
              | true =>
                rw [if_pos rfl]
                exact tM.step (hs2.ext e3) rl3 po3 (fun a z => fr2 a (e3.free a z)) fun w m4 g4 H4 v4 e4 rl4 hs4 rw4 fr4 po4 => cmp_ok rl4 ((ry.ext e3).ext e4) rw4 po4
              | false =>
                rw [if_neg Bool.false_ne_true]
                exact Po.val po3 rl3 (.bl _)
            | _ => exact (show False from po3).elim)
theorem chain_bl {o p : CmpOp} {r : Env} {z : R} {m m' : Store} (h : chainM o p fa fb fc r m = .ok z m') : ∃ b, z = .d (.bl b) := by
  obtain ⟨x, m1, _, h⟩ := bnd_inv h
  obtain ⟨y, m2, _, h⟩ := bnd_inv h
  obtain ⟨k, m3, h3, h⟩ := bnd_inv h
  obtain ⟨b, rfl⟩ := cmpR_bl h3
  cases b with
  | true =>
    obtain ⟨w, m4, _, h⟩ := bnd_inv h
    exact cmpR_bl h
  | false => cases h; exact ⟨_, rfl⟩
theorem e_cmp2 {o p : CmpOp} (hu : X.A.units + 64 < cLine) (hm : lastMarks [o, p] [b, c] = false) (ha : PE X a (tR X.K W fa)) (hb : PE X b (tR X.K W fb)) (hc : PE X c (tR X.K W fc)) : PE X (.Compare a [o, p] [b, c] pos) (tR X.K W (chainM o p fa fb fc)) :=
  (pe_chain (op_cmp hu o) (op_cmp hu p) ha hb hc hm).imp fun σ H Q h => chain_core h
theorem t_cmp2 {o p : CmpOp} (hu : X.A.units + 64 < cLine) (hm : lastMarks [o, p] [b, c] = false) (ha : PE X a (tR X.K W fa)) (hb : PE X b (tR X.K W fb)) (hc : PE X c (tR X.K W fc)) : PT X (.Compare a [o, p] [b, c] pos) (tT X.K W fun r => do tru (← chainM o p fa fb fc r)) :=
  (pt_chain (op_cmp hu o) (op_cmp hu p) ha hb hc hm).imp fun σ H Q ⟨r, m, g, hs, rl, po⟩ => chain_core (Q := fun x H' => ∃ k, x = .bl k ∧ Q k H') ⟨r, m, g, hs, rl, Po.test (fun z m' h => chain_bl h) po⟩
theorem e_and {rest : List Expr} (ha : PE X a (tR X.K W fa)) (hb : PE X (.BoolOp .And (b :: rest) pos) (tR X.K W fb)) : PE X (.BoolOp .And (a :: b :: rest) pos) (tR X.K W fun r => do
    let x ← fa r
    if ← tru x then fb r else pure x) :=
  (pe_andT ha hb).imp fun σ H Q ⟨r, m, g, hs, rl, po⟩ =>
    tM.step hs rl po (fun _ z => z) fun x m1 g1 H1 v e1 rl1 hs1 rx fr1 po1 => by
      obtain ⟨k, h1, po1⟩ := tru_ok2 rl1 rx po1
      refine ⟨k, h1, ?_⟩
      cases k with
      | true =>
        rw [if_pos rfl] at po1 ⊢
        exact tM.last (soonR X.K) hs1 rl1 po1 fr1
      | false =>
        rw [if_neg Bool.false_ne_true] at po1 ⊢
        exact Po.ret (rep := RR X.K) (show PoR X.K W σ H g1 H1 (.ok x m1) Q from po1) rl1 rx
theorem e_or {rest : List Expr} (ha : PE X a (tR X.K W fa)) (hb : PE X (.BoolOp .Or (b :: rest) pos) (tR X.K W fb)) : PE X (.BoolOp .Or (a :: b :: rest) pos) (tR X.K W fun r => do
    let x ← fa r
    if ← tru x then pure x else fb r) :=
  (pe_orT ha hb).imp fun σ H Q ⟨r, m, g, hs, rl, po⟩ =>
    tM.step hs rl po (fun _ z => z) fun x m1 g1 H1 v e1 rl1 hs1 rx fr1 po1 => by
      obtain ⟨k, h1, po1⟩ := tru_ok2 rl1 rx po1
      refine ⟨k, h1, ?_⟩
      cases k with
      | true =>
        rw [if_pos rfl] at po1 ⊢
        exact Po.ret (rep := RR X.K) (show PoR X.K W σ H g1 H1 (.ok x m1) Q from po1) rl1 rx
      | false =>
        rw [if_neg Bool.false_ne_true] at po1 ⊢
        exact tM.last (soonR X.K) hs1 rl1 po1 fr1
theorem w_and {rest : List Expr} (ha : PT X a (tT X.K W ta)) (hb : PW X (.BoolOp .And (b :: rest) pos) (tT X.K W tb)) : PW X (.BoolOp .And (a :: b :: rest) pos) (tT X.K W fun r => do if ← ta r then tb r else pure false) :=
  (pw_and ha hb).imp fun σ H Q ⟨r, m, g, hs, rl, po⟩ =>
    tM.step hs rl po (fun _ z => z) fun x m1 g1 H1 v e1 rl1 hs1 rx fr1 po1 => by
      cases (show x = v from rx)
      cases x with
      | true =>
        rw [if_pos rfl] at po1 ⊢
        exact tM.last soonS hs1 rl1 po1 fr1
      | false =>
        rw [if_neg Bool.false_ne_true] at po1 ⊢
        exact Po.ret (rep := same) (show Po X.K W σ same H g1 H1 (.ok false m1) Q from po1) rl1 rfl
theorem w_or {rest : List Expr} (ha : PT X a (tT X.K W ta)) (hb : PW X (.BoolOp .Or (b :: rest) pos) (tT X.K W tb)) : PW X (.BoolOp .Or (a :: b :: rest) pos) (tT X.K W fun r => do if ← ta r then pure true else tb r) :=
  (pw_or ha hb).imp fun σ H Q ⟨r, m, g, hs, rl, po⟩ =>
    tM.step hs rl po (fun _ z => z) fun x m1 g1 H1 v e1 rl1 hs1 rx fr1 po1 => by
      cases (show x = v from rx)
      cases x with
      | true =>
        rw [if_pos rfl] at po1 ⊢
        exact Po.ret (rep := same) (show Po X.K W σ same H g1 H1 (.ok true m1) Q from po1) rl1 rfl
      | false =>
        rw [if_neg Bool.false_ne_true] at po1 ⊢
        exact tM.last soonS hs1 rl1 po1 fr1
theorem e_ite (hc : PT X c (tT X.K W tc)) (ha : PE X a (tR X.K W fa)) (hb : PE X b (tR X.K W fb)) : PE X (.IfExp c a b pos) (tR X.K W fun r => do if ← tc r then fa r else fb r) :=
  (pe_ifExp hc ha hb).imp fun σ H Q ⟨r, m, g, hs, rl, po⟩ =>
    tM.step hs rl po (fun _ z => z) fun x m1 g1 H1 v e1 rl1 hs1 rx fr1 po1 => by
      cases (show x = v from rx)
      cases x with
      | true =>
        rw [if_pos rfl] at po1 ⊢
        exact tM.last (soonR X.K) hs1 rl1 po1 fr1
      | false =>
        rw [if_neg Bool.false_ne_true] at po1 ⊢
        exact tM.last (soonR X.K) hs1 rl1 po1 fr1
/-- a if t else b, as a test -/
def tIfT (t u v : TT) : TT := fun σ H Q => t σ H fun c H1 => if c = true then u σ H1 Q else v σ H1 Q
theorem pt_ifExp {t u v : TT} (hc : PT X c t) (ha : PT X a u) (hb : PT X b v) : PT X (.IfExp c a b pos) (tIfT t u v) := by
  refine ⟨fun pins s σ H Q I h => ?_⟩
  show wpAny _ _ (isTrue c X.env (eval c X.env) >>= fun k => if k = true then isTrue a X.env (eval a X.env) else isTrue b X.env (eval b X.env)) _ _ s
  refine wpAny_bind (thn (hc.run pins s σ H _ I h) fun k s1 ⟨H1, I1, q1⟩ => ?_)
  cases k with
  | true => exact ha.run pins s1 σ H1 Q I1 q1
  | false => exact hb.run pins s1 σ H1 Q I1 q1
theorem t_ite (hc : PT X c (tT X.K W tc)) (ha : PT X a (tT X.K W ta)) (hb : PT X b (tT X.K W tb)) : PT X (.IfExp c a b pos) (tT X.K W fun r => do if ← tc r then ta r else tb r) :=
  (pt_ifExp hc ha hb).imp fun σ H Q ⟨r, m, g, hs, rl, po⟩ =>
    tM.step hs rl po (fun _ z => z) fun x m1 g1 H1 v e1 rl1 hs1 rx fr1 po1 => by
      cases (show x = v from rx)
      cases x with
      | true =>
        rw [if_pos rfl] at po1 ⊢
        exact tM.last soonS hs1 rl1 po1 fr1
      | false =>
        rw [if_neg Bool.false_ne_true] at po1 ⊢
        exact tM.last soonS hs1 rl1 po1 fr1
/-- any expression as a test -/
theorem t_any (ha : PE X a (tR X.K W fa)) (he : ∀ whole, isTrue a X.env whole = (do let v ← whole; standAt a.pos; holding [v] (truthy v))) : PT X a (tT X.K W fun r => do tru (← fa r)) :=
  (pt_truth ha he).imp fun σ H Q ⟨r, m, g, hs, rl, po⟩ =>
    tM.step hs rl po (fun _ z => z) fun x m1 g1 H1 v e1 rl1 hs1 rx fr1 po1 => by
      have po2 : Po X.K W σ same H g1 H1 ((tru x >>= fun b => pure b) m1) Q := by
        have e : (tru x >>= fun b => pure b) m1 = tru x m1 := by
          show M.bnd (tru x) (fun b => M.ret b) m1 = tru x m1
          unfold M.bnd
          cases tru x m1 <;> rfl
        rw [e]; exact po1
      obtain ⟨k, h1, po2⟩ := tru_ok2 rl1 rx po2
      exact ⟨k, h1, Po.ret (rep := same) (show Po X.K W σ same H g1 H1 (.ok k m1) Q from po2) rl1 rfl⟩
/-- .. of an expression -/
theorem e_up (ha : PE X a (tR X.K W fa)) : PE X a (tD X.K W (upM fa)) :=
  ha.imp fun σ H Q ⟨r, m, g, hs, rl, po⟩ => by
    refine ⟨r, m, g, hs, rl, ?_⟩
    have po' : Po X.K W σ (repD X.K) H g H (M.bnd (fa r) (fun x => R.up x) m) Q := po
    unfold M.bnd at po'
    cases e : fa r m with
    | ok x m1 =>
      rw [e] at po'
      intro g1 H1 v ex rl1 rx
      cases x with
      | d x => exact po' g1 H1 v ex rl1 rx
      | tl xs =>
        obtain ⟨b, vs, rfl, h1, h2, h3, h4⟩ := rx
        refine po' (g1 ++ [b]) H1 _ (ex.named h3) (rl1.named h1 h2 h4) (.ref ?_)
        rw [← rl1.len, List.getElem?_append_right (Nat.le_refl _)]
        simp
    | err y m1 => rw [e] at po'; exact po'
    | stuck => rw [e] at po'; exact po'.elim
end
end Pf

/-! Pf6: arguments, displays, subscripts, targets, what is walked. -/
namespace Pf
open PySem L2
/-! ### arguments -/
def NotStar (e : Expr) : Prop := match e with
  | .Starred _ _ => False
  | _ => True
theorem star_of {e : Expr} {es : List Expr} {env : PySem.Env} (h : NotStar e) : starEach (e :: es) env = (false, eval e env) :: starEach es env := by
  cases e <;> first | rfl | exact h.elim
theorem plain_of {env : PySem.Env} {pos : Pos} : ∀ {es : List Expr}, (∀ e ∈ es, NotStar e) → (backTo pos (starEach es env)).any (·.1) = false
  | [], _ => rfl
  | e :: es, h => by
    rw [star_of (h e List.mem_cons_self)]
    show (false || (backTo pos (starEach es env)).any (·.1)) = false
    rw [plain_of fun x hx => h x (List.mem_cons_of_mem _ hx)]
    rfl
section
variable {X : Cx} {W : WG} {a b c e i : Expr} {es : List Expr} {fa fb fc fe fi : Env → M R} {fs : Env → M (List D)} {frs : Env → M (List R)} {pos : Pos}
abbrev tDs (K : Fg) (W : WG) (f : Env → M (List D)) : TA := tM K W (repDs K) f
abbrev tRs (K : Fg) (W : WG) (f : Env → M (List R)) : TA := tM K W (repRs K) f
theorem a_nilD : PA X [] (tDs X.K W fun _ => pure []) := pa_nil.imp fun σ H Q ⟨r, m, g, hs, rl, po⟩ => Po.ret (rep := repDs X.K) (show Po X.K W σ (repDs X.K) H g H (.ok [] m) Q from po) rl .nil
theorem a_nilR : PA X [] (tRs X.K W fun _ => pure []) := pa_nil.imp fun σ H Q ⟨r, m, g, hs, rl, po⟩ => Po.ret (rep := repRs X.K) (show Po X.K W σ (repRs X.K) H g H (.ok [] m) Q from po) rl trivial
theorem a_consD (ns : NotStar e) (he : PE X e (tR X.K W fe)) (hr : PA X es (tDs X.K W fs)) : PA X (e :: es) (tDs X.K W fun r => do
    let x ← upM fe r
    let xs ← fs r
    return x :: xs) :=
  (pa_cons (e_up he) hr (star_of ns)).imp fun σ H Q ⟨r, m, g, hs, rl, po⟩ =>
    tM.step hs rl po (fun _ z => z) fun x m1 g1 H1 v e1 rl1 hs1 rx fr1 po1 =>
      tM.step hs1 rl1 po1 fr1 fun xs m2 g2 H2 vs e2 rl2 hs2 rxs fr2 po2 =>
        Po.ret (rep := repDs X.K) (show Po X.K W σ (repDs X.K) H g2 H2 (.ok (x :: xs) m2) Q from po2) rl2 (.cons (RD.ext e2 rx) rxs)
theorem a_consR (ns : NotStar e) (he : PE X e (tR X.K W fe)) (hr : PA X es (tRs X.K W frs)) : PA X (e :: es) (tRs X.K W fun r => do
    let x ← fe r
    let xs ← frs r
    return x :: xs) :=
  (pa_cons he hr (star_of ns)).imp fun σ H Q ⟨r, m, g, hs, rl, po⟩ =>
    tM.step hs rl po (fun _ z => z) fun x m1 g1 H1 v e1 rl1 hs1 rx fr1 po1 =>
      tM.step hs1 rl1 po1 fr1 fun xs m2 g2 H2 vs e2 rl2 hs2 rxs fr2 po2 =>
        Po.ret (rep := repRs X.K) (show Po X.K W σ (repRs X.K) H g2 H2 (.ok (x :: xs) m2) Q from po2) rl2 ⟨RR.ext e2 rx, soonRs X.K (fun b z => e1.free b z) rxs⟩
/-! ### displays, subscripts, slices -/
theorem e_tup {k : Nat} (h : PA X es (tDs X.K W fs)) : PE X (.Tuple es k pos) (tR X.K W fun r => do
    let xs ← fs r
    chk (xs.length ≤ sizeLine)
    return .d (.tup xs)) :=
  (pe_tup h).imp fun σ H Q ⟨r, m, g, hs, rl, po⟩ =>
    tM.step hs rl po (fun _ z => z) fun xs m1 g1 H1 vs e1 rl1 hs1 rx fr1 po1 => by
      obtain ⟨c, po1⟩ := chk_ok po1
      have rx' : RDs X.K g1 H1 xs vs := rx
      rw [rx'.length] at c
      exact ⟨c, fun p hp => Po.newT po1 rl1 rx' hp⟩
theorem e_lst (h : PA X es (tDs X.K W fs)) : PE X (.List es pos) (tR X.K W fun r => do
    let xs ← fs r
    chk (xs.length ≤ sizeLine)
    return .tl xs) :=
  (pe_lst h).imp fun σ H Q ⟨r, m, g, hs, rl, po⟩ =>
    tM.step hs rl po (fun _ z => z) fun xs m1 g1 H1 vs e1 rl1 hs1 rx fr1 po1 => by
      obtain ⟨c, po1⟩ := chk_ok po1
      have rx' : RDs X.K g1 H1 xs vs := rx
      rw [rx'.length] at c
      exact ⟨c, fun p hp => Po.newL po1 rl1 fr1 rx' hp⟩
def NotSlice (e : Expr) : Prop := match e with
  | .Slice _ _ _ _ => False
  | _ => True
theorem plainIx_of (h : NotSlice e) : PlainIx e := by
  intro o i
  cases e <;> first | rfl | exact h.elim
theorem e_ix (hu : X.A.units + 64 < cLine) (ns : NotSlice i) (ha : PE X a (tR X.K W fa)) (hi : PE X i (tR X.K W fi)) : PE X (.Subscript a i pos) (tR X.K W fun r => do
    let x ← fa r
    let y ← fi r
    ixR x y) :=
  (pe_ix (ix_any hu) ha hi (plainIx_of ns)).imp fun σ H Q ⟨r, m, g, hs, rl, po⟩ =>
    tM.step hs rl po (fun _ z => z) fun x m1 g1 H1 v e1 rl1 hs1 rx fr1 po1 =>
      tM.step hs1 rl1 po1 fr1 fun y m2 g2 H2 u e2 rl2 hs2 ry fr2 po2 => ix_ok rl2 (rx.ext e2) ry po2
/-- a slice's part -/
def PartOk (X : Cx) (W : WG) (e : Option Expr) (b : Bool) (f : Env → M R) : Prop := PO X e (tM X.K W same (partM b f))
theorem part_none : PartOk X W none false fe :=
  ⟨fun pins s σ H Q I ⟨r, m, g, hs, rl, po⟩ => po_none.run pins s σ H Q I (Po.ret (rep := same) (show Po X.K W σ same H g H (.ok none m) Q from po) rl rfl)⟩
theorem part_some (h : PE X e (tR X.K W fe)) : PartOk X W (some e) true fe :=
  ⟨fun pins s σ H Q I ⟨r, m, g, hs, rl, po⟩ => (po_some h).run pins s σ H Q I (tM.step hs rl (show Po X.K W σ same H g H ((fe r >>= fun x => intR x >>= fun i => pure (some i)) m) Q from po) (fun _ z => z) fun x m1 g1 H1 v e1 rl1 hs1 rx fr1 po1 => by
    obtain ⟨k, rfl, rfl, po1⟩ := int_ok rx po1
    exact ⟨k, rfl, Po.ret (rep := same) (show Po X.K W σ same H g1 H1 (.ok (some k) m1) Q from po1) rl1 rfl⟩)⟩
theorem e_sl {lo hi : Option Expr} {hl hh : Bool} {fl fh : Env → M R} {p2 : Pos} (ha : PE X a (tR X.K W fa)) (h1 : PartOk X W lo hl fl) (h2 : PartOk X W hi hh fh) : PE X (.Subscript a (.Slice lo hi none p2) pos) (tR X.K W fun r => do
    let x ← fa r
    let l ← partM hl fl r
    let h ← partM hh fh r
    cutR x l h) :=
  (pe_slice sl_any ha h1 h2).imp fun σ H Q ⟨r, m, g, hs, rl, po⟩ =>
    tM.step hs rl po (fun _ z => z) fun x m1 g1 H1 v e1 rl1 hs1 rx fr1 po1 =>
      tM.step hs1 rl1 po1 fr1 fun l m2 g2 H2 l' e2 rl2 hs2 rl' fr2 po2 =>
        tM.step hs2 rl2 po2 fr2 fun h m3 g3 H3 h' e3 rl3 hs3 rh fr3 po3 => by
          cases (show l = l' from rl')
          cases (show h = h' from rh)
          exact cut_ok rl3 fr3 ((rx.ext e2).ext e3) po3
/-! ### calls of built-in functions, methods -/
theorem e_bif {f : BF} {x : Str} {p : Pos} (hc : X.calm = true) (hu : X.A.units + 64 < cLine) (hgu : X.A.guards = some []) (hx : x = f.nm) (hg : Gl X x) (hm : X.mg x = none) (hv : bootBuiltins x = some f.val) (hn : x ≠ "__name__") (hd : (x == ("__debug__" : Str)) = false)
    (ns : NotStar e) (nss : ∀ e ∈ es, NotStar e) (ha : PA X (e :: es) (tRs X.K W frs)) : PE X (.Call (.Name x p) (e :: es) [] pos) (tR X.K W fun r => do
    let xs ← frs r
    bfR f xs) := by
  have fin : ∀ σ H Q, tR X.K W (fun r => do let xs ← frs r; bfR f xs) σ H Q → tCB (rBf X.K f) (tRs X.K W frs) σ H Q := fun σ H Q ⟨r, m, g, hs, rl, po⟩ =>
    tM.step hs rl po (fun _ z => z) fun xs m1 g1 H1 vs e1 rl1 hs1 rx fr1 po1 => bf_ok rl1 fr1 rx po1
  cases ht : f.ty with
  | some t =>
    have ev : f.val = .type t := by unfold BF.val; rw [ht]
    have c := call_bf hc hu hgu f
    rw [ev] at c hv
    exact (pe_callTy c hg hm hv ha hn hd (star_of ns) (plain_of nss)).imp fin
  | none =>
    have ev : f.val = .builtin f.nm := by unfold BF.val; rw [ht]
    have c := call_bf hc hu hgu f
    rw [ev] at c hv
    exact (pe_callB c hg hm hv ha hn hd (star_of ns) (plain_of nss)).imp fin
def NotCall (e : Expr) : Prop := match e with
  | .Call _ _ _ _ => False
  | _ => True
theorem base_of {o : Expr} {f : Str} (h : NotCall o) : attributeBase o f X.env (eval o X.env) = eval o X.env := by
  cases o <;> first | rfl | exact h.elim
/-- a method's name, its rule -/
def MF.nm : MF → Str
  | .append => "append"
  | .extend => "extend"
  | .pop => "pop"
  | .count => "count"
  | .popAt => "pop"
  | .insert => "insert"
  | .index => "index"
  | .join => "join"
  | .upper => "upper"
  | .get1 => "get"
  | .get2 => "get"
  | .pop2 => "pop"
def MF.id : MF → String
  | .append => "list.append"
  | .extend => "list.extend"
  | .pop => "list.pop"
  | .count => "list.count"
  | .popAt => "list.pop"
  | .insert => "list.insert"
  | .index => "list.index"
  | .join => "str.join"
  | .upper => "str.upper"
  | .get1 => "dict.get"
  | .get2 => "dict.get"
  | .pop2 => "dict.pop"
/-- its class -/
def MF.cls (f : MF) : String := match f.of with
  | .str => "str"
  | .dict => "dict"
  | _ => "list"
def rGet1 : V → List V → Hp → VK → Prop := fun x xs H Q => ∃ a y o, x = .ref a ∧ xs = [y] ∧ DGet H a y o ∧ Q (o.getD .non) H
def rGet2 : V → List V → Hp → VK → Prop := fun x xs H Q => ∃ a y z o, x = .ref a ∧ xs = [y, z] ∧ DGet H a y o ∧ Q (o.getD z) H
def rPop2 : V → List V → Hp → VK → Prop := fun x xs H Q => ∃ a k z kvs, x = .ref a ∧ xs = [kV k, z] ∧ H a = some (.dK kvs) ∧ (∀ v, valV kvs k = some v → Q v (upd H a (.dK (dropK kvs k)))) ∧ (valV kvs k = none → Q z H)
theorem mt_get1 {X : Cx} (hu : X.A.units + 64 < cLine) : MtR X "dict.get" rGet1 := by
  intro pins s σ H x xs v us Q I rx rxs h
  obtain ⟨a, y, o, rfl, rfl, g, q⟩ := h
  obtain ⟨u, rfl, ru⟩ := vals1 rxs
  obtain rfl : v = Value.ref a := rx
  exact d_get1 (Q := EP X pins σ Q) (by omega) I g ru fun w' s' I' rw' => ⟨_, H, I', rw', q⟩
theorem mt_get2 {X : Cx} (hu : X.A.units + 64 < cLine) : MtR X "dict.get" rGet2 := by
  intro pins s σ H x xs v us Q I rx rxs h
  obtain ⟨a, y, z, o, rfl, rfl, g, q⟩ := h
  obtain ⟨u, w, rfl, ru, rw_⟩ := vals2 rxs
  obtain rfl : v = Value.ref a := rx
  exact d_get2 (Q := EP X pins σ Q) (by omega) I g ru rw_ fun w' s' I' rw' => ⟨_, H, I', rw', q⟩
theorem mt_pop2 {X : Cx} : MtR X "dict.pop" rPop2 := by
  intro pins s σ H x xs v us Q I rx rxs h
  obtain ⟨a, k, z, kvs, rfl, rfl, e, q1, q2⟩ := h
  obtain ⟨u, w, rfl, ru, rw_⟩ := vals2 rxs
  obtain rfl : v = Value.ref a := rx
  cases l : valV kvs k with
  | some d => exact d_pop (Q := EP X pins σ Q) I e ru l (.inr ⟨w, rfl⟩) fun w' s' I' rw' => ⟨d, _, I', rw', q1 d l⟩
  | none => exact d_popD (Q := EP X pins σ Q) I e ru l fun s' I' => ⟨z, H, I', rw_, q2 l⟩
/-- l.index(x): the first place of an equal one -/
def rIndexQ (K : Fg) : V → List V → Hp → VK → Prop := fun x xs H Q => ∃ (a : Addr) (y : V) (d : PyData) (ds : List PyData) (j : Nat) (z : PyData), x = V.ref a ∧ xs = [y] ∧ Dp K H (V.ref a) (.list ds) ∧ Dp K H y d ∧
  d.depth ≤ 61 ∧ d.canLay0 = true ∧ PyData.canLayAll0 ds = true ∧ ds[j]? = some z ∧ PyData.eqv z d = true ∧ (∀ (m : Nat) (z' : PyData), m < j → ds[m]? = some z' → PyData.eqv z' d = false) ∧ Q (.int (j : Nat)) H
theorem mt_indexQ {X : Cx} (hu : X.A.units + 64 < cLine) : MtR X "list.index" (rIndexQ X.K) := by
  intro pins s σ H x xs v us Q I rx rxs h
  obtain ⟨a, y, d, ds, j, z, rfl, rfl, hl, hy, dp, c1, c2, hz, hzj, hno, q⟩ := h
  cases rx
  cases rxs with
  | cons ry rt =>
    rename_i uy ut
    cases rt
    obtain ⟨bs, r1⟩ := Dp.reads I d y uy hy ry
    have hroom : X.A.units + 1 + min (PyData.depthAll ds) d.depth < cLine := by
      have := Nat.min_le_right (PyData.depthAll ds) d.depth
      omega
    cases hl with
    | lst hs ha =>
      obtain ⟨its, rv, ⟨⟨cls, dd, data, sls⟩, n, ho, hc, hdn, hdt⟩, hlen⟩ := I.list hs
      simp only at hc hdt
      subst hc hdt
      obtain ⟨as, h4⟩ := Dp.readsAll I ds _ its ha rv
      have hn : its.length = ds.length := SeqAt.ReadsAll.length ds its as h4
      have hmap : its.map (SeqAt.readOf s.heap) = ds := SeqAt.readsAll_map ds its as c2 h4
      have hvl := rv.length
      have hsl := sizeLine_eq
      obtain ⟨hjd, _⟩ := List.getElem?_eq_some_iff.mp hz
      have hjl : j < its.length := by omega
      have hj : j < its.toArray.size := by simpa using hjl
      have at_ : ∀ (m : Nat) (hm : m < its.toArray.size) (z' : PyData), ds[m]? = some z' → SeqAt.readOf s.heap its.toArray[m] = z' := by
        intro m hm z' hz'
        have hml : m < its.length := by simpa using hm
        rw [← hmap, List.getElem?_map, List.getElem?_eq_getElem hml] at hz'
        have e1 : SeqAt.readOf s.heap its[m] = z' := Option.some.inj (show some (SeqAt.readOf s.heap its[m]) = some z' from hz')
        simpa using e1
      refine call_meets PySem.F.slot_list_index ⟨_, ho, rfl⟩ PySem.F.entry_list_index (PySem.F.args_list_index_2 _ _)
        (SeqAt.list_indexAt a its.toArray n dd sls uy (fun u => PyData.eqv (SeqAt.readOf s.heap u) d) j hj (by omega) ?_ ?_) ⟨ho, SeqAt.items_eqAt (vs := its.toArray) (show PySem.ReadsAll s.heap its.toArray.toList ds as from h4) r1 c2 c1 hroom, ?_⟩
      · show PyData.eqv (SeqAt.readOf s.heap its.toArray[j]) d = true
        rw [at_ j hj z hz]
        exact hzj
      · intro m hm hmj
        have hmd : m < ds.length := by omega
        have hz' : ds[m]? = some ds[m] := List.getElem?_eq_getElem hmd
        show PyData.eqv (SeqAt.readOf s.heap its.toArray[m]) d = false
        rw [at_ m hm _ hz']
        exact hno m _ hmj hz'
      · exact ⟨.int (j : Nat), H, I.tok _, ⟨_, rfl⟩, q⟩
def rMf (K : Fg) : MF → V → List V → Hp → VK → Prop
  | .append => rAppend
  | .extend => rExtend
  | .pop => rPop
  | .count => rCntI K
  | .popAt => rPopAt
  | .insert => fun x vs H Q => ∃ (l : Addr) (xs : List V) (i : Int) (y : V), x = .ref l ∧ vs = [.int i, y] ∧ H l = some (.lst xs) ∧ xs.length < sizeLine ∧ 0 ≤ i ∧ i < 2 ^ 63 ∧ Q .non (upd H l (.lst (xs.take i.toNat ++ [y] ++ xs.drop i.toNat)))
  | .index => rIndexQ K
  | .join => fun x xs H Q => ∃ a p, ∃ ys : List Str, x = .str a ∧ xs = [.ref p] ∧ (SqL K H p (ys.map V.str) ∨ SqT K H p (ys.map V.str)) ∧ (ys.map (·.length)).sum + ys.length * a.length ≤ 16777216 ∧ Q (.str (Txt.join a ys)) H
  | .upper => fun x xs H Q => ∃ a, x = .str a ∧ xs = [] ∧ a.length ≤ 5592405 ∧ Q (.str (Txt.upper a)) H
  | .get1 => rGet1
  | .get2 => rGet2
  | .pop2 => rPop2
theorem mt_mf {X : Cx} (hu : X.A.units + 64 < cLine) : ∀ f : MF, MtR X f.id (rMf X.K f)
  | .append => mt_append
  | .extend => mt_extend
  | .pop => mt_pop
  | .count => mt_lcount
  | .popAt => mt_popAt
  | .insert => mt_insert
  | .index => mt_indexQ hu
  | .join => mt_join
  | .upper => mt_upper
  | .get1 => mt_get1 hu
  | .get2 => mt_get2 hu
  | .pop2 => mt_pop2
theorem plain_mf : ∀ f : MF, PlainAttrs f.cls
  | .append | .extend | .pop | .count | .popAt | .insert | .index => PySem.F.plainAttrs_list
  | .join | .upper => PySem.F.plainAttrs_str
  | .get1 | .get2 | .pop2 => PySem.F.plainAttrs_dict
theorem slot_mf : ∀ f : MF, Slot f.cls f.nm f.id
  | .append => PySem.F.slot_list_append
  | .extend => PySem.F.slot_list_extend
  | .pop => PySem.F.slot_list_pop
  | .count => PySem.F.slot_list_count
  | .popAt => PySem.F.slot_list_pop
  | .insert => PySem.F.slot_list_insert
  | .index => PySem.F.slot_list_index
  | .join => PySem.F.slot_str_join
  | .upper => PySem.F.slot_str_upper
  | .get1 => PySem.F.slot_dict_get
  | .get2 => PySem.F.slot_dict_get
  | .pop2 => PySem.F.slot_dict_pop
theorem type_mf : ∀ f : MF, typeOf (.builtin f.id) = pure (.type "method_descriptor")
  | .append => PySem.F.type_list_append
  | .extend => PySem.F.type_list_extend
  | .pop => PySem.F.type_list_pop
  | .count => PySem.F.type_list_count
  | .popAt => PySem.F.type_list_pop
  | .insert => PySem.F.type_list_insert
  | .index => PySem.F.type_list_index
  | .join => PySem.F.type_str_join
  | .upper => PySem.F.type_str_upper
  | .get1 => PySem.F.type_dict_get
  | .get2 => PySem.F.type_dict_get
  | .pop2 => PySem.F.type_dict_pop
section
variable {K : Fg} {σ : St} {H0 H1 H2 : Hp} {g : List Addr} {H : Hp} {m : Store} {Q : VK}
theorem str_ok {α β : Type} {rep : Rep α β} {Q : β → Hp → Prop} {x : R} {v : V} {f : Str → M α} (r : RR K H1 g H x v) (h : Po K W σ rep H0 g H ((strR x >>= f) m) Q) : ∃ z, x = .d (.str z) ∧ v = .str z ∧ Po K W σ rep H0 g H (f z m) Q := by
  cases x with
  | tl xs => exact (show False from h).elim
  | d x =>
    cases x with
    | str i =>
      cases (show RD K g H (.str i) v from r)
      exact ⟨i, rfl, rfl, h⟩
    | _ => exact (show False from h).elim
theorem dct_ok {α β : Type} {rep : Rep α β} {Q : β → Hp → Prop} {x : R} {v : V} {f : List (Key × D) → M α} (rl : Rel K g m H) (r : RR K H1 g H x v) (h : Po K W σ rep H0 g H ((dctR x >>= f) m) Q) :
    ∃ j a ws ks, x = .d (.ref j) ∧ v = .ref a ∧ m[j]? = some (.dct ks) ∧ H a = some (.dK ws) ∧ RKs K g H ks ws ∧ g[j]? = some a ∧ Po K W σ rep H0 g H (f ks m) Q := by
  cases x with
  | tl xs => exact (show False from h).elim
  | d x =>
    cases x with
    | ref k =>
      obtain ⟨ks, q, p⟩ := getT_ok (show Po K W σ rep H0 g H ((getT k >>= f) m) Q from h)
      cases (show RD K g H (.ref k) v from r) with
      | ref e =>
        obtain ⟨ws, h1, h2⟩ := rl.ownT e q
        exact ⟨k, _, ws, ks, rfl, rfl, q, h1, h2, e, p⟩
    | _ => exact (show False from h).elim
theorem strs_of : ∀ {xs : List D} {vs : List V} {is : List Str}, RDs K g H xs vs → optAll strOf xs = some is → vs = is.map V.str := by
  intro xs
  induction xs with
  | nil => intro vs is r e; cases r; cases e; rfl
  | cons x xs ih =>
    intro vs is r e
    cases r with
    | cons r1 r2 =>
      unfold optAll at e
      cases x with
      | str i =>
        cases r1
        cases e2 : optAll strOf xs with
        | none => rw [e2] at e; cases e
        | some js =>
          rw [e2] at e
          cases e
          rw [ih r2 e2]
          rfl
      | _ => cases (show none = some is from e)
theorem firstEq_ok {p : PyData} : ∀ {ps : List PyData} {i j : Nat}, firstEq p ps i = some j → i ≤ j ∧ ∃ z, ps[j - i]? = some z ∧ PyData.eqv z p = true ∧ ∀ (n : Nat) (z' : PyData), n < j - i → ps[n]? = some z' → PyData.eqv z' p = false
  | [], i, j, h => nomatch h
  | z :: zs, i, j, h => by
    unfold firstEq at h
    cases e : PyData.eqv z p with
    | true =>
      rw [e, if_pos rfl] at h
      cases h
      exact ⟨Nat.le_refl _, z, by simp, e, fun n z' hn => by omega⟩
    | false =>
      rw [e, if_neg Bool.false_ne_true] at h
      obtain ⟨h1, y, h2, h3, h4⟩ := firstEq_ok h
      refine ⟨by omega, y, ?_, h3, fun n z' hn hz => ?_⟩
      · rw [show j - i = (j - (i + 1)) + 1 by omega, List.getElem?_cons_succ]
        exact h2
      · cases n with
        | zero => simp at hz; rw [← hz]; exact e
        | succ n => exact h4 n z' (by omega) (by simpa using hz)
/-- behind a dict's write -/
theorem Po.wroteT {x : D} {v : V} {h : Nat} {a : Addr} {xs : List (Key × D)} {vs ws : List (Key × V)} (po : PoR K W σ H0 g H ((putT h xs >>= fun _ => pure (R.d x) : M R) m) Q) (rl : Rel K g m H) (e : g[h]? = some a) (h1 : H a = some (.dK vs)) (h2 : RKs K g H xs ws) (rv : RD K g H x v) :
    Q v (upd H a (.dK ws)) := by
  obtain ⟨ex, rl'⟩ := rl.writeT e h1 h2
  exact (show PoR K W σ H0 g H (.ok (.d x) (m.set h (.dct xs))) Q from po) g _ v ex rl' (rv.ext ex)
theorem RDs.erase {xs : List D} {vs : List V} : ∀ (n : Nat), RDs K g H xs vs → RDs K g H (xs.eraseIdx n) (vs.eraseIdx n) := by
  intro n h
  rw [List.eraseIdx_eq_take_drop_succ, List.eraseIdx_eq_take_drop_succ]
  exact (h.take n).app (h.drop (n + 1))
theorem okM_ok {α β : Type} {rep : Rep α β} {Q : β → Hp → Prop} {f : MF} {x : R} {v : V} {k : Unit → M α} (rl : Rel K g m H) (rx : RR K H1 g H x v) (h : Po K W σ rep H0 g H ((okM f x >>= k) m) Q) : tyV K f.cls v H ∧ Po K W σ rep H0 g H (k () m) Q := by
  have lst : Po K W σ rep H0 g H (((ownR x >>= fun _ => pure ()) >>= k) m) Q → tyV K "list" v H ∧ Po K W σ rep H0 g H (k () m) Q := fun h' => by
    rw [bnd_assoc] at h'
    obtain ⟨a, vs, xs, rfl, h1, h2, h3⟩ := own_ok rl rx h'
    exact ⟨.inl ⟨rfl, _, SqL.of h1⟩, h3⟩
  have str : Po K W σ rep H0 g H (((strR x >>= fun _ => pure ()) >>= k) m) Q → tyV K "str" v H ∧ Po K W σ rep H0 g H (k () m) Q := fun h' => by
    rw [bnd_assoc] at h'
    obtain ⟨z, rfl, rfl, h3⟩ := str_ok rx h'
    exact ⟨rfl, h3⟩
  have dct : Po K W σ rep H0 g H (((dctR x >>= fun _ => pure ()) >>= k) m) Q → tyV K "dict" v H ∧ Po K W σ rep H0 g H (k () m) Q := fun h' => by
    rw [bnd_assoc] at h'
    obtain ⟨j, a, vs, xs, rfl, rfl, _, h1, h2, _, h3⟩ := dct_ok rl rx h'
    exact ⟨.inr (.inr (.inl ⟨rfl, .inl ⟨_, h1⟩⟩)), h3⟩
  cases f <;> first | exact lst h | exact str h | exact dct h
/-- behind a write -/
theorem Po.wrote {x : D} {v : V} {h : Nat} {a : Addr} {xs : List D} {vs ws : List V} (po : PoR K W σ H0 g H ((putL h xs >>= fun _ => pure (R.d x) : M R) m) Q) (rl : Rel K g m H) (e : g[h]? = some a) (h1 : H a = some (.lst vs)) (h2 : RDs K g H xs ws) (rv : RD K g H x v) :
    Q v (upd H a (.lst ws)) := by
  obtain ⟨ex, rl'⟩ := rl.write e h1 h2
  exact (show PoR K W σ H0 g H (.ok (.d x) (m.set h (.lst xs))) Q from po) g _ v ex rl' (rv.ext ex)
theorem RDs.dropLast {xs : List D} {vs : List V} (h : RDs K g H xs vs) : RDs K g H xs.dropLast vs.dropLast := by
  rw [List.dropLast_eq_take, List.dropLast_eq_take, h.length]
  exact h.take _
theorem mf_ok {f : MF} {x : R} {v : V} {xs : List R} {vs : List V} (rl : Rel K g m H) (rx : RR K H1 g H x v) (rs : RRs K H2 g H xs vs) (h : PoR K W σ H0 g H (mfR f x xs m) Q) : rMf K f v vs H Q := by
  unfold mfR at h
  split at h
  · obtain ⟨u, rfl, ru⟩ := one_of rs
    cases (show RD K g H (.ref _) v from rx) with
    | @ref _ a e =>
      obtain ⟨ys, q, h⟩ := getL_ok h
      obtain ⟨ws, h1, h2⟩ := rl.own e q
      obtain ⟨c, h⟩ := chk_ok h
      rw [h2.length] at c
      exact ⟨a, ws, u, rfl, rfl, h1, c, Po.wrote h rl e h1 (h2.app (.cons ru .nil)) .non⟩
  · obtain ⟨u, rfl, ru⟩ := one_of rs
    cases (show RD K g H (.ref _) v from rx) with
    | @ref _ a e =>
      obtain ⟨b, us, zs, rfl, h3, h4, h⟩ := own_ok rl ru h
      obtain ⟨ys, q, h⟩ := getL_ok h
      obtain ⟨ws, h1, h2⟩ := rl.own e q
      obtain ⟨c, h⟩ := chk_ok h
      rw [h2.length, h4.length] at c
      exact ⟨a, b, ws, us, rfl, rfl, h1, h3, c, Po.wrote h rl e h1 (h2.app h4) .non⟩
  · cases vs with
    | cons _ _ => exact rs.elim
    | nil =>
      cases (show RD K g H (.ref _) v from rx) with
      | @ref _ a e =>
        obtain ⟨ys, q, h⟩ := getL_ok h
        obtain ⟨ws, h1, h2⟩ := rl.own e q
        obtain ⟨y, e2, h⟩ := optM_ok h
        obtain ⟨u, e3, ru⟩ := h2.get e2
        rw [h2.length] at e3
        exact ⟨a, ws, u, rfl, rfl, h1, e3, Po.wrote h rl e h1 h2.dropLast ru⟩
  · rename_i k
    obtain ⟨u, rfl, ru⟩ := one_of rs
    cases (show RD K g H (.int k) u from ru)
    cases (show RD K g H (.ref _) v from rx) with
    | @ref _ a e =>
      obtain ⟨ys, q, h⟩ := getL_ok h
      obtain ⟨ws, h1, h2⟩ := rl.own e q
      obtain ⟨is, e2, h⟩ := optM_ok h
      rw [ints_of h2 e2] at h1
      exact ⟨a, is, k, rfl, rfl, SqL.of h1, Po.val h rl (.int _)⟩
  · rename_i k
    obtain ⟨u, rfl, ru⟩ := one_of rs
    cases (show RD K g H (.int k) u from ru)
    cases (show RD K g H (.ref _) v from rx) with
    | @ref _ a e =>
      obtain ⟨ys, q, h⟩ := getL_ok h
      obtain ⟨ws, h1, h2⟩ := rl.own e q
      obtain ⟨⟨c1, c2⟩, h⟩ := chk_ok h
      obtain ⟨y, e2, h⟩ := optM_ok h
      obtain ⟨u, e3, ru⟩ := h2.get e2
      have hl := (List.getElem?_eq_some_iff.mp e3).1
      refine ⟨a, ws, k, k.toNat, u, rfl, rfl, h1, by omega, c2, ?_, e3, Po.wrote h rl e h1 (h2.erase _) ru⟩
      exact seqIndex_of c1 (by omega)
  · rename_i k y
    obtain ⟨u, w, rfl, ru, rw_⟩ := two_of rs
    cases (show RD K g H (.int k) u from ru)
    cases (show RD K g H (.ref _) v from rx) with
    | @ref _ a e =>
      obtain ⟨ys, q, h⟩ := getL_ok h
      obtain ⟨ws, h1, h2⟩ := rl.own e q
      obtain ⟨⟨c0, c1, c2⟩, h⟩ := chk_ok h
      rw [h2.length] at c0
      exact ⟨a, ws, k, w, rfl, rfl, h1, c0, c1, c2, Po.wrote h rl e h1 (((h2.take _).app (.cons rw_ .nil)).app (h2.drop _)) .non⟩
  · obtain ⟨u, rfl, ru⟩ := one_of rs
    obtain ⟨q, hq, _, h⟩ := datR_ok2 rl rx h
    obtain ⟨p, hp, ⟨d1, _⟩, h⟩ := datR_ok2 rl ru h
    cases q with
    | list ps =>
      obtain ⟨⟨c1, c2⟩, h⟩ := chk_ok h
      obtain ⟨j, e, h⟩ := optM_ok h
      obtain ⟨_, z, z1, z2, z3⟩ := firstEq_ok e
      rw [Nat.sub_zero] at z1 z3
      cases hq with
      | lst s hd => exact ⟨_, u, p, ps, j, z, rfl, rfl, .lst s hd, hp, d1, c1, c2, z1, z2, z3, Po.val h rl (.int _)⟩
    | _ => exact (show False from h).elim
  · rename_i z y
    obtain ⟨u, rfl, ru⟩ := one_of rs
    cases (show RD K g H (.str z) v from rx)
    have h' : PoR K W σ H0 g H ((seqR y >>= fun xs => optM (optAll strOf xs) >>= fun ws => chk ((ws.map (·.length)).sum + ws.length * z.length ≤ 16777216) >>= fun _ => pure (R.d (.str (Txt.join z ws))) : M R) m) Q := h
    obtain ⟨a, vs, xs, rfl, hs, r, h'⟩ := seq_ok rl ru h'
    obtain ⟨ws, e, h'⟩ := optM_ok h'
    obtain ⟨c, h'⟩ := chk_ok h'
    rw [strs_of r e] at hs
    refine ⟨z, a, ws, rfl, rfl, ?_, c, Po.val h' rl (.str _)⟩
    rcases hs with hs | ⟨_, hs⟩
    · exact .inl hs
    · exact .inr hs
  · rename_i z
    cases vs with
    | cons _ _ => exact rs.elim
    | nil =>
      cases (show RD K g H (.str z) v from rx)
      obtain ⟨c, h⟩ := chk_ok h
      exact ⟨z, rfl, rfl, c, Po.val h rl (.str _)⟩
  · obtain ⟨u, rfl, ru⟩ := one_of rs
    obtain ⟨ks, q, h⟩ := getT_ok h
    cases (show RD K g H (.ref _) v from rx) with
    | @ref _ a e =>
      obtain ⟨ws, w1, w2⟩ := rl.ownT e q
      obtain ⟨k, rfl, h⟩ := key_ok ru h
      refine ⟨a, _, valV ws k, rfl, rfl, DGet.k w1, ?_⟩
      rcases w2.get (k := k) with ⟨z1, z2⟩ | ⟨d, w, z1, z2, z3⟩
      · rw [z1] at h; rw [z2]; exact Po.val h rl .non
      · rw [z1] at h; rw [z2]; exact Po.val h rl z3
  · rename_i y z
    obtain ⟨u, w, rfl, ru, rw_⟩ := two_of rs
    obtain ⟨ks, q, h⟩ := getT_ok h
    cases (show RD K g H (.ref _) v from rx) with
    | @ref _ a e =>
      obtain ⟨ws, w1, w2⟩ := rl.ownT e q
      obtain ⟨k, rfl, h⟩ := key_ok ru h
      refine ⟨a, _, w, valV ws k, rfl, rfl, DGet.k w1, ?_⟩
      rcases w2.get (k := k) with ⟨z1, z2⟩ | ⟨d, w', z1, z2, z3⟩
      · rw [z1] at h; rw [z2]; exact Po.val h rl rw_
      · rw [z1] at h; rw [z2]; exact Po.val h rl z3
  · rename_i y z
    obtain ⟨u, w, rfl, ru, rw_⟩ := two_of rs
    obtain ⟨ks, q, h⟩ := getT_ok h
    cases (show RD K g H (.ref _) v from rx) with
    | @ref _ a e =>
      obtain ⟨ws, w1, w2⟩ := rl.ownT e q
      obtain ⟨k, rfl, h⟩ := key_ok ru h
      refine ⟨a, k, w, ws, rfl, rfl, w1, fun v' hv => ?_, fun hv => ?_⟩
      · rcases w2.get (k := k) with ⟨z1, z2⟩ | ⟨d, w', z1, z2, z3⟩
        · rw [hv] at z2; cases z2
        · rw [hv] at z2
          cases z2
          rw [z1] at h
          exact Po.wroteT h rl e w1 w2.drop z3
      · rcases w2.get (k := k) with ⟨z1, z2⟩ | ⟨d, w', z1, z2, z3⟩
        · rw [z1] at h
          exact Po.val h rl rw_
        · rw [hv] at z2; cases z2
  · exact (show False from h).elim
theorem RDs.asR {xs : List D} {vs : List V} (h : RDs K g H xs vs) : RRs K H0 g H (xs.map R.d) vs := by
  induction xs generalizing vs with
  | nil => cases h; trivial
  | cons x xs ih =>
    cases h with
    | cons a b => exact ⟨a, ih b⟩
end
/-- a method's arguments -/
theorem a_arg {f : MF} (h1 : PA X es (tDs X.K W fs)) (h2 : PA X es (tRs X.K W frs)) : PA X es (tRs X.K W (argM f.names fs frs)) := by
  cases hb : f.names with
  | false => exact h2
  | true =>
    exact h1.imp fun σ H Q ⟨r, m, g, hs, rl, po⟩ => tM.step hs rl (show Po X.K W σ (repRs X.K) H g H ((fs r >>= fun xs => pure (xs.map R.d)) m) Q from po) (fun _ z => z) fun xs m1 g1 H1 vs e1 rl1 hs1 rx fr1 po1 =>
      Po.ret (rep := repRs X.K) (show Po X.K W σ (repRs X.K) H g1 H1 (.ok (xs.map R.d) m1) Q from po1) rl1 (RDs.asR rx)
theorem few_of {env : PySem.Env} {cpos : Pos} {es : List Expr} (ns : ∀ e ∈ es, NotStar e) (n : es.length < 30) : ((backTo cpos (starEach es env)).all (fun x => !x.1) && (backToKw cpos (keywordEach [] env)).all (fun x => x.1.isSome)
    && decide (es.length + ([] : List Keyword).length + (if ([] : List Keyword).isEmpty then 0 else 1) < 30)) = true := by
  have h1 : ∀ {es : List Expr}, (∀ e ∈ es, NotStar e) → (backTo cpos (starEach es env)).all (fun x => !x.1) = true := by
    intro es
    induction es with
    | nil => intro _; rfl
    | cons e es ih =>
      intro h
      rw [star_of (h e List.mem_cons_self)]
      show (true && (backTo cpos (starEach es env)).all (fun x => !x.1)) = true
      rw [ih fun x hx => h x (List.mem_cons_of_mem _ hx)]
      rfl
  rw [h1 ns, decide_eq_true (show es.length + ([] : List Keyword).length + (if ([] : List Keyword).isEmpty then 0 else 1) < 30 from n)]
  rfl
theorem e_meth {f : MF} {o : Expr} {fo : Env → M R} {apos cpos : Pos} (hu : X.A.units + 64 < cLine) (nc : NotCall o) (hl : (apos.endLine == cpos.line) = true) (ns : ∀ x ∈ e :: es, NotStar x) (n : (e :: es).length < 30) (ho : PE X o (tR X.K W fo)) (hd : PA X (e :: es) (tDs X.K W fs)) (hr : PA X (e :: es) (tRs X.K W frs)) :
    PE X (.Call (.Attribute o f.nm apos) (e :: es) [] cpos) (tR X.K W fun r => do
    let x ← fo r
    okM f x
    let xs ← argM f.names fs frs r
    mfR f x xs) :=
  (pe_bm (plain_mf f) (slot_mf f) (type_mf f) (mt_mf hu f) ho (a_arg hd hr) (base_of nc) (few_of ns n) hl (star_of (ns e List.mem_cons_self)) (plain_of fun x hx => ns x (List.mem_cons_of_mem _ hx))).imp fun σ H Q ⟨r, m, g, hs, rl, po⟩ =>
    tM.step hs rl po (fun _ z => z) fun x m1 g1 H1 v e1 rl1 hs1 rx fr1 po1 => by
      obtain ⟨ty, po1⟩ := okM_ok rl1 rx po1
      refine ⟨ty, ?_⟩
      exact tM.step hs1 rl1 po1 fr1 fun xs m2 g2 H2 vs e2 rl2 hs2 rxs fr2 po2 => mf_ok rl2 (RR.ext e2 rx) rxs po2
theorem e_meth0 {f : MF} {o : Expr} {fo : Env → M R} {apos cpos : Pos} (hu : X.A.units + 64 < cLine) (nc : NotCall o) (hl : (apos.endLine == cpos.line) = true) (ho : PE X o (tR X.K W fo)) : PE X (.Call (.Attribute o f.nm apos) [] [] cpos) (tR X.K W fun r => do
    let x ← fo r
    okM f x
    let xs ← argM f.names (fun _ => pure []) (fun _ => pure []) r
    mfR f x xs) :=
  (pe_bm0 (plain_mf f) (slot_mf f) (type_mf f) (mt_mf hu f) ho (base_of nc) hl).imp fun σ H Q ⟨r, m, g, hs, rl, po⟩ =>
    tM.step hs rl po (fun _ z => z) fun x m1 g1 H1 v e1 rl1 hs1 rx fr1 po1 => by
      obtain ⟨ty, po1⟩ := okM_ok rl1 rx po1
      have po2 : PoR X.K W σ H g1 H1 (mfR f x [] m1) Q := by
        cases hb : f.names <;> (rw [hb] at po1; exact po1)
      exact ⟨ty, mf_ok rl1 rx (show RRs X.K H g1 H1 [] [] from trivial) po2⟩
end
/-! ### isinstance, backwards, displays of dicts -/
theorem bnd_pure {α : Type} (x : M α) (m : Store) : (x >>= pure) m = x m := by
  show M.bnd x M.ret m = x m
  unfold M.bnd
  cases x m <;> rfl
structure TyE (X : Cx) (e : Expr) (t : Ty) : Prop where
  ex : ∃ p, e = .Name (t.nm : Str) p
  gl : Gl X (t.nm : Str)
  mg : X.mg (t.nm : Str) = none
theorem boot_ty : ∀ t : Ty, bootBuiltins (t.nm : Str) = some (.type t.nm)
  | .int => by decide +kernel
  | .bool => by decide +kernel
  | .str => by decide +kernel
  | .tuple => by decide +kernel
  | .list => by decide +kernel
  | .dict => by decide +kernel
section
variable {X : Cx} {W : WG} {e : Expr} {es : List Expr} {fe : Env → M R} {fs : Env → M (List D)} {pos : Pos}
theorem pe_ty {t : Ty} (h : TyE X e t) : PE X e (tC (.ty t.nm)) := by
  obtain ⟨p, rfl⟩ := h.ex
  exact pe_bltn h.gl h.mg (boot_ty t) rfl (by cases t <;> decide) (by cases t <;> decide)
theorem TyE.star {t : Ty} (h : TyE X e t) : NotStar e := by
  obtain ⟨p, rfl⟩ := h.ex
  trivial
inductive TyEs (X : Cx) : List Expr → List Ty → Prop
  | nil : TyEs X [] []
  | cons {e : Expr} {t : Ty} {es : List Expr} {ts : List Ty} : TyE X e t → TyEs X es ts → TyEs X (e :: es) (t :: ts)
theorem TyEs.stars {ts : List Ty} (h : TyEs X es ts) : ∀ e ∈ es, NotStar e := by
  induction h with
  | nil => intro e h; cases h
  | cons a _ ih =>
    intro e h
    rcases List.mem_cons.mp h with rfl | h
    · exact a.star
    · exact ih e h
theorem pa_tys {ts : List Ty} (h : TyEs X es ts) : PA X es (fun _ H Q => Q (ts.map fun c => .ty c.nm) H) := by
  induction h with
  | nil => exact pa_nil.imp fun σ H Q q => q
  | cons a b ih => exact (pa_cons (pe_ty a) ih (star_of a.star)).imp fun σ H Q q => q
theorem paired_tys : ∀ ts : List Ty, Paired ClsV (ts.map fun c => V.ty c.nm) (ts.map fun c => Value.type c.nm)
  | [] => .nil
  | _ :: ts => .cons (.ty _) (paired_tys ts)
theorem e_isi1 {p : Pos} {et : Expr} {t : Ty} (hg : Gl X "isinstance") (hm : X.mg "isinstance" = none) (ht : TyE X et t) (ns : NotStar e) (he : PE X e (tR X.K W fe)) :
    PE X (.Call (.Name "isinstance" p) [e, et] [] pos) (tR X.K W fun r => do
      let x ← fe r
      isiR [t] x) :=
  (pe_callB call_isi hg hm (by decide +kernel) (pa_cons he (pa_cons (pe_ty ht) pa_nil (star_of ht.star)) (star_of ns)) (by decide) (by decide) (star_of ns) (plain_of fun y hy => by cases List.mem_singleton.mp hy; exact ht.star)).imp fun σ H Q ⟨r, m, g, hs, rl, po⟩ =>
    tM.step hs rl po (fun _ z => z) fun x m1 g1 H1 v e1 rl1 hs1 rx fr1 po1 => by
      rw [← bnd_pure (isiR [t] x)] at po1
      obtain ⟨T, b, ty, hb, po1⟩ := tyX_ok rl1 rx po1
      refine ⟨v, .ty t.nm, .type T, .type t.nm, b t, rfl, .ty _, ty, kit_tys (hb t), ?_⟩
      rw [List.any_cons, List.any_nil, Bool.or_false] at po1
      exact Po.val po1 rl1 (.bl _)
theorem e_isiT {p p2 : Pos} {k : Nat} {ts : List Ty} (hg : Gl X "isinstance") (hm : X.mg "isinstance" = none) (ht : TyEs X es ts) (hn : ts.length ≤ sizeLine) (ns : NotStar e) (he : PE X e (tR X.K W fe)) :
    PE X (.Call (.Name "isinstance" p) [e, .Tuple es k p2] [] pos) (tR X.K W fun r => do
      let x ← fe r
      isiR ts x) :=
  (pe_callB call_isiT hg hm (by decide +kernel) (pa_cons he (pa_cons (pe_tup (pa_tys ht)) pa_nil (star_of (show NotStar (.Tuple es k p2) from trivial))) (star_of ns)) (by decide) (by decide) (star_of ns) (plain_of fun y hy => by cases List.mem_singleton.mp hy; trivial)).imp fun σ H Q ⟨r, m, g, hs, rl, po⟩ =>
    tM.step hs rl po (fun _ z => z) fun x m1 g1 H1 v e1 rl1 hs1 rx fr1 po1 => by
      refine ⟨by rw [List.length_map]; exact hn, fun T hT => ?_⟩
      have ex := Ext.new (g := g1) (o := .tup (ts.map fun c => V.ty c.nm)) hT
      have po2 := Po.later ex po1
      rw [← bnd_pure (isiR ts x)] at po2
      obtain ⟨t, b, ty, hb, po2⟩ := tyX_ok (rl1.new hT) (RR.ext ex rx) po2
      exact ⟨v, T, _, .type t, _, ts.any b, rfl, upd_same, paired_tys ts, ty, kitAny_ty hb ts, Po.val po2 (rl1.new hT) (.bl _)⟩
theorem RDs.reverse {K : Fg} {g : List Addr} {H : Hp} {xs : List D} {vs : List V} (h : RDs K g H xs vs) : RDs K g H xs.reverse vs.reverse := by
  induction xs generalizing vs with
  | nil => cases h; exact .nil
  | cons x xs ih =>
    cases h with
    | cons a b =>
      rw [List.reverse_cons, List.reverse_cons]
      exact (ih b).app (.cons a .nil)
theorem e_rev {k : Nat} {p1 p2 p3 : Pos} (he : PE X e (tR X.K W fe)) : PE X (.Subscript e (.Slice none none (some (.UnaryOp .USub (.Constant (.int 1) k p1) p2)) p3) pos) (tR X.K W fun r => do
    let x ← fe r
    revR x) :=
  (pe_rev he).imp fun σ H Q ⟨r, m, g, hs, rl, po⟩ =>
    tM.step hs rl po (fun _ z => z) fun x m1 g1 H1 v e1 rl1 hs1 rx fr1 po1 => by
      unfold revR at po1
      split at po1
      · rename_i xs
        cases (show RD X.K g1 H1 (.tup xs) v from rx) with
        | tup hs2 r2 => exact ⟨_, _, rfl, .inr ⟨hs2, fun p hp => Po.newT po1 rl1 r2.reverse hp⟩⟩
      · obtain ⟨a, vs, xs, rfl, hs2, r2, po1⟩ := list_ok rl1 rx po1
        exact ⟨a, vs, rfl, .inl ⟨hs2, fun p hp => Po.newL po1 rl1 fr1 r2.reverse hp⟩⟩
/-- a written key -/
structure KeyE (X : Cx) (e : Expr) (k : Key) : Prop where
  run : PE X e (tC (kV k))
inductive KeyEs (X : Cx) : List (Option Expr) → List Key → Prop
  | nil : KeyEs X [] []
  | cons {e : Expr} {k : Key} {es : List (Option Expr)} {ks : List Key} : KeyE X e k → KeyEs X es ks → KeyEs X (some e :: es) (k :: ks)
/-- the pairs' readings -/
def trsOf (K : Fg) (W : WG) : List Key → List (Env → M R) → List (TE × TE)
  | k :: ks, f :: fs => (tC (kV k), tD K W (upM f)) :: trsOf K W ks fs
  | _, _ => []
def allD : List (Env → M R) → Env → M (List D)
  | [], _ => pure []
  | f :: fs, r => do
    let x ← upM f r
    let xs ← allD fs r
    return x :: xs
inductive ValEs (X : Cx) (W : WG) : List Expr → List (Env → M R) → Prop
  | nil : ValEs X W [] []
  | cons {e : Expr} {f : Env → M R} {es : List Expr} {fs : List (Env → M R)} : PE X e (tR X.K W f) → ValEs X W es fs → ValEs X W (e :: es) (f :: fs)
theorem ValEs.length {fs : List (Env → M R)} (h : ValEs X W es fs) : es.length = fs.length := by
  induction h with
  | nil => rfl
  | cons _ _ ih => simp [ih]
theorem KeyEs.length {ks : List (Option Expr)} {js : List Key} (h : KeyEs X ks js) : ks.length = js.length := by
  induction h with
  | nil => rfl
  | cons _ _ ih => simp [ih]
theorem KeyEs.some_ {ks : List (Option Expr)} {js : List Key} (h : KeyEs X ks js) : ks.all (·.isSome) = true := by
  induction h with
  | nil => rfl
  | cons _ _ ih => simp [ih]
theorem pps_of {ks : List (Option Expr)} {js : List Key} {fs : List (Env → M R)} (hk : KeyEs X ks js) (hv : ValEs X W es fs) (hl : ks.length = es.length) : PPs X pos ks es (trsOf X.K W js fs) := by
  induction hk generalizing es fs with
  | nil =>
    cases hv with
    | nil => exact pps_nil
    | cons _ _ => simp at hl
  | cons a b ih =>
    cases hv with
    | nil => simp at hl
    | cons c d => exact pps_cons a.run (e_up c) (ih d (by simpa using hl))
/-- a step, told from the start -/
theorem Po.bndE {α β γ δ : Type} {K : Fg} {σ : L2.St} {rep : Rep α β} {rep' : Rep γ δ} {H0 H1 : Hp} {gI g : List Addr} {HI H : Hp} {Q : β → Hp → Prop} {Q' : δ → Hp → Prop} {m : Store} {x : M γ} {f : γ → M α} (h : Po K W σ rep H0 gI HI ((x >>= f) m) Q) (ex : Ext gI HI g H)
    (k : ∀ a m1 g1 H2 v, Ext g H g1 H2 → Rel K g1 m1 H2 → rep' H1 g1 H2 a v → Po K W σ rep H0 gI HI (f a m1) Q → Q' v H2) : Po K W σ rep' H1 g H (x m) Q' := by
  have h' : Po K W σ rep H0 gI HI (M.bnd x f m) Q := h
  unfold M.bnd at h'
  cases e : x m with
  | ok a m1 =>
    rw [e] at h'
    exact fun g1 H1 v e1 rl rp => k a m1 g1 H1 v e1 rl rp h'
  | err y m1 =>
    rw [e] at h'
    exact fun g1 H1 c d e1 rl ea nw => h' g1 H1 c d (ex.trans e1) rl ea fun b z => ex.free b (nw b z)
  | stuck => rw [e] at h'; exact h'.elim
theorem pairs_ok {K : Fg} {σ : L2.St} {r : Env} {α β : Type} {rep : Rep α β} {H0 : Hp} {Q' : β → Hp → Prop} {gI : List Addr} {HI : Hp} : ∀ {js : List Key} {fs : List (Env → M R)} {k : List D → M α} {m : Store} {g : List Addr} {H : Hp} {Q : List (V × V) → Hp → Prop}, js.length = fs.length → RS K W.g g H r σ → Rel K g m H → Ext gI HI g H → Po K W σ rep H0 gI HI ((allD fs r >>= k) m) Q' →
    (∀ xs m1 g1 H1 vs, xs.length = js.length → Ext g H g1 H1 → Rel K g1 m1 H1 → RDs K g1 H1 xs vs → Po K W σ rep H0 gI HI (k xs m1) Q' → Q (js.zipWith (fun j v => (kV j, v)) vs) H1) → tPairs (trsOf K W js fs) σ H Q
  | [], [], k, m, g, H, Q, _, hs, rl, _, po, go => go [] m g H [] rfl (Ext.refl _ _) rl .nil po
  | [], _ :: _, _, _, _, _, _, hl, _, _, _, _, _ => by simp at hl
  | _ :: _, [], _, _, _, _, _, hl, _, _, _, _, _ => by simp at hl
  | j :: js, f :: fs, k, m, g, H, Q, hl, hs, rl, ex, po, go => by
    show tD K W (upM f) σ H fun y H2 => tPairs (trsOf K W js fs) σ H2 fun ps H3 => Q ((kV j, y) :: ps) H3
    have po' : Po K W σ rep H0 gI HI ((upM f r >>= fun x => (allD fs r >>= fun xs => k (x :: xs))) m) Q' := by
      have e : (allD (f :: fs) r >>= k) m = (upM f r >>= fun x => (allD fs r >>= fun xs => k (x :: xs))) m := by
        show M.bnd (M.bnd (upM f r) fun x => M.bnd (allD fs r) fun xs => M.ret (x :: xs)) k m = M.bnd (upM f r) (fun x => M.bnd (allD fs r) fun xs => k (x :: xs)) m
        unfold M.bnd
        cases upM f r m with
        | ok x m1 => simp only; cases allD fs r m1 <;> rfl
        | err _ _ => rfl
        | stuck => rfl
      rw [← e]; exact po
    refine ⟨r, m, g, hs, rl, Po.bndE (rep' := repD K) po' ex fun x m1 g1 H1 v e1 rl1 rx po1 => ?_⟩
    refine pairs_ok (by simpa using hl) (hs.ext e1) rl1 (ex.trans e1) po1 fun xs m2 g2 H2 vs hx e2 rl2 rxs po2 => ?_
    exact go (x :: xs) m2 g2 H2 (v :: vs) (by simp [hx]) (e1.trans e2) rl2 (.cons (RD.ext e2 rx) rxs) po2
theorem zip_put : ∀ {ks : List Key} {xs : List D} {acc : List (Key × D)}, ks.length = xs.length → ks.Nodup → (∀ k ∈ ks, k ∉ acc.map (·.1)) → mergeD acc (ks.zip xs) = acc ++ ks.zip xs
  | [], _, acc, _, _, _ => by simp [mergeD]
  | k :: ks, [], acc, hl, _, _ => by simp at hl
  | k :: ks, x :: xs, acc, hl, nd, hn => by
    have hk := hn k List.mem_cons_self
    have e : putD acc k x = acc ++ [(k, x)] := by
      unfold putD
      rw [if_neg]
      intro h
      obtain ⟨p, hp, hq⟩ := List.any_eq_true.mp h
      exact hk (List.mem_map.mpr ⟨p, hp, of_decide_eq_true hq⟩)
    have nd' := List.nodup_cons.mp nd
    show mergeD (putD acc k x) (ks.zip xs) = _
    rw [e, zip_put (by simpa using hl) nd'.2 fun j hj => ?_]
    · simp
    · rw [List.map_append, List.mem_append]
      rintro (z | z)
      · exact hn j (List.mem_cons_of_mem _ hj) z
      · have : j = k := by simpa using z
        subst this
        exact nd'.1 hj
theorem zip_rel {K : Fg} {g : List Addr} {H : Hp} : ∀ {js : List Key} {xs : List D} {vs : List V}, js.length = xs.length → RDs K g H xs vs → RKs K g H (js.zip xs) (js.zip vs) ∧ js.zipWith (fun j v => (kV j, v)) vs = (js.zip vs).map (fun kv => (kV kv.1, kv.2))
  | [], _, _, _, _ => ⟨.nil, rfl⟩
  | _ :: _, [], _, hl, _ => by simp at hl
  | j :: js, x :: xs, _, hl, .cons a b => by
    obtain ⟨h1, h2⟩ := zip_rel (js := js) (by simpa using hl) b
    exact ⟨.cons a h1, by simp [h2]⟩
theorem e_dct {ks : List (Option Expr)} {js : List Key} {fs : List (Env → M R)} (hk : KeyEs X ks js) (hv : ValEs X W es fs) (hl : ks.length = es.length) (h0 : ks ≠ []) (h15 : ks.length ≤ 15) : PE X (.Dict ks es pos) (tR X.K W fun r => do
    let xs ← allD fs r
    chk (xs.length = js.length ∧ js.length ≤ 15 ∧ js.Nodup)
    return .d (.ref (← newT (js.zip xs)))) :=
  (pe_disp (pps_of hk hv hl) hk.some_ hl h0 h15).imp fun σ H Q ⟨r, m, g, hs, rl, po⟩ p hp => by
    have ex0 : Ext g H g (upd H p (.dK [])) := Ext.new hp
    have hpg := rl.notIn hp
    have jl : js.length = fs.length := by rw [← hk.length, hl, hv.length]
    refine pairs_ok jl (hs.ext ex0) (rl.new hp) ex0 po fun xs m1 g1 H1 vs hx e1 rl1 rxs po1 => ?_
    have h1 : H1 p = some (.dK []) := e1.keep p _ upd_same fun z => absurd z hpg
    have hp1 : p ∉ g1 := e1.notIn upd_same hpg
    obtain ⟨⟨c1, c2, c3⟩, po1⟩ := chk_ok po1
    obtain ⟨rk, ez⟩ := zip_rel (js := js) c1.symm rxs
    have rl2 : Rel X.K (g1 ++ [p]) (m1 ++ [.dct []]) H1 := rl1.add (c0 := .dct []) ⟨[], h1, .nil⟩ hp1
    have hat : (g1 ++ [p])[m1.length]? = some p := by
      rw [← rl1.len, List.getElem?_append_right (Nat.le_refl _)]
      simp
    obtain ⟨ex2, rl3⟩ := rl2.writeT (h := m1.length) (xs := mergeD [] (js.zip xs)) (ws := mergeK [] (js.zip vs)) hat h1 (RKs.merge ⟨rk.1, rk.2.grow⟩ .nil)
    have hw : (js.zip vs).length ≤ 15 := by rw [List.length_zip]; omega
    refine ⟨h1, js.zip vs, ez, hw, ?_⟩
    have em : (m1 ++ [Cell.dct []]).set m1.length (.dct (mergeD [] (js.zip xs))) = m1 ++ [.dct (js.zip xs)] := by
      rw [zip_put c1.symm c3 (by simp)]
      simp
    rw [em] at rl3
    have po2 : PoR X.K W σ H g H (.ok (.d (.ref m1.length)) (m1 ++ [.dct (js.zip xs)])) Q := po1
    -- where it ends, told from the start
    have exF : Ext g H (g1 ++ [p]) (upd H1 p (.dK (mergeK [] (js.zip vs)))) := by
      obtain ⟨l, el, nl⟩ := e1.pre
      refine ⟨⟨l ++ [p], by rw [el, List.append_assoc], fun x hx => ?_⟩, fun b o q c => ?_, fun b q => ?_⟩
      · rcases List.mem_append.mp hx with z | z
        · have := nl x z
          by_cases hb : x = p
          · rw [hb]; exact hp
          · rw [upd_ne hb] at this; exact this
        · have : x = p := by simpa using z
          rw [this]; exact hp
      · have hb : b ≠ p := ne_of_none q hp
        rw [upd_ne hb]
        exact e1.keep b o (by rw [upd_ne hb]; exact q) c
      · have hb : b ≠ p := fun e => by rw [e, upd_same] at q; cases q
        rw [upd_ne hb] at q
        have := e1.free b q
        rw [upd_ne hb] at this
        exact this
    exact po2 _ _ (.ref p) exF rl3 (.ref hat)
end
end Pf

/-! Pf7: targets, what is walked, comprehensions. -/
namespace Pf
open PySem L2
/-! ### targets -/
def T.slots : T → List Nat
  | .name i => [i]
  | .tup is => is
/-- a target's reading -/
structure TgOk (K : Fg) (t : T) (tg : TG) : Prop where
  run : ∀ {g : List Addr} {H : Hp} {r r' : Env} {σ : St} {x : D} {v : V} {m m' : Store} {Q : St → Hp → Prop}, RS K none g H r σ → RD K g H x v → asgT t x r m = .ok r' m' →
    (∀ σ', RS K none g H r' σ' → (∀ vs : List Nat, (∀ i ∈ t.slots, i ∈ vs) → wipe σ' vs = wipe σ vs) → Q σ' H) → tg v σ H Q
theorem asgT_mem {t : T} {x : D} {r r' : Env} {m m' : Store} (h : asgT t x r m = .ok r' m') : m' = m := by
  cases t with
  | name i => cases h; rfl
  | tup is =>
    cases x with
    | tup xs =>
      obtain ⟨u, m1, h1, h2⟩ := bnd_inv h
      unfold chk at h1
      split at h1
      · cases h1
        cases h2
        rfl
      · cases h1
    | _ => cases (show Res.stuck = _ from h)
theorem asgT_noerr {t : T} {x : D} {r : Env} {m m' : Store} {e : Exc} : asgT t x r m ≠ .err e m' := by
  intro h
  cases t with
  | name i => cases h
  | tup is =>
    cases x with
    | tup xs =>
      have h' : (M.bnd (chk (xs.length = is.length)) fun _ => M.ret (setAll is xs r)) m = .err e m' := h
      unfold M.bnd chk at h'
      split at h' <;> rename_i q <;> (split at q <;> cases q) <;> cases h'
    | _ => cases (show Res.stuck = _ from h)
theorem wipe_set {σ : St} {i : Nat} {v : Option V} : ∀ {vs : List Nat}, i ∈ vs → wipe (σ.set i v) vs = wipe σ vs
  | [], h => by simp at h
  | w :: vs, h => by
    unfold L2.wipe
    by_cases e : i ∈ vs
    · rw [wipe_set e]
    · have : i = w := by
        rcases List.mem_cons.mp h with z | z
        · exact z
        · exact absurd z e
      subst this
      have go : ∀ {vs : List Nat} {σ : St}, i ∉ vs → wipe (σ.set i v) vs = (wipe σ vs).set i v := by
        intro vs
        induction vs with
        | nil => intro σ _; rfl
        | cons u us ih =>
          intro σ hu
          have hne : u ≠ i := fun z => hu (by rw [z]; exact List.mem_cons_self)
          unfold L2.wipe
          rw [ih fun z => hu (List.mem_cons_of_mem _ z)]
          exact List.set_comm _ _ hne.symm
      rw [go e, List.set_set]
theorem tg_name {K : Fg} (i : Nat) : TgOk K (.name i) (gName i) := ⟨fun {g H r r' σ x v m m' Q} hs rx h k => by
  cases h
  exact k _ (hs.set rx) fun vs hv => wipe_set (hv i (by simp [T.slots]))⟩
/-- the names of a tuple target -/
def gNames : List Nat → TGs
  | [] => gNil
  | i :: is => gCons (gName i) (gNames is)
theorem names_ok {K : Fg} {g : List Addr} {H : Hp} {Q : St → Hp → Prop} : ∀ {is : List Nat} {xs : List D} {vs : List V} {r : Env} {σ σ0 : St}, RS K none g H r σ → RDs K g H xs vs → xs.length = is.length → (∀ ws : List Nat, (∀ i ∈ is, i ∈ ws) → wipe σ ws = wipe σ0 ws) →
    (∀ σ', RS K none g H (setAll is xs r) σ' → (∀ ws : List Nat, (∀ i ∈ is, i ∈ ws) → wipe σ' ws = wipe σ0 ws) → Q σ' H) → gNames is vs σ H Q := by
  intro is
  induction is with
  | nil =>
    intro xs vs r σ σ0 hs rx hl hw k
    cases rx with
    | nil => exact ⟨rfl, k σ hs hw⟩
    | cons _ _ => simp at hl
  | cons i is ih =>
    intro xs vs r σ σ0 hs rx hl hw k
    cases rx with
    | nil => simp at hl
    | @cons x xs v vs r1 r2 =>
      refine ⟨v, vs, rfl, ?_⟩
      show gNames is vs (σ.set i (some v)) H Q
      have go : ∀ {is : List Nat} {xs : List D} {vs : List V} {r : Env} {σ : St} {J : List Nat}, (∀ j ∈ is, j ∈ J) → RS K none g H r σ → RDs K g H xs vs → xs.length = is.length → (∀ ws : List Nat, (∀ i ∈ J, i ∈ ws) → wipe σ ws = wipe σ0 ws) →
          (∀ σ', RS K none g H (setAll is xs r) σ' → (∀ ws : List Nat, (∀ i ∈ J, i ∈ ws) → wipe σ' ws = wipe σ0 ws) → Q σ' H) → gNames is vs σ H Q := by
        intro is
        induction is with
        | nil =>
          intro xs vs r σ J sub hs rx hl hw k
          cases rx with
          | nil => exact ⟨rfl, k σ hs hw⟩
          | cons _ _ => simp at hl
        | cons i is ih2 =>
          intro xs vs r σ J sub hs rx hl hw k
          cases rx with
          | nil => simp at hl
          | @cons x xs v vs r1 r2 =>
            refine ⟨v, vs, rfl, ?_⟩
            show gNames is vs (σ.set i (some v)) H Q
            refine ih2 (J := J) (fun j hj => sub j (List.mem_cons_of_mem _ hj)) (hs.set r1) r2 (by simpa using hl) (fun ws hws => ?_) k
            rw [wipe_set (hws i (sub i List.mem_cons_self))]
            exact hw ws hws
      refine go (J := i :: is) (fun j hj => List.mem_cons_of_mem _ hj) (hs.set r1) r2 (by simpa using hl) (fun ws hws => ?_) k
      rw [wipe_set (hws i List.mem_cons_self)]
      exact hw ws hws
theorem tg_tup {K : Fg} (is : List Nat) : TgOk K (.tup is) (gTup K is.length (gNames is)) := ⟨fun {g H r r' σ x v m m' Q} hs rx h k => by
  cases x with
  | tup xs =>
    obtain ⟨u, m1, h1, h2⟩ := bnd_inv h
    unfold chk at h1
    split at h1
    · rename_i hl
      cases h1
      cases h2
      cases rx with
      | @tup a _ vs s rr => exact ⟨a, vs, rfl, s, by rw [← rr.length]; exact hl, names_ok (σ0 := σ) hs rr hl (fun _ _ => rfl) k⟩
    · cases h1
  | _ => cases (show Res.stuck = _ from h)⟩

/-! ### what is walked -/
/-- the lists at these handles hold these things -/
def Stand (m : Store) (hs : List (Nat × List D)) : Prop := ∀ p ∈ hs, ∃ c, m[p.1]? = some c ∧ c.isL = true ∧ c.items = p.2
theorem chkAll_ok : ∀ {hs : List (Nat × List D)} {m m' : Store} {u : Unit}, chkAll hs m = .ok u m' → m' = m ∧ Stand m hs
  | [], m, m', u, h => by
    cases h
    exact ⟨rfl, fun p hp => by simp at hp⟩
  | (k, xs) :: hs, m, m', u, h => by
    have h' : (getC k >>= fun c => chk (c.items = xs) >>= fun _ => chkAll hs) m = .ok u m' := h
    obtain ⟨c, m1, h1, h2⟩ := bnd_inv h'
    obtain ⟨w, m2, h3, h4⟩ := bnd_inv h2
    unfold getC at h1
    cases e : m[k]? with
    | none => rw [e] at h1; cases h1
    | some c' =>
      rw [e] at h1
      cases hl : c'.isL with
      | false => simp only [hl] at h1; cases h1
      | true =>
      simp only [hl, if_true] at h1
      cases h1
      unfold chk at h3
      split at h3
      · rename_i q
        cases h3
        obtain ⟨e1, st⟩ := chkAll_ok h4
        refine ⟨e1, fun p hp => ?_⟩
        rcases List.mem_cons.mp hp with z | z
        · rw [z]; exact ⟨c, e, hl, q⟩
        · exact st p z
      · cases h3
theorem chkAll_noerr : ∀ {hs : List (Nat × List D)} {m m' : Store} {e : Exc}, chkAll hs m ≠ .err e m'
  | [], m, m', e => fun h => by cases h
  | (k, xs) :: hs, m, m', e => fun h => by
    have h' : M.bnd (getC k) (fun c => M.bnd (chk (c.items = xs)) fun _ => chkAll hs) m = .err e m' := h
    unfold M.bnd getC chk at h'
    cases e1 : m[k]? with
    | none => rw [e1] at h'; cases h'
    | some c =>
      rw [e1] at h'
      cases hl : c.isL with
      | false => simp only [hl] at h'; cases h'
      | true =>
      simp only [hl, if_true] at h'
      split at h'
      · rename_i q
        split at q <;> cases q
        exact chkAll_noerr h'
      · rename_i q
        split at q <;> cases q
      · cases h'
/-- how a walk goes on -/
def ItOk (K : Fg) (g0 : List Addr) (H0 : Hp) (J : It) (xs : List D) (hs : List (Nat × List D)) : Prop :=
  ∀ g m H, Ext g0 H0 g H → Rel K g m H → Stand m hs → (∀ i, xs.length ≤ i → J.stop i H) ∧ (∀ i x, xs[i]? = some x → J.go i H ∧ ∀ v H', J.yld i H v H' → Ext g H g H' ∧ Rel K g m H' ∧ RD K g H' x v)
def repI (K : Fg) : Rep (List D × List (Nat × List D)) It := fun _ g H p J => ItOk K g H J p.1 p.2
abbrev tI (K : Fg) (W : WG) (f : Env → M (List D × List (Nat × List D))) : TI := tM K W (repI K) f
theorem _root_.L2.PI.imp {X : Cx} {tg e : Expr} {t t' : TI} (h : PI X tg e t) (k : ∀ σ H Q, t' σ H Q → t σ H Q) : PI X tg e t' := ⟨fun pins s σ H Q I q => h.run pins s σ H Q I (k σ H Q q)⟩
theorem _root_.L2.PI.or {X : Cx} {tg e : Expr} {t t' : TI} (h : PI X tg e t) (h' : PI X tg e t') : PI X tg e (fun σ H R => t σ H R ∨ t' σ H R) :=
  ⟨fun pins s σ H Q I q => q.elim (h.run pins s σ H Q I) (h'.run pins s σ H Q I)⟩
section
variable {K : Fg} {g : List Addr} {H : Hp}
theorem itok_tup {a : Addr} {xs : List D} {vs : List V} (s : SqT K H a vs) (r : RDs K g H xs vs) : ItOk K g H (Itt K a) xs [] := fun g' m' H' e rl _ => by
  have s' : SqT K H' a vs := SqT.ext e s
  have r' := r.ext e
  refine ⟨fun i hi => ⟨vs, s', by rw [← r'.length]; exact hi⟩, fun i x hx => ?_⟩
  obtain ⟨v, hv, rv⟩ := r'.get hx
  refine ⟨⟨vs, v, s', hv⟩, fun w H2 ⟨e2, q⟩ => ?_⟩
  subst e2
  have := q vs s'
  rw [hv] at this
  cases this
  exact ⟨Ext.refl _ _, rl, rv⟩
theorem itok_lst {a : Addr} {xs : List D} {hs : List (Nat × List D)} (k : ∀ g' m' H', Ext g H g' H' → Rel K g' m' H' → Stand m' hs → ∃ vs, SqL K H' a vs ∧ RDs K g' H' xs vs) : ItOk K g H (Itl K a) xs hs := fun g' m' H' e rl st => by
  obtain ⟨vs, s', r'⟩ := k g' m' H' e rl st
  refine ⟨fun i hi => ⟨vs, s', by rw [← r'.length]; exact hi⟩, fun i x hx => ?_⟩
  obtain ⟨v, hv, rv⟩ := r'.get hx
  refine ⟨⟨vs, v, s', hv⟩, fun w H2 ⟨e2, q⟩ => ?_⟩
  subst e2
  have := q vs s'
  rw [hv] at this
  cases this
  exact ⟨Ext.refl _ _, rl, rv⟩
theorem itok_revL {a : Addr} {xs : List D} {vs0 : List V} {hs : List (Nat × List D)} (hl : vs0.length = xs.length) (k : ∀ g' m' H', Ext g H g' H' → Rel K g' m' H' → Stand m' hs → ∃ vs, SqL K H' a vs ∧ RDs K g' H' xs vs) : ItOk K g H (Itv K a vs0.length) xs.reverse hs := fun g' m' H' e rl st => by
  obtain ⟨vs, s', r'⟩ := k g' m' H' e rl st
  refine ⟨fun i hi => ?_, fun i x hx => ?_⟩
  · show vs0.length ≤ i
    rw [hl]
    simpa using hi
  have hi : i < xs.length := by
    have := (List.getElem?_eq_some_iff.mp hx).1
    simpa using this
  rw [List.getElem?_reverse hi] at hx
  obtain ⟨v, hv, rv⟩ := r'.get hx
  rw [← hl] at hv
  refine ⟨⟨by omega, vs, v, s', hv⟩, fun w H2 ⟨e2, q⟩ => ?_⟩
  subst e2
  have := q vs s'
  rw [hv] at this
  cases this
  exact ⟨Ext.refl _ _, rl, rv⟩
theorem itok_revT {a : Addr} {xs : List D} {vs : List V} (s : SqT K H a vs) (r : RDs K g H xs vs) : ItOk K g H (RT.ItvT K a vs.length) xs.reverse [] := fun g' m' H' e rl _ => by
  have s' : SqT K H' a vs := SqT.ext e s
  have r' := r.ext e
  have hl := r'.length
  refine ⟨fun i hi => ?_, fun i x hx => ?_⟩
  · show vs.length ≤ i
    simp at hi
    omega
  have hi : i < xs.length := by
    have := (List.getElem?_eq_some_iff.mp hx).1
    simpa using this
  rw [List.getElem?_reverse hi] at hx
  obtain ⟨v, hv, rv⟩ := r'.get hx
  have hv : vs[vs.length - 1 - i]? = some v := by
    rw [← hv]
    congr 1
    omega
  refine ⟨⟨by omega, vs, v, s', hv⟩, fun w H2 ⟨e2, q⟩ => ?_⟩
  subst e2
  have := q vs s'
  rw [hv] at this
  cases this
  exact ⟨Ext.refl _ _, rl, rv⟩
theorem itok_revR {n : Nat} {hs : List (Nat × List D)} : ItOk K g H (Itc (0 + ((n : Nat) : Int) - 1) (-1) n) (upto 0 n).reverse hs := fun g' m' H' e rl st => by
  have hl : (upto 0 n).length = n := by unfold upto; rw [List.length_map, List.length_range]
  refine ⟨fun i hi => by show n ≤ i; rw [List.length_reverse, hl] at hi; exact hi, fun i y hy => ?_⟩
  have hi : i < n := by
    have := (List.getElem?_eq_some_iff.mp hy).1
    rw [List.length_reverse, hl] at this
    exact this
  refine ⟨hi, fun w H2 ⟨e2, q⟩ => ?_⟩
  subst e2 q
  refine ⟨Ext.refl _ _, rl, ?_⟩
  rw [List.getElem?_reverse (by rw [hl]; exact hi), hl] at hy
  unfold upto at hy
  rw [List.getElem?_map, List.getElem?_range (by omega)] at hy
  cases hy
  have e : (0 : Int) + ((n - 1 - i : Nat) : Int) = 0 + (n : Int) - 1 + (i : Int) * (-1) := by omega
  show RD K g' H2 (.int ((0 : Int) + ((n - 1 - i : Nat) : Int))) (V.int (0 + (n : Int) - 1 + (i : Int) * (-1)))
  rw [e]
  exact .int _
theorem itok_str {x : Str} {hs : List (Nat × List D)} : ItOk K g H (Its x) (signs x) hs := fun g' m' H' e rl st => by
  have hl : (signs x).length = x.cps.size := by unfold signs; rw [List.length_map, Array.length_toList]
  refine ⟨fun i hi => by show x.cps.size ≤ i; rw [← hl]; exact hi, fun i y hy => ⟨?_, fun w H2 ⟨e2, c, hc, q⟩ => ?_⟩⟩
  · show i < x.cps.size
    rw [← hl]
    exact (List.getElem?_eq_some_iff.mp hy).1
  · subst e2 q
    refine ⟨Ext.refl _ _, rl, ?_⟩
    unfold signs at hy
    rw [List.getElem?_map, Array.getElem?_toList, hc] at hy
    cases hy
    exact .str _
theorem itok_range {lo : Int} {n : Nat} {hs : List (Nat × List D)} : ItOk K g H (Itr lo n) (upto lo n) hs := fun g' m' H' e rl st => by
  have hl : (upto lo n).length = n := by unfold upto; rw [List.length_map, List.length_range]
  refine ⟨fun i hi => by show n ≤ i; rw [← hl]; exact hi, fun i y hy => ⟨?_, fun w H2 ⟨e2, q⟩ => ?_⟩⟩
  · show i < n
    rw [← hl]
    exact (List.getElem?_eq_some_iff.mp hy).1
  · subst e2 q
    refine ⟨Ext.refl _ _, rl, ?_⟩
    have hi : i < n := by
      rw [← hl]
      exact (List.getElem?_eq_some_iff.mp hy).1
    unfold upto at hy
    rw [List.getElem?_map, List.getElem?_range hi] at hy
    cases hy
    exact .int _
/-- a pair just laid -/
theorem pair_new {m : Store} {T : Addr} {x y : D} {u v : V} (rl : Rel K g m H) (hT : H T = none) (rx : RD K g H x u) (ry : RD K g H y v) : Ext g H g (upd H T (.tup [u, v])) ∧ Rel K g m (upd H T (.tup [u, v])) ∧ RD K g (upd H T (.tup [u, v])) (.tup [x, y]) (.ref T) :=
  ⟨Ext.new hT, rl.new hT, .tup (SqT.of upd_same) (.cons (rx.ext (Ext.new hT)) (.cons (ry.ext (Ext.new hT)) .nil))⟩
theorem enumD_len (xs : List D) : (enumD xs).length = xs.length := by unfold enumD; rw [List.length_map, List.length_zipIdx]
theorem enumD_at {xs : List D} {i : Nat} {y : D} (h : (enumD xs)[i]? = some y) : ∃ x, xs[i]? = some x ∧ y = .tup [.int (i : Int), x] := by
  unfold enumD at h
  rw [List.getElem?_map, List.getElem?_zipIdx] at h
  cases e : xs[i]? with
  | none => rw [e] at h; cases h
  | some x =>
    rw [e] at h
    cases h
    exact ⟨x, rfl, by simp⟩
theorem itok_enumT {a : Addr} {xs : List D} {vs : List V} (s : SqT K H a vs) (r : RDs K g H xs vs) : ItOk K g H (Pf0.IteT K a) (enumD xs) [] := fun g' m' H' e rl _ => by
  have s' : SqT K H' a vs := SqT.ext e s
  have r' := r.ext e
  refine ⟨fun i hi => ⟨vs, s', by rw [enumD_len] at hi; rw [← r'.length]; exact hi⟩, fun i y hy => ?_⟩
  obtain ⟨x, hx, rfl⟩ := enumD_at hy
  obtain ⟨v, hv, rv⟩ := r'.get hx
  refine ⟨⟨vs, v, s', hv⟩, fun w H2 ⟨T, z, e1, hT, e2, q⟩ => ?_⟩
  subst e1 e2
  have := q vs s'
  rw [hv] at this
  cases this
  exact pair_new rl hT (.int _) rv
theorem itok_enumL {a : Addr} {xs : List D} {hs : List (Nat × List D)} (k : ∀ g' m' H', Ext g H g' H' → Rel K g' m' H' → Stand m' hs → ∃ vs, SqL K H' a vs ∧ RDs K g' H' xs vs) : ItOk K g H (Ite K a) (enumD xs) hs := fun g' m' H' e rl st => by
  obtain ⟨vs, s', r'⟩ := k g' m' H' e rl st
  refine ⟨fun i hi => ⟨vs, s', by rw [enumD_len] at hi; rw [← r'.length]; exact hi⟩, fun i y hy => ?_⟩
  obtain ⟨x, hx, rfl⟩ := enumD_at hy
  obtain ⟨v, hv, rv⟩ := r'.get hx
  refine ⟨⟨vs, v, s', hv⟩, fun w H2 ⟨T, z, e1, hT, e2, q⟩ => ?_⟩
  subst e1 e2
  have := q vs s'
  rw [hv] at this
  cases this
  exact pair_new rl hT (.int _) rv
theorem zipD_len (xs ys : List D) : (zipD xs ys).length = min xs.length ys.length := by unfold zipD; rw [List.length_map, List.length_zip]
theorem zipD_at {xs ys : List D} {i : Nat} {z : D} (h : (zipD xs ys)[i]? = some z) : ∃ x y, xs[i]? = some x ∧ ys[i]? = some y ∧ z = .tup [x, y] := by
  unfold zipD at h
  rw [List.getElem?_map] at h
  cases e : (xs.zip ys)[i]? with
  | none => rw [e] at h; cases h
  | some p =>
    rw [e] at h
    cases h
    obtain ⟨h1, h2⟩ := List.getElem?_zip_eq_some.mp e
    exact ⟨_, _, h1, h2, rfl⟩
theorem itok_zipT {a b : Addr} {xs ys : List D} {vs ws : List V} (s : SqT K H a vs) (r : RDs K g H xs vs) (s2 : SqT K H b ws) (r2 : RDs K g H ys ws) : ItOk K g H (RZ.ItzT K a b) (zipD xs ys) [] := fun g' m' H' e rl _ => by
  have s' : SqT K H' a vs := SqT.ext e s
  have r' := r.ext e
  have s2' : SqT K H' b ws := SqT.ext e s2
  have r2' := r2.ext e
  refine ⟨fun i hi => ⟨vs, ws, s', s2', by rw [zipD_len, r'.length, r2'.length] at hi; omega⟩, fun i y hy => ?_⟩
  obtain ⟨x, y2, hx, hy2, rfl⟩ := zipD_at hy
  obtain ⟨v, hv, rv⟩ := r'.get hx
  obtain ⟨w, hw, rw_⟩ := r2'.get hy2
  refine ⟨⟨vs, ws, v, w, s', s2', hv, hw⟩, fun u H2 ⟨T, z1, z2, e1, hT, e2, q1, q2⟩ => ?_⟩
  subst e1 e2
  have h1 := q1 vs s'
  have h2 := q2 ws s2'
  rw [hv] at h1
  rw [hw] at h2
  cases h1
  cases h2
  exact pair_new rl hT rv rw_
theorem itok_zipL {a b : Addr} {xs ys : List D} {hs hs2 : List (Nat × List D)} (k : ∀ g' m' H', Ext g H g' H' → Rel K g' m' H' → Stand m' hs → ∃ vs, SqL K H' a vs ∧ RDs K g' H' xs vs)
    (k2 : ∀ g' m' H', Ext g H g' H' → Rel K g' m' H' → Stand m' hs2 → ∃ vs, SqL K H' b vs ∧ RDs K g' H' ys vs) : ItOk K g H (Itz K a b) (zipD xs ys) (hs ++ hs2) := fun g' m' H' e rl st => by
  obtain ⟨vs, s', r'⟩ := k g' m' H' e rl fun p hp => st p (List.mem_append_left _ hp)
  obtain ⟨ws, s2', r2'⟩ := k2 g' m' H' e rl fun p hp => st p (List.mem_append_right _ hp)
  refine ⟨fun i hi => ⟨vs, ws, s', s2', by rw [zipD_len, r'.length, r2'.length] at hi; omega⟩, fun i y hy => ?_⟩
  obtain ⟨x, y2, hx, hy2, rfl⟩ := zipD_at hy
  obtain ⟨v, hv, rv⟩ := r'.get hx
  obtain ⟨w, hw, rw_⟩ := r2'.get hy2
  refine ⟨⟨vs, ws, v, w, s', s2', hv, hw⟩, fun u H2 ⟨T, z1, z2, e1, hT, e2, q1, q2⟩ => ?_⟩
  subst e1 e2
  have h1 := q1 vs s'
  have h2 := q2 ws s2'
  rw [hv] at h1
  rw [hw] at h2
  cases h1
  cases h2
  exact pair_new rl hT rv rw_
end
end Pf

/-! Pf8: iterables' rules, comprehensions. -/
namespace Pf
open PySem L2
section
variable {α β γ δ : Type} {K : Fg} {W : WG} {σ : St} {rep : Rep α β} {H0 : Hp} {g : List Addr} {H : Hp} {Q : β → Hp → Prop} {m m1 : Store}
theorem bnd_ok {x : M γ} {f : γ → M α} {a : γ} (e : x m = .ok a m1) : (x >>= f) m = f a m1 := by
  show M.bnd x f m = _
  unfold M.bnd
  rw [e]
theorem bnd_err {x : M γ} {f : γ → M α} {e : Exc} (h : x m = .err e m1) : (x >>= f) m = .err e m1 := by
  show M.bnd x f m = _
  unfold M.bnd
  rw [h]
theorem bnd_stuck {x : M γ} {f : γ → M α} (h : x m = .stuck) : (x >>= f) m = .stuck := by
  show M.bnd x f m = _
  unfold M.bnd
  rw [h]
end
section
variable {X : Cx} {W : WG} {tg e a b : Expr} {fe fa fb : Env → M R} {pos p : Pos}
/-- a handle's list, as long as it stands -/
theorem walk_ref {K : Fg} {g : List Addr} {H : Hp} {m : Store} {h : Nat} {a : Addr} {c : Cell} (e : g[h]? = some a) : ∀ g' m' H', Ext g H g' H' → Rel K g' m' H' → Stand m' [(h, c.items)] → ∃ vs, SqL K H' a vs ∧ RDs K g' H' c.items vs := fun g' m' H' ex rl st => by
  obtain ⟨c', h1, hl, h2⟩ := st (h, c.items) (by simp)
  obtain ⟨l, e1, _⟩ := ex.pre
  have e2 : g'[h]? = some a := by rw [e1]; exact app_at e
  obtain ⟨vs, q1, q2⟩ := rl.look e2 h1 hl
  have q3 : c'.items = c.items := h2
  rw [q3] at q2
  exact ⟨vs, q1, q2⟩
theorem walk_tl {K : Fg} {g : List Addr} {H : Hp} {a : Addr} {vs : List V} {xs : List D} {hs : List (Nat × List D)} (h1 : H a = some (.lst vs)) (h2 : a ∉ g) (h3 : RDs K g H xs vs) : ∀ g' m' H', Ext g H g' H' → Rel K g' m' H' → Stand m' hs → ∃ vs, SqL K H' a vs ∧ RDs K g' H' xs vs := fun g' m' H' ex rl st =>
  ⟨vs, SqL.of (ex.keep _ _ h1 fun z => absurd z h2), h3.ext ex⟩
/-- a list's walk from what stands now -/
theorem walkL_ok {α β : Type} {rep : Rep α β} {K : Fg} {σ : St} {H0 H1 : Hp} {g : List Addr} {H : Hp} {m : Store} {Q : β → Hp → Prop} {x : R} {v : V} {f : List D × List (Nat × List D) → M α} (rl : Rel K g m H) (rx : RR K H1 g H x v) (h : Po K W σ rep H0 g H ((walkL x >>= f) m) Q) :
    ∃ a xs hs, v = .ref a ∧ (∃ vs, SqL K H a vs ∧ RDs K g H xs vs) ∧ (∀ g' m' H', Ext g H g' H' → Rel K g' m' H' → Stand m' hs → ∃ vs, SqL K H' a vs ∧ RDs K g' H' xs vs) ∧ Po K W σ rep H0 g H (f (xs, hs) m) Q := by
  cases x with
  | tl xs =>
    obtain ⟨a, vs, rfl, h1, h2, _, h3⟩ := rx
    exact ⟨a, xs, [], rfl, ⟨vs, SqL.of h1, h3⟩, walk_tl h1 h2 h3, h⟩
  | d x =>
    cases x with
    | ref k =>
      have h' : Po K W σ rep H0 g H (((getC k >>= fun c => pure (c.items, [(k, c.items)])) >>= f) m) Q := h
      rw [bnd_assoc] at h'
      obtain ⟨c, q, hl, h'⟩ := getC_ok h'
      cases (show RD K g H (.ref k) v from rx) with
      | ref e => exact ⟨_, c.items, [(k, c.items)], rfl, rl.look e q hl, walk_ref (m := m) e, h'⟩
    | _ => exact (show False from h).elim
theorem i_seq (he : PE X e (tR X.K W fe)) : PI X tg e (tI X.K W fun r => do walkR (← fe r)) :=
  (PI.or (pi_tup he) (PI.or (pi_list he) (pi_str he))).imp fun σ H Q ⟨r, m, g, hs, rl, po⟩ => by
    have po' : Po X.K W σ (repI X.K) H g H ((fe r >>= fun x => walkR x) m) Q := po
    cases q : fe r m with
    | stuck => rw [bnd_stuck q] at po'; exact po'.elim
    | err y m1 =>
      rw [bnd_err q] at po'
      refine .inl ⟨r, m, g, hs, rl, ?_⟩
      rw [q]
      exact po'
    | ok x m1 =>
      rw [bnd_ok q] at po'
      cases x with
      | tl xs =>
        refine .inr (.inl ⟨r, m, g, hs, rl, ?_⟩)
        rw [q]
        intro g1 H1 v e1 rl1 rx
        obtain ⟨a, vs, rfl, h1, h2, _, h3⟩ := rx
        exact ⟨a, rfl, ⟨vs, SqL.of h1⟩, po' g1 H1 _ e1 rl1 (itok_lst (walk_tl h1 h2 h3))⟩
      | d x =>
        cases x with
        | tup xs =>
          refine .inl ⟨r, m, g, hs, rl, ?_⟩
          rw [q]
          intro g1 H1 v e1 rl1 rx
          cases (show RD X.K g1 H1 (.tup xs) v from rx) with
          | @tup a _ vs s rr => exact ⟨a, rfl, ⟨vs, s⟩, po' g1 H1 _ e1 rl1 (itok_tup s rr)⟩
        | str x =>
          refine .inr (.inr ⟨r, m, g, hs, rl, ?_⟩)
          rw [q]
          intro g1 H1 v e1 rl1 rx
          cases (show RD X.K g1 H1 (.str x) v from rx)
          exact ⟨x, rfl, po' g1 H1 _ e1 rl1 itok_str⟩
        | ref k =>
          refine .inr (.inl ⟨r, m, g, hs, rl, ?_⟩)
          rw [q]
          intro g1 H1 v e1 rl1 rx
          cases (show RD X.K g1 H1 (.ref k) v from rx) with
          | @ref _ a e =>
            have po2 : Po X.K W σ (repI X.K) H g1 H1 ((getC k >>= fun c => pure (c.items, [(k, c.items)])) m1) Q := Po.later e1 po'
            obtain ⟨c, qc, hl, po2⟩ := getC_ok po2
            obtain ⟨vs, h1, _⟩ := rl1.look e qc hl
            exact ⟨a, rfl, ⟨vs, h1⟩, (show Po X.K W σ (repI X.K) H g1 H1 (.ok (c.items, [(k, c.items)]) m1) Q from po2) g1 H1 _ (Ext.refl _ _) rl1 (itok_lst (walk_ref (m := m1) e))⟩
        | non => exact (show False from po').elim
        | bl _ => exact (show False from po').elim
        | int _ => exact (show False from po').elim
theorem i_range1 (hg : Gl X "range") (hm : X.mg "range" = none) (ns : NotStar a) (ha : PE X a (tR X.K W fa)) : PI X tg (.Call (.Name "range" p) [a] [] pos) (tI X.K W fun r => do
    let n ← intR (← fa r)
    chk (small62 n)
    return (upto 0 n.toNat, [])) :=
  (pi_range1 hg hm (pa_cons ha pa_nil (star_of ns)) (star_of ns)).imp fun σ H Q ⟨r, m, g, hs, rl, po⟩ =>
    tM.step hs rl po (fun _ z => z) fun x m1 g1 H1 v e1 rl1 hs1 rx fr1 po1 => by
      obtain ⟨i, rfl, rfl, po1⟩ := int_ok rx po1
      obtain ⟨⟨c1, c2⟩, po1⟩ := chk_ok po1
      exact ⟨i, rfl, c1, c2, Po.ret (rep := repI X.K) (show Po X.K W σ (repI X.K) H g1 H1 (.ok (upto 0 i.toNat, []) m1) Q from po1) rl1 itok_range⟩
theorem i_range2 (hg : Gl X "range") (hm : X.mg "range" = none) (ns : NotStar a) (ns2 : NotStar b) (ha : PE X a (tR X.K W fa)) (hb : PE X b (tR X.K W fb)) : PI X tg (.Call (.Name "range" p) [a, b] [] pos) (tI X.K W fun r => do
    let lo ← intR (← fa r)
    let hi ← intR (← fb r)
    chk (small62 lo ∧ small62 hi)
    return (upto lo (hi - lo).toNat, [])) :=
  (pi_range2 hg hm (pa_cons ha (pa_cons hb pa_nil (star_of ns2)) (star_of ns)) (by rw [star_of ns, star_of ns2]; rfl) (star_of ns2)).imp fun σ H Q ⟨r, m, g, hs, rl, po⟩ =>
    tM.step hs rl po (fun _ z => z) fun x m1 g1 H1 v e1 rl1 hs1 rx fr1 po1 => by
      obtain ⟨i, rfl, rfl, po1⟩ := int_ok rx po1
      refine tM.step hs1 rl1 po1 fr1 fun y m2 g2 H2 u e2 rl2 hs2 ry fr2 po2 => ?_
      obtain ⟨j, rfl, rfl, po2⟩ := int_ok ry po2
      obtain ⟨⟨⟨c1, c2⟩, c3, c4⟩, po2⟩ := chk_ok po2
      exact ⟨i, j, rfl, ⟨c1, c2, c3, c4⟩, Po.ret (rep := repI X.K) (show Po X.K W σ (repI X.K) H g2 H2 (.ok (upto i (j - i).toNat, []) m2) Q from po2) rl2 itok_range⟩
theorem rds_range {K : Fg} {g : List Addr} {H : Hp} {a b : Int} : RDs K g H (upto a (b - a).toNat) (rgV a b) := by
  unfold upto rgV
  generalize List.range (b - a).toNat = l
  induction l with
  | nil => exact .nil
  | cons i l ih => exact .cons (.int _) ih
theorem e_lrg1 {p p2 pos pos2 : Pos} (hc : X.calm = true) (hg0 : Gl X "list") (hm0 : X.mg "list" = none) (hg : Gl X "range") (hm : X.mg "range" = none) (ns : NotStar a) (ha : PE X a (tR X.K W fa)) : PE X (.Call (.Name "list" p) [.Call (.Name "range" p2) [a] [] pos2] [] pos) (tR X.K W fun r => do
    let n ← intR (← fa r)
    chk (small62 n ∧ n.toNat ≤ 16777216)
    return .tl (upto 0 n.toNat)) :=
  (pe_listRg hc hg0 hm0 (prg_1 hg hm ha (star_of ns)) (star_of trivial)).imp fun σ H Q ⟨r, m, g, hs, rl, po⟩ =>
    tM.step hs rl po (fun _ z => z) fun x m1 g1 H1 v e1 rl1 hs1 rx fr1 po1 => by
      obtain ⟨i, rfl, rfl, po1⟩ := int_ok rx po1
      obtain ⟨⟨⟨c1, c2⟩, c3⟩, po1⟩ := chk_ok po1
      have e : upto 0 i.toNat = upto 0 (i - 0).toNat := by rw [Int.sub_zero]
      rw [e] at po1
      exact ⟨i, rfl, ⟨by omega, by omega, c1, c2, by omega⟩, fun p hp => Po.newL po1 rl1 fr1 rds_range hp⟩
theorem e_lrg2 {p p2 pos pos2 : Pos} (hc : X.calm = true) (hg0 : Gl X "list") (hm0 : X.mg "list" = none) (hg : Gl X "range") (hm : X.mg "range" = none) (ns : NotStar a) (ns2 : NotStar b) (ha : PE X a (tR X.K W fa)) (hb : PE X b (tR X.K W fb)) : PE X (.Call (.Name "list" p) [.Call (.Name "range" p2) [a, b] [] pos2] [] pos) (tR X.K W fun r => do
    let lo ← intR (← fa r)
    let hi ← intR (← fb r)
    chk (small62 lo ∧ small62 hi ∧ (hi - lo).toNat ≤ 16777216)
    return .tl (upto lo (hi - lo).toNat)) :=
  (pe_listRg hc hg0 hm0 (prg_2 hg hm ha hb (star_of ns) (star_of ns2) (plain_of fun y hy => by cases List.mem_singleton.mp hy; exact ns2)) (star_of trivial)).imp fun σ H Q ⟨r, m, g, hs, rl, po⟩ =>
    tM.step hs rl po (fun _ z => z) fun x m1 g1 H1 v e1 rl1 hs1 rx fr1 po1 => by
      obtain ⟨i, rfl, rfl, po1⟩ := int_ok rx po1
      refine tM.step hs1 rl1 po1 fr1 fun y m2 g2 H2 u e2 rl2 hs2 ry fr2 po2 => ?_
      obtain ⟨j, rfl, rfl, po2⟩ := int_ok ry po2
      obtain ⟨⟨⟨c1, c2⟩, ⟨c3, c4⟩, c5⟩, po2⟩ := chk_ok po2
      exact ⟨i, j, rfl, rfl, ⟨c1, c2, c3, c4, by omega⟩, fun p hp => Po.newL po2 rl2 fr2 rds_range hp⟩
theorem e_mxd {p pos kp : Pos} {k : Bool} {d : Expr} {fd : Env → M R} (hc : X.calm = true) (hu : X.A.units + 64 < cLine) (hg : Gl X (if k then "max" else "min")) (hm : X.mg (if k then "max" else "min") = none) (ns : NotStar a) (ha : PE X a (tR X.K W fa)) (hd : PE X d (tR X.K W fd)) : PE X (.Call (.Name (if k then "max" else "min") p) [a] [⟨some "default", d, kp⟩] pos) (tR X.K W fun r => do
    let x ← fa r
    let y ← upM fd r
    mxdR k x y) := by
  have call : PE X (.Call (.Name (if k then "max" else "min") p) [a] [⟨some "default", d, kp⟩] pos) (tCKw (rMxd X.K k) (tCons (tR X.K W fa) tNil) (tCons (tD X.K W (upM fd)) tNil)) := by
    cases k with
    | true => exact pe_callBK (cr_mxd hc hu true) hg hm PyProof.Rows.boot_max (pa_cons ha pa_nil (star_of ns)) (pk_cons (e_up hd) pk_nil) (he := by rw [star_of ns]; rfl) (hpl := by rw [star_of ns]; rfl)
    | false => exact pe_callBK (cr_mxd hc hu false) hg hm PyProof.Rows.boot_min (pa_cons ha pa_nil (star_of ns)) (pk_cons (e_up hd) pk_nil) (he := by rw [star_of ns]; rfl) (hpl := by rw [star_of ns]; rfl)
  refine call.imp fun σ H Q ⟨r, m, g, hs, rl, po⟩ => ?_
  refine tM.step hs rl po (fun _ z => z) fun x m1 g1 H1 v e1 rl1 hs1 rx fr1 po1 => ?_
  refine tM.step hs1 rl1 po1 fr1 fun y m2 g2 H2 u e2 rl2 hs2 ry fr2 po2 => ?_
  have po2 : PoR X.K W σ H g2 H2 ((intsS x >>= fun is => match is with
    | [] => pure (.d y)
    | i :: is => pure (.d (.int (if k then is.foldl max i else is.foldl min i)))) m2) Q := by rw [← bnd_pure (mxdR k x y)] at po2; rw [bnd_pure] at po2; exact po2
  obtain ⟨b, is, rfl, hs3, po3⟩ := intsS_ok rl2 (RR.ext e2 rx) po2
  refine ⟨b, is, u, rfl, rfl, hs3, fun e => ?_, fun i r e => ?_⟩
  · subst e
    exact Po.val po3 rl2 ry
  · subst e
    exact Po.val po3 rl2 (.int _)
theorem i_enum {elts : List Expr} {kk : Nat} {tpos : Pos} (hg : Gl X "enumerate") (hm : X.mg "enumerate" = none) (ns : NotStar a) (ha : PE X a (tR X.K W fa)) : PI X (.Tuple elts kk tpos) (.Call (.Name "enumerate" p) [a] [] pos) (tI X.K W fun r => do enumR (← fa r)) :=
  (PI.or (Pf0.pi_enumT hg hm (pa_cons ha pa_nil (star_of ns)) (star_of ns)) (pi_enum hg hm (pa_cons ha pa_nil (star_of ns)) (star_of ns))).imp fun σ H Q ⟨r, m, g, hs, rl, po⟩ => by
    have po' : Po X.K W σ (repI X.K) H g H ((fa r >>= fun x => enumR x) m) Q := po
    cases q : fa r m with
    | stuck => rw [bnd_stuck q] at po'; exact po'.elim
    | err y m1 =>
      rw [bnd_err q] at po'
      refine .inl ⟨r, m, g, hs, rl, ?_⟩
      rw [q]
      exact po'
    | ok x m1 =>
      rw [bnd_ok q] at po'
      have lst : ∀ x, fa r m = .ok x m1 → Po X.K W σ (repI X.K) H g H ((walkL x >>= fun p => pure (enumD p.1, p.2)) m1) Q → iEnum X.K (tCons (tR X.K W fa) tNil) σ H Q := fun x q po' => by
        refine ⟨r, m, g, hs, rl, ?_⟩
        rw [q]
        intro g1 H1 v e1 rl1 rx
        obtain ⟨b, xs, hs', rfl, ⟨vs, h1, _⟩, h2, po2⟩ := walkL_ok rl1 rx (Po.later e1 po')
        exact ⟨b, vs, rfl, h1, Po.ret (rep := repI X.K) (show Po X.K W σ (repI X.K) H g1 H1 (.ok (enumD xs, hs') m1) Q from po2) rl1 (itok_enumL h2)⟩
      cases x with
      | tl xs => exact .inr (lst _ q po')
      | d x =>
        cases x with
        | tup xs =>
          refine .inl ⟨r, m, g, hs, rl, ?_⟩
          rw [q]
          intro g1 H1 v e1 rl1 rx
          cases (show RD X.K g1 H1 (.tup xs) v from rx) with
          | @tup b _ vs s rr => exact ⟨b, vs, rfl, s, po' g1 H1 _ e1 rl1 (itok_enumT s rr)⟩
        | ref k => exact .inr (lst _ q po')
        | non => exact (show False from po').elim
        | bl _ => exact (show False from po').elim
        | int _ => exact (show False from po').elim
        | str _ => exact (show False from po').elim
theorem i_zip {elts : List Expr} {kk : Nat} {tpos : Pos} (hg : Gl X "zip") (hm : X.mg "zip" = none) (ns : NotStar a) (ns2 : NotStar b) (ha : PE X a (tR X.K W fa)) (hb : PE X b (tR X.K W fb)) : PI X (.Tuple elts kk tpos) (.Call (.Name "zip" p) [a, b] [] pos) (tI X.K W fun r => do
    let x ← fa r
    let y ← fb r
    zipR x y) :=
  (RZ.pi_zipA hg hm (pa_cons ha (pa_cons hb pa_nil (star_of ns2)) (star_of ns)) (star_of ns) (plain_of fun x hx => by
    have : x = b := by simpa using hx
    rw [this]; exact ns2)).imp fun σ H Q ⟨r, m, g, hs, rl, po⟩ =>
    tM.step hs rl po (fun _ z => z) fun x m1 g1 H1 v e1 rl1 hs1 rx fr1 po1 =>
      tM.step hs1 rl1 po1 fr1 fun y m2 g2 H2 u e2 rl2 hs2 ry fr2 po2 => by
        have rx' := RR.ext e2 rx
        have lst : Po X.K W σ (repI X.K) H g2 H2 ((walkL x >>= fun p => walkL y >>= fun q => pure (zipD p.1 q.1, p.2 ++ q.2)) m2) Q →
            ∃ a b xs ys, [v, u] = [V.ref a, V.ref b] ∧ ((SqL X.K H2 a xs ∧ SqL X.K H2 b ys ∧ Q (Itz X.K a b) H2) ∨ (SqT X.K H2 a xs ∧ SqT X.K H2 b ys ∧ Q (RZ.ItzT X.K a b) H2)) := fun po2 => by
          obtain ⟨b1, xs, hs', rfl, ⟨vs, h1, _⟩, h2, po2⟩ := walkL_ok rl2 rx' po2
          obtain ⟨b2, ys, hs'', rfl, ⟨ws, h3, _⟩, h4, po2⟩ := walkL_ok rl2 ry po2
          exact ⟨b1, b2, vs, ws, rfl, .inl ⟨h1, h3, Po.ret (rep := repI X.K) (show Po X.K W σ (repI X.K) H g2 H2 (.ok (zipD xs ys, hs' ++ hs'') m2) Q from po2) rl2 (itok_zipL h2 h4)⟩⟩
        unfold zipR at po2
        split at po2
        · rename_i xs ys
          cases (show RD X.K g2 H2 (.tup xs) v from rx') with
          | @tup b1 _ vs s rr =>
            cases (show RD X.K g2 H2 (.tup ys) u from ry) with
            | @tup b2 _ ws s2 rr2 => exact ⟨b1, b2, vs, ws, rfl, .inr ⟨s, s2, Po.ret (rep := repI X.K) (show Po X.K W σ (repI X.K) H g2 H2 (.ok (zipD xs ys, []) m2) Q from po2) rl2 (itok_zipT s rr s2 rr2)⟩⟩
        · exact lst po2
/-- reversed(x) -/
theorem i_rvl (hg : Gl X "reversed") (hm : X.mg "reversed" = none) (ns : NotStar a) (ha : PE X a (tR X.K W fa)) : PI X tg (.Call (.Name "reversed" p) [a] [] pos) (tI X.K W fun r => do revI (← fa r)) :=
  (RT.pi_revA hg hm ha (star_of ns)).imp fun σ H Q ⟨r, m, g, hs, rl, po⟩ =>
    tM.step hs rl po (fun _ z => z) fun x m1 g1 H1 v e1 rl1 hs1 rx fr1 po1 => by
      have lst : Po X.K W σ (repI X.K) H g1 H1 ((walkL x >>= fun p => pure (p.1.reverse, p.2)) m1) Q → ∃ (a : Addr) (xs : List V), v = .ref a ∧ ((SqL X.K H1 a xs ∧ Q (Itv X.K a xs.length) H1) ∨ (SqT X.K H1 a xs ∧ Q (RT.ItvT X.K a xs.length) H1)) := fun po1 => by
        obtain ⟨b, xs, hs', rfl, ⟨vs, h1, h1'⟩, h2, po2⟩ := walkL_ok rl1 rx po1
        exact ⟨b, vs, rfl, .inl ⟨h1, Po.ret (rep := repI X.K) (show Po X.K W σ (repI X.K) H g1 H1 (.ok (xs.reverse, hs') m1) Q from po2) rl1 (itok_revL h1'.length.symm h2)⟩⟩
      unfold revI at po1
      split at po1
      · rename_i xs
        cases (show RD X.K g1 H1 (.tup xs) v from rx) with
        | @tup b _ vs s rr => exact ⟨b, vs, rfl, .inr ⟨s, Po.ret (rep := repI X.K) (show Po X.K W σ (repI X.K) H g1 H1 (.ok (xs.reverse, []) m1) Q from po1) rl1 (itok_revT s rr)⟩⟩
      · exact lst po1
/-- reversed(range(n)) -/
theorem i_rvr {p2 pos2 : Pos} (hg0 : Gl X "reversed") (hm0 : X.mg "reversed" = none) (hg : Gl X "range") (hm : X.mg "range" = none) (ns : NotStar a) (ha : PE X a (tR X.K W fa)) : PI X tg (.Call (.Name "reversed" p) [.Call (.Name "range" p2) [a] [] pos2] [] pos) (tI X.K W fun r => do
    let n ← intR (← fa r)
    chk (small62 n)
    return ((upto 0 n.toNat).reverse, [])) :=
  (pi_revR hg0 hm0 (prg_1 hg hm ha (star_of ns)) (star_of trivial)).imp fun σ H Q ⟨r, m, g, hs, rl, po⟩ =>
    tM.step hs rl po (fun _ z => z) fun x m1 g1 H1 v e1 rl1 hs1 rx fr1 po1 => by
      obtain ⟨i, rfl, rfl, po1⟩ := int_ok rx po1
      obtain ⟨⟨c1, c2⟩, po1⟩ := chk_ok po1
      refine ⟨i, rfl, by omega, by omega, c1, c2, ?_⟩
      rw [Int.sub_zero]
      exact Po.ret (rep := repI X.K) (show Po X.K W σ (repI X.K) H g1 H1 (.ok ((upto 0 i.toNat).reverse, []) m1) Q from po1) rl1 itok_revR
end

/-! ### comprehensions -/
theorem wipe_wipe (σ : St) : ∀ vs : List Nat, wipe (wipe σ vs) vs = wipe σ vs := by
  have go : ∀ (vs ws : List Nat) (σ : St), (∀ i ∈ vs, i ∈ ws) → wipe (wipe σ vs) ws = wipe σ ws := by
    intro vs
    induction vs with
    | nil => intro ws σ _; rfl
    | cons v vs ih =>
      intro ws σ h
      show wipe ((wipe σ vs).set v none) ws = wipe σ ws
      rw [wipe_set (h v List.mem_cons_self)]
      exact ih ws σ fun i hi => h i (List.mem_cons_of_mem _ hi)
  exact fun vs => go vs vs σ fun _ h => h
theorem noErr_ok {α : Type} {x : M α} {m m' : Store} {a : α} (h : noErr x m = .ok a m') : x m = .ok a m' := by
  unfold noErr at h
  cases e : x m with
  | ok b m1 => rw [e] at h; exact h
  | err _ _ => rw [e] at h; cases h
  | stuck => rw [e] at h; cases h
theorem noErr_noerr {α : Type} {x : M α} {m m' : Store} {e : Exc} : noErr x m ≠ .err e m' := fun h => by
  unfold noErr at h
  cases q : x m with
  | ok b m1 => rw [q] at h; cases h
  | err _ _ => rw [q] at h; cases h
  | stuck => rw [q] at h; cases h
theorem compL_nil {st : M Unit} {turn : D → M (Option D)} {m m' : Store} {ys : List D} (h : compL st turn [] m = .ok ys m') : ∃ u, st m = .ok u m' ∧ ys = [] := by
  have h' : (st >>= fun _ => (pure [] : M (List D))) m = .ok ys m' := h
  obtain ⟨u, m1, h1, h2⟩ := bnd_inv h'
  cases h2
  exact ⟨u, h1, rfl⟩
theorem compL_cons {st : M Unit} {turn : D → M (Option D)} {x : D} {xs : List D} {m m' : Store} {ys : List D} (h : compL st turn (x :: xs) m = .ok ys m') :
    ∃ u m1 y m2 zs, st m = .ok u m1 ∧ turn x m1 = .ok y m2 ∧ compL st turn xs m2 = .ok zs m' ∧ ys = (match y with | some z => z :: zs | none => zs) := by
  have h' : (st >>= fun _ => turn x >>= fun y => compL st turn xs >>= fun zs => (pure (match y with | some z => z :: zs | none => zs) : M (List D))) m = .ok ys m' := h
  obtain ⟨u, m1, h1, h2⟩ := bnd_inv h'
  obtain ⟨y, m2, h3, h4⟩ := bnd_inv h2
  obtain ⟨zs, m3, h5, h6⟩ := bnd_inv h4
  cases h6
  exact ⟨u, m1, y, m2, zs, h1, h3, h5, rfl⟩
theorem compL_noerr {hs : List (Nat × List D)} {turn : D → M (Option D)} (ht : ∀ x m e m', turn x m ≠ .err e m') : ∀ {xs : List D} {m m' : Store} {e : Exc}, compL (chkAll hs) turn xs m ≠ .err e m'
  | [], m, m', e => fun h => by
    have h' : M.bnd (chkAll hs) (fun _ => M.ret []) m = .err e m' := h
    unfold M.bnd at h'
    cases q : chkAll hs m with
    | ok _ _ => rw [q] at h'; cases h'
    | err _ _ => exact chkAll_noerr q
    | stuck => rw [q] at h'; cases h'
  | x :: xs, m, m', e => fun h => by
    have h' : M.bnd (chkAll hs) (fun _ => M.bnd (turn x) fun y => M.bnd (compL (chkAll hs) turn xs) fun ys => M.ret (match y with | some z => z :: ys | none => ys)) m = .err e m' := h
    unfold M.bnd at h'
    cases q : chkAll hs m with
    | ok _ m1 =>
      rw [q] at h'
      simp only at h'
      cases q1 : turn x m1 with
      | ok y m2 =>
        rw [q1] at h'
        simp only at h'
        cases q2 : compL (chkAll hs) turn xs m2 with
        | ok _ _ => rw [q2] at h'; cases h'
        | err _ _ => exact compL_noerr ht q2
        | stuck => rw [q2] at h'; cases h'
      | err _ _ => exact ht _ _ _ _ q1
      | stuck => rw [q1] at h'; cases h'
    | err _ _ => exact chkAll_noerr q
    | stuck => rw [q] at h'; cases h'
mutual
/-- data lean on the tuples alone -/
theorem RD.mono {K : Fg} {g : List Addr} {H H' : Hp} (k : ∀ a vs, SqT K H a vs → SqT K H' a vs) : ∀ {x : D} {v : V}, RD K g H x v → RD K g H' x v
  | _, _, .non => .non
  | _, _, .bl b => .bl b
  | _, _, .int i => .int i
  | _, _, .str x => .str x
  | _, _, .tup s r => .tup (k _ _ s) (RDs.mono k r)
  | _, _, .ref h => .ref h
theorem RDs.mono {K : Fg} {g : List Addr} {H H' : Hp} (k : ∀ a vs, SqT K H a vs → SqT K H' a vs) : ∀ {xs : List D} {vs : List V}, RDs K g H xs vs → RDs K g H' xs vs
  | _, _, .nil => .nil
  | _, _, .cons a b => .cons (RD.mono k a) (RDs.mono k b)
end
section
variable {K : Fg} {g g0 : List Addr} {m : Store} {H H0 : Hp} {D : Addr} {xs ys : List V}
theorem SqT.side (h : H D = some (.lst xs)) : ∀ a vs, SqT K H a vs → SqT K (upd H D (.lst ys)) a vs := fun a vs s => by
  rcases s with (s | ⟨o, s⟩) | s
  · exact .inl (.inl (by rw [upd_ne (ne_of s h fun z => nomatch z)]; exact s))
  · exact .inl (.inr ⟨o, by rw [upd_ne (ne_of s h fun z => nomatch z)]; exact s⟩)
  · exact .inr s
/-- a list beside the store is written -/
theorem Rel.side (rl : Rel K g m H) (h : H D = some (.lst xs)) (n : D ∉ g) : Rel K g m (upd H D (.lst ys)) :=
  ⟨rl.len, rl.nd, fun k c a e1 e2 => by
    have hne : a ≠ D := fun z => n (by rw [← z]; exact List.mem_of_getElem? e2)
    have q := rl.cell k c a e1 e2
    cases c with
    | lst zs =>
      obtain ⟨vs, h1, h2⟩ := q
      exact ⟨vs, by rw [upd_ne hne]; exact h1, h2.mono (SqT.side h)⟩
    | frz zs =>
      obtain ⟨o, vs, h1, h2⟩ := q
      exact ⟨o, vs, by rw [upd_ne hne]; exact h1, h2.mono (SqT.side h)⟩
    | dct zs =>
      obtain ⟨vs, h1, h2⟩ := q
      exact ⟨vs, by rw [upd_ne hne]; exact h1, h2.1, h2.2.mono (SqT.side h)⟩
    | exc zs =>
      obtain ⟨vs, h1, h2⟩ := q
      exact ⟨vs, by rw [upd_ne hne]; exact h1, fun f d z => let ⟨v, a, b⟩ := h2 f d z; ⟨v, a, b.mono (SqT.side h)⟩⟩⟩
theorem Ext.side {o : HO} (e : Ext g0 H0 g H) (n : H0 D = none) : Ext g0 H0 g (upd H D o) :=
  ⟨e.pre, fun b u q c => by rw [upd_ne (ne_of_none q n)]; exact e.keep b u q c, fun b q => by
    by_cases hb : b = D
    · rw [hb]; exact n
    · rw [upd_ne hb] at q; exact e.free b q⟩
end
abbrev W0 : WG := ⟨fun _ _ _ _ => False, none⟩
section
variable {X : Cx} {W : WG} {tg iter elt : Expr} {ifs : List Expr} {fi : Env → M (List D × List (Nat × List D))} {ct : Env → M Bool} {ev : Env → M D} {pos : Pos}
theorem comp_core (hG : W.g = none) {t : T} {gt : TG} {own : List (Str × Nat)} {K : Fg} (tk : TgOk K t gt) (sub : ∀ i ∈ t.slots, i ∈ own.map (·.2)) {σ : St} {H : Hp} {Q : VK} (h : tR K W (fun r => do
      let p ← fi r
      let ys ← compL (chkAll p.2) (fun x => noErr (compT ct ev t (own.map (·.2)) r x)) p.1
      chk (ys.length ≤ sizeLine)
      return .tl ys) σ H Q) : tLc (tI K W fi) gt (tT K W0 ct) (tD K W0 ev) (own.map (·.2)) σ H Q := by
  obtain ⟨W, G⟩ := W
  cases (show G = none from hG)
  obtain ⟨r, m, g, hrs, rl, po⟩ := h
  exact tM.step hrs rl po (fun _ z => z) fun p m1 g1 H1 J e1 rl1 hs1 itok fr1 po1 => by
      intro D hD
      have itok : ItOk K g1 H1 J p.1 p.2 := itok
      obtain ⟨xs, hs'⟩ := p
      simp only at po1 itok
      generalize hvs : own.map (·.2) = vs at po1 sub ⊢
      cases q : compL (chkAll hs') (fun x => noErr (compT ct ev t vs r x)) xs m1 with
      | stuck => rw [bnd_stuck q] at po1; exact po1.elim
      | err y m2 => exact absurd q (compL_noerr fun x m e m' => noErr_noerr)
      | ok ysF mF =>
        rw [bnd_ok q] at po1
        obtain ⟨size, po1⟩ := chk_ok po1
        have fin : ∀ g' H' v, Ext g1 H1 g' H' → Rel K g' mF H' → RR K H g' H' (.tl ysF) v → Q v H' := po1
        let Wv : Nat → Nat → Hp → Prop := fun i n H' => n = xs.length - i ∧ i ≤ xs.length ∧ ∃ g' m' acc dacc ys', Ext g1 H1 g' H' ∧ Rel K g' m' H' ∧ H' D = some (.lst dacc) ∧ D ∉ g' ∧ RDs K g' H' acc dacc ∧
          compL (chkAll hs') (fun x => noErr (compT ct ev t vs r x)) (xs.drop i) m' = .ok ys' mF ∧ ysF = acc ++ ys'
        refine ⟨Wv, ⟨xs.length, by simp, Nat.zero_le _, g1, m1, [], [], ysF, Ext.new hD, rl1.new hD, upd_same, rl1.notIn hD, .nil, by rw [List.drop_zero]; exact q, rfl⟩, ?_⟩
        rintro i n H' ⟨rfl, hi, g', m', acc, dacc, ys', ex, rl', hD', nD, ra, cl, ef⟩
        by_cases hlt : i < xs.length
        · have dr : xs.drop i = xs[i] :: xs.drop (i + 1) := (List.drop_eq_getElem_cons hlt)
          rw [dr] at cl
          obtain ⟨u, m2, y, m3, ys2, c1, c2, c3, ey⟩ := compL_cons cl
          obtain ⟨em, st⟩ := chkAll_ok c1
          subst em
          subst ey
          obtain ⟨r1, m5, c4, c5⟩ := bnd_inv (noErr_ok c2)
          have em := asgT_mem c4
          subst em
          obtain ⟨b, m6, c6, c7⟩ := bnd_inv c5
          obtain ⟨stop, go⟩ := itok g' m5 H' ex rl' st
          obtain ⟨go, yl⟩ := go i xs[i] (List.getElem?_eq_getElem hlt)
          refine .inr ⟨go, fun H3 => Wv (i + 1) (xs.length - (i + 1)) H3, fun H3 w => ⟨_, by omega, w⟩, fun v H2 y2 => ?_⟩
          obtain ⟨e2, rl2, rx⟩ := yl v H2 y2
          have hD2 : H2 D = some (.lst dacc) := e2.keep _ _ hD' fun z => absurd z nD
          have hrs2 : RS K none g' H2 (wipeE r vs) (wipe σ vs) := RS.wipe (hs1.ext (ex.trans e2)) vs
          refine tk.run hrs2 rx c4 fun σ2 hrs3 hw => ⟨(hw vs sub).trans (wipe_wipe σ vs), r1, m5, g', hrs3, rl2, ?_⟩
          rw [c6]
          intro g3 H3 b' e3 rl3 eb
          cases (show b = b' from eb)
          have hD3 : H3 D = some (.lst dacc) := e3.keep _ _ hD2 fun z => absurd z nD
          have nD3 : D ∉ g3 := e3.notIn hD2 nD
          cases b with
          | false =>
            rw [if_neg Bool.false_ne_true] at c7 ⊢
            cases c7
            exact ⟨rfl, hlt, g3, _, acc, dacc, ys2, (ex.trans e2).trans e3, rl3, hD3, nD3, (ra.ext e2).ext e3, c3, ef⟩
          | true =>
            rw [if_pos rfl] at c7 ⊢
            obtain ⟨dd, m7, c8, c9⟩ := bnd_inv c7
            cases c9
            refine ⟨r1, m6, g3, hrs3.ext e3, rl3, ?_⟩
            rw [c8]
            intro g4 H4 w e4 rl4 rw_
            have hD4 : H4 D = some (.lst dacc) := e4.keep _ _ hD3 fun z => absurd z nD3
            have nD4 : D ∉ g4 := e4.notIn hD3 nD3
            have ra4 : RDs K g4 H4 acc dacc := ((ra.ext e2).ext e3).ext e4
            refine ⟨dacc, hD4, ?_, rfl, hlt, g4, _, acc ++ [dd], dacc ++ [w], ys2, Ext.side (((ex.trans e2).trans e3).trans e4) hD, rl4.side hD4 nD4, upd_same, nD4, (ra4.app (.cons rw_ .nil)).mono (SqT.side hD4), c3, ?_⟩
            · rw [ef, List.length_append] at size
              have l1 := ra4.length
              have l2 : (match some dd with | some z => z :: ys2 | none => ys2 : List Pf.D).length = ys2.length + 1 := rfl
              rw [l2] at size
              omega
            · rw [ef, List.append_assoc]
              rfl
        · have ei : i = xs.length := by omega
          subst ei
          rw [List.drop_length] at cl
          obtain ⟨u, c1, ey⟩ := compL_nil cl
          obtain ⟨em, st⟩ := chkAll_ok c1
          subst em
          subst ey
          rw [List.append_nil] at ef
          subst ef
          exact .inl ⟨(itok g' _ H' ex rl' st).1 _ (Nat.le_refl _), fin g' H' _ ex rl' ⟨D, dacc, rfl, hD', nD, fr1 D hD, ra⟩⟩
theorem e_comp (hG : W.g = none) {t : T} {gt : TG} {own : List (Str × Nat)} {scope : Scope} (hc : X.calm = true) (hN : X.N.Nodup) (hi : PI X tg iter (tI X.K W fi)) (ok : BlkOk X.N X.env.scope scope own)
    (tk : TgOk X.K t gt) (sub : ∀ i ∈ t.slots, i ∈ own.map (·.2))
    (hg : ∀ (s : Shared) (H : Hp) (C : Addr) (cl : List (Str × Addr)) (fp : List Addr), PG (X.blk s H scope (compEnvC scope cl C X.env) fp) tg gt)
    (ht : ∀ (s : Shared) (H : Hp) (C : Addr) (cl : List (Str × Addr)) (fp : List Addr), PTs (X.blk s H scope (compEnvC scope cl C X.env) fp) ifs (tT X.K W0 ct))
    (he : ∀ (s : Shared) (H : Hp) (C : Addr) (cl : List (Str × Addr)) (fp : List Addr), PE (X.blk s H scope (compEnvC scope cl C X.env) fp) elt (tD X.K W0 ev))
    (hs : ∀ x, foldedSetIterable iter X.env x = pure x) :
    PE X (.ListComp elt [⟨tg, iter, ifs, 0⟩] scope pos) (tR X.K W fun r => do
      let p ← fi r
      let ys ← compL (chkAll p.2) (fun x => noErr (compT ct ev t (own.map (·.2)) r x)) p.1
      chk (ys.length ≤ sizeLine)
      return .tl ys) :=
  (pe_lc hc hN hi ok hg ht he hs).imp fun σ H Q h => comp_core hG tk sub h
end
end Pf

/-! Pf9: defs and their calls; statements. -/
namespace Pf
open PySem L2 PyProof.Rows
/-! ### a def of the text, called where no repr is under way -/
structure FnG (P : Program) (w : World) (K : Fg) (mg : Str → Option Value) (base : Heap) (k : Nat) (f : Addr) (fd : FuncData) (ps : List Str) (sp : Sp) : Prop where
  len : ∀ vs H Q E, sp vs H Q E → vs.length = ps.length
  run : ∀ (A : Around) (outer : List PySem.Env) (s : Shared) (H : Hp) (args : Args) (us : List Value) (vs : List V) (Q : VK) (E : XK), Room k A → A.guards = some [] → Env0 P w K mg base A outer s H → BindsTo s fd args (ps.zip us) → Vals vs us → sp vs H Q E →
    codeAny (model P w) A (.call (.ref f) args) (CR (L2.CX P w) outer P w H s Q E) s
theorem FnG.imp {P : Program} {w : World} {K : Fg} {mg : Str → Option Value} {base : Heap} {k : Nat} {f : Addr} {fd : FuncData} {ps : List Str} {sp sp' : Sp} (F : FnG P w K mg base k f fd ps sp) (h : ∀ vs H Q E, sp' vs H Q E → sp vs H Q E) : FnG P w K mg base k f fd ps sp' :=
  ⟨fun vs H Q E q => F.len vs H Q E (h _ _ _ _ q), fun A outer s H args us vs Q E hr hg e0 hb r q => F.run A outer s H args us vs Q E hr hg e0 hb r (h _ _ _ _ q)⟩
/-- a def's body keeps its promise -/
theorem fnG_of {P : Program} {w : World} {K : Fg} {mg : Str → Option Value} {base : Heap} {k : Nat} {f : Addr} {x qual : Str} {params : Arguments} {body : List Stmt} {scope : Scope} {dvs : List V} {kws : List (Str × V)} {fd : FuncData} {N ps : List Str} {sp : Sp}
    (F : FunD K x qual params body scope dvs kws f fd) (S : FnScope N ps scope) (len : ∀ vs H Q E, sp vs H Q E → vs.length = ps.length)
    (go : ∀ (cdv : Value) (A : Around) (outer : List PySem.Env) (s : Shared) (H : Hp) (vs : List V) (Q : VK) (E : XK), Room k (A.deeper (envOfC qual scope s.heap.objs.size f cdv)) → (A.deeper (envOfC qual scope s.heap.objs.size f cdv)).guards = some [] → sp vs H Q E →
      ∃ t, PSs (cxOf (L2.CX P w) P w K mg base N qual scope f cdv A outer s H E) body t ∧ t { nx := fun _ H' => Q .non H', rt := Q } (start N vs) H) : FnG P w K mg base (k + 1) f fd ps sp := by
  obtain ⟨oc, od, dV, kV, doc, pm, an, cdv, ct, osl, rfl, lk, hcd, _, _⟩ := F.ex
  refine ⟨len, fun A outer s H args us vs Q E room gu e0 bt rv q => ?_⟩
  have nv := len _ _ _ _ q
  have kin : K.In s.heap := e0.mod.kin.keeps fun b o e => (e0.bs b o e).1
  have nolim : s.heap.NoLimit := e0.mod.nolimit.keeps fun b o e => (e0.bs b o e).1
  have kinds : ∀ y ∈ ps.zip us, scope.names.lookup y.1 = some .local ∨ (scope.names.lookup y.1 = some .cell ∧ ((cellsFrom (s.heap.objs.size + 1) scope.names []).lookup y.1).isSome = true) := fun y hy => by
    rcases S.par y.1 (List.of_mem_zip hy).1 with z | z
    · exact .inl z
    · exact .inr ⟨z, PySem.W.cellsFrom_some _ _ _ (.inl z)⟩
  refine codeAny_call_function room.depth (kin _ _ lk) rfl S.co S.gen rfl (PySem.W.codeRec_of kin hcd) (bt _ _ _ _ (wpAny_newFunctionEnv_cells S.kind kinds fun env he s1 x1 => ?_))
  subst he
  refine ⟨nolim.keeps x1.toInCall.keep, codeAny_func ?_⟩
  obtain ⟨t, ht, hq⟩ := go cdv A outer s H vs Q E (room.deeper _) gu q
  have I : Inv (cxOf (L2.CX P w) P w K mg base N qual scope f cdv A outer s H E) [] (start N vs) H s1 := inv_start S room.hd e0 nv rv x1
  refine wpAny_mono (ht.run [] s1 (start N vs) H _ I hq) (fun fl s' hs => ?_) fun _ _ z => z
  cases fl with
  | ret u =>
    obtain ⟨v, σ', H', J, r1, r2⟩ := hs
    exact ⟨v, H', J.os, J.bare, J.base, J.hok, r1, r2⟩
  | next =>
    obtain ⟨σ', H', J, r2⟩ := hs
    exact ⟨V.non, H', J.os, J.bare, J.base, J.hok, rfl, r2⟩
  | brk =>
    obtain ⟨_, _, _, z⟩ := hs
    exact z.elim
  | cont =>
    obtain ⟨_, _, _, z⟩ := hs
    exact z.elim
/-- what a def promises: its meaning -/
def spOf (K : Fg) (n : Nat) (f : List D → M D) : Sp := fun vs H Q E => vs.length = n ∧ ∃ xs m g, RDs K g H xs vs ∧ Rel K g m H ∧ Po K (⟨fun c d _ H' => E c d H', none⟩ : WG) [] (repD K) H g H (f xs m) Q
/-- how a call with n arguments binds: the defaults that fill up -/
structure BindN (K : Fg) (fd : FuncData) (ps : List Str) (dfl : List D) (n : Nat) : Prop where
  ex : ∃ (ds : List Value) (dvs : List V), (∀ (s : Shared) (us : List Value), K.In s.heap → us.length = n → BindsTo s fd ⟨us, []⟩ (ps.zip (us ++ ds))) ∧ Vals dvs ds ∧ n + ds.length = ps.length ∧ ∀ g H, RDs K g H (dfl.drop (dfl.length - (ps.length - n))) dvs
/-- a def that may be called by its name: f its meaning at all arguments -/
structure Callee (X : Cx) (k : Nat) (x : Str) (ps : List Str) (dfl : List D) (f : List D → M D) : Prop where
  ex : ∃ (a : Addr) (fd : FuncData), X.mg x = some (.ref a) ∧ PySem.W.keepIn X.K (.ref a) = true ∧ FnG X.prog X.w X.K X.mg X.base k a fd ps (spOf X.K ps.length f) ∧ ∀ n, n ≤ ps.length → ps.length ≤ n + dfl.length → BindN X.K fd ps dfl n
section
variable {X : Cx} {W : WG} {x : Str} {ps : List Str} {dfl : List D} {k : Nat} {cf : List D → M D} {fs : Env → M (List D)} {p pos : Pos} {es : List Expr}
/-- the callee runs, by values -/
theorem run_callee (tk : Takes X W.w) (hr : Room k X.A) (hgu : X.A.guards = some []) {a : Addr} {fd : FuncData} (F : FnG X.prog X.w X.K X.mg X.base k a fd ps (spOf X.K ps.length cf)) {n : Nat} (B : BindN X.K fd ps dfl n)
    {pins : List (Addr × Obj)} {σ : L2.St} {H : Hp} {s : Shared} {Q : VK} {us : List Value} {vs : List V} {xs : List D} {m : Store} {g : List Addr} {H0 : Hp} (I : Inv X pins σ H s) (r : Vals vs us) (hn : us.length = n) (rx : RDs X.K g H xs vs) (rl : Rel X.K g m H)
    (po : Po X.K W σ (repD X.K) H0 g H (cf (filled ps.length dfl xs) m) Q) : wpAny (model X.prog X.w) X.A (call (.ref a) us) (EP X pins σ Q) X.xe s := by
  obtain ⟨ds, dvs, hb, rd, hl, rdd⟩ := B.ex
  have hv : Vals (vs ++ dvs) (us ++ ds) := r.append rd
  have hlen : (vs ++ dvs).length = ps.length := by rw [hv.length, List.length_append, hn]; exact hl
  have hxl : xs.length = n := by rw [rx.length, r.length, hn]
  have sp : spOf X.K ps.length cf (vs ++ dvs) H Q (WE W.w σ) := by
    refine ⟨hlen, filled ps.length dfl xs, m, g, ?_, rl, ?_⟩
    · unfold filled
      rw [hxl]
      exact rx.app (rdd g H)
    · cases hq : cf (filled ps.length dfl xs) m with
      | ok d m1 => rw [hq] at po; exact po
      | err e m1 => rw [hq] at po; exact po
      | stuck => rw [hq] at po; exact po
  refine wpAny_call (codeAny_mono (F.run X.A X.stack s H ⟨us, []⟩ (us ++ ds) (vs ++ dvs) Q (WE W.w σ) hr hgu I.env0 (hb s us I.kIn hn) hv sp) fun res s' hq => ?_)
  cases res with
  | error e => exact passAt tk σ pins H s e s' I hq
  | ok fl =>
    cases fl with
    | ret u => exact I.after hq
    | next => exact False.elim hq
    | brk => exact False.elim hq
    | cont => exact False.elim hq
theorem tailM {α β γ : Type} {K : Fg} {σ : L2.St} {rep : Rep α β} {rep' : Rep γ β} {H0 : Hp} {g : List Addr} {H : Hp} {m : Store} {Q : β → Hp → Prop} {x : M γ} {f : γ → α} (hr : ∀ H0 g H a v, rep' H0 g H a v → rep H0 g H (f a) v) (h : Po K W σ rep H0 g H ((x >>= fun a => pure (f a)) m) Q) : Po K W σ rep' H0 g H (x m) Q := by
  have h' : Po K W σ rep H0 g H (M.bnd x (fun a => M.ret (f a)) m) Q := h
  unfold M.bnd at h'
  cases e : x m with
  | ok a m1 =>
    rw [e] at h'
    exact fun g1 H1 v e1 rl rp => h' g1 H1 v e1 rl (hr _ _ _ _ _ rp)
  | err y m1 => rw [e] at h'; exact h'
  | stuck => rw [e] at h'; exact h'.elim
theorem e_call {e : Expr} (tk : Takes X W.w) (hr : Room k X.A) (hgu : X.A.guards = some []) (hg : Gl X x) (C : Callee X k x ps dfl cf) (hd : (x == ("__debug__" : Str)) = false) (ns : ∀ y ∈ e :: es, NotStar y) (ha : PA X (e :: es) (tDs X.K W fs)) :
    PE X (.Call (.Name x p) (e :: es) [] pos) (tR X.K W fun r => do
      let xs ← fs r
      return .d (← (do
        chk (xs.length ≤ ps.length ∧ ps.length ≤ xs.length + dfl.length)
        cf (filled ps.length dfl xs) : M D))) := by
  obtain ⟨a, fd, hm, hk, F, B⟩ := C.ex
  refine ⟨fun pins s σ H Q I ⟨r, m, g, hs, rl, po⟩ => ?_⟩
  refine wpAny_Call_Name_kw (ld_glob I hg hm ?_ hd)
  have run : ∀ (ap : Pos), wpAny (model X.prog X.w) X.A (spliced (backTo ap (starEach (e :: es) X.env))) (AP X pins σ (fun vs H1 => ∃ xs m1 g1, RDs X.K g1 H1 xs vs ∧ Rel X.K g1 m1 H1 ∧ (xs.length ≤ ps.length ∧ ps.length ≤ xs.length + dfl.length) ∧ Po X.K W σ (repD X.K) H g1 H1 (cf (filled ps.length dfl xs) m1) Q)) X.xe s := fun ap =>
    ha.run ap pins s σ H _ I (tM.step hs rl po (fun _ z => z) fun xs m1 g1 H1 vs e1 rl1 hs1 rx fr1 po1 => by
      have po2 := tailM (rep' := repD X.K) (rep := RR X.K) (f := R.d) (fun _ _ _ _ _ z => z) po1
      obtain ⟨c, po2⟩ := chk_ok po2
      exact ⟨xs, m1, g1, rx, rl1, c, po2⟩)
  refine PySem.W.callWith_K (h₀ := X.base) I.ok.mod.kin hk (thn (run pos) fun us s1 ⟨vs, H1, I1, r1, xs, m1, g1, rx, rl1, c, po1⟩ => ⟨I1.kIn, ?_⟩) (star_of (ns e List.mem_cons_self)) (plain_of fun y hy => ns y (List.mem_cons_of_mem _ hy))
  exact run_callee tk hr hgu F (B xs.length c.1 c.2) I1 r1 (by show us.length = xs.length; rw [← r1.length, rx.length]) rx rl1 po1
theorem e_call0 (tk : Takes X W.w) (hr : Room k X.A) (hgu : X.A.guards = some []) (hg : Gl X x) (C : Callee X k x ps dfl cf) (hd : (x == ("__debug__" : Str)) = false) :
    PE X (.Call (.Name x p) [] [] pos) (tR X.K W fun r => do
      let xs ← (pure [] : M (List D))
      return .d (← (do
        chk (xs.length ≤ ps.length ∧ ps.length ≤ xs.length + dfl.length)
        cf (filled ps.length dfl xs) : M D))) := by
  obtain ⟨a, fd, hm, hk, F, B⟩ := C.ex
  refine ⟨fun pins s σ H Q I ⟨r, m, g, hs, rl, po⟩ => ?_⟩
  refine wpAny_Call_Name_kw (ld_glob I hg hm ?_ hd)
  have po2 := tailM (rep' := repD X.K) (rep := RR X.K) (f := R.d) (fun _ _ _ _ _ z => z) (show PoR X.K W σ H g H (((chk (([] : List D).length ≤ ps.length ∧ ps.length ≤ ([] : List D).length + dfl.length) >>= fun _ => cf (filled ps.length dfl [])) >>= fun y => pure (R.d y)) m) Q from po)
  obtain ⟨c, po2⟩ := chk_ok po2
  exact PySem.W.callWith_K0 I.kIn hk (run_callee (us := []) (vs := []) tk hr hgu F (B 0 c.1 c.2) I .nil rfl .nil rl po2)
end

/-! ### statements -/
/-- what is wanted behind a statement -/
def PoS (K : Fg) (W : WG) (g : List Addr) (H : Hp) (x : SR) (D : Ends) : Prop :=
  match x with
  | .ok .nx r m => ∀ g' H' σ', Ext g H g' H' → Rel K g' m H' → RS K W.g g' H' r σ' → D.nx σ' H'
  | .ok .brk r m => ∀ g' H' σ', Ext g H g' H' → Rel K g' m H' → RS K W.g g' H' r σ' → D.bk σ' H'
  | .ok .cont r m => ∀ g' H' σ', Ext g H g' H' → Rel K g' m H' → RS K W.g g' H' r σ' → D.ct σ' H'
  | .ok (.ret d) r m => ∀ g' H' v, Ext g H g' H' → Rel K g' m H' → RD K g' H' d v → D.rt v H'
  | .err e r m => ∀ g' H' σ' cls d, Ext g H g' H' → Rel K g' m H' → RS K W.g g' H' r σ' → ExcAt K g' H' e cls d → (∀ a, d = some a → H a = none) → W.w cls d σ' H'
  | .stuck => False
def tS (K : Fg) (W : WG) (s : SM) : TS := fun D σ H => ∃ r m g, RS K W.g g H r σ ∧ Rel K g m H ∧ PoS K W g H (s r m) D
section
variable {K : Fg} {W : WG} {g g' : List Addr} {H H' : Hp} {D : Ends} {r : Env} {m : Store} {σ : L2.St}
theorem PoS.later {x : SR} (e : Ext g H g' H') (h : PoS K W g H x D) : PoS K W g' H' x D := by
  cases x with
  | ok f r m =>
    cases f with
    | nx => exact fun g2 H2 σ2 a => h g2 H2 σ2 (e.trans a)
    | brk => exact fun g2 H2 σ2 a => h g2 H2 σ2 (e.trans a)
    | cont => exact fun g2 H2 σ2 a => h g2 H2 σ2 (e.trans a)
    | ret d => exact fun g2 H2 v a => h g2 H2 v (e.trans a)
  | err y r m => exact fun g2 H2 σ2 c d a rl hs ea nw => h g2 H2 σ2 c d (e.trans a) rl hs ea fun b z => e.free b (nw b z)
  | stuck => exact h
/-- an expression ahead of the rest -/
theorem PoS.to {α β : Type} {rep : Rep α β} {H0 : Hp} {x : Res α} {k : α → Store → SR} {Q : β → Hp → Prop} (hs : RS K W.g g H r σ) (h : PoS K W g H (x.to r k) D)
    (go : ∀ a m1 g1 H1 v, x = .ok a m1 → Ext g H g1 H1 → Rel K g1 m1 H1 → RS K W.g g1 H1 r σ → rep H0 g1 H1 a v → PoS K W g1 H1 (k a m1) D → Q v H1) : Po K W σ rep H0 g H x Q := by
  cases x with
  | ok a m1 => exact fun g1 H1 v e rl rp => go a m1 g1 H1 v rfl e rl (hs.ext e) rp (PoS.later e h)
  | err y m1 => exact fun g1 H1 c d e rl ea nw => h g1 H1 σ c d e rl (hs.ext e) ea nw
  | stuck => exact h
end
section
variable {X : Cx} {W : WG} {st : Stmt} {rest body : List Stmt} {a b : SM} {e c o i : Expr} {fe fo fi : Env → M R} {tc : Env → M Bool} {pos : Pos}
theorem s_nil : PSs X [] (tS X.K W fun r m => .ok .nx r m) := pss_nil.imp fun D σ H ⟨r, m, g, hs, rl, po⟩ => po g H σ (Ext.refl _ _) rl hs
theorem s_one (h : PS X st (tS X.K W a)) : PSs X [st] (tS X.K W a) := pss_one h
theorem s_cons (h1 : PS X st (tS X.K W a)) (h2 : PSs X rest (tS X.K W b)) : PSs X (st :: rest) (tS X.K W (SM.seq a b)) :=
  (pss_cons h1 h2).imp fun D σ H ⟨r, m, g, hs, rl, po⟩ => by
    refine ⟨r, m, g, hs, rl, ?_⟩
    unfold SM.seq at po
    cases q : a r m with
    | ok f r1 m1 =>
      rw [q] at po
      cases f with
      | nx => exact fun g1 H1 σ1 e1 rl1 hs1 => ⟨r1, m1, g1, hs1, rl1, PoS.later e1 po⟩
      | brk => exact po
      | cont => exact po
      | ret d => exact po
    | err y r1 m1 => rw [q] at po; exact po
    | stuck => rw [q] at po; exact po.elim
theorem s_pass : PS X (.Pass pos) (tS X.K W fun r m => .ok .nx r m) := ps_pass.imp fun D σ H ⟨r, m, g, hs, rl, po⟩ => po g H σ (Ext.refl _ _) rl hs
theorem s_brk : PS X (.Break pos) (tS X.K W fun r m => .ok .brk r m) := ps_break.imp fun D σ H ⟨r, m, g, hs, rl, po⟩ => po g H σ (Ext.refl _ _) rl hs
theorem s_cont : PS X (.Continue pos) (tS X.K W fun r m => .ok .cont r m) := ps_continue.imp fun D σ H ⟨r, m, g, hs, rl, po⟩ => po g H σ (Ext.refl _ _) rl hs
theorem s_doc {x : Str} {j : Nat} {pos' : Pos} : PS X (.Expr (.Constant (.str x) j pos) pos') (tS X.K W fun r m => .ok .nx r m) := ps_doc.imp fun D σ H ⟨r, m, g, hs, rl, po⟩ => po g H σ (Ext.refl _ _) rl hs
theorem s_expr (he : PE X e (tR X.K W fe)) (hs : swapsWith e none pos.line X.env = pure false) : PS X (.Expr e pos) (tS X.K W fun r m => (fe r m).to r fun _ m1 => .ok .nx r m1) :=
  (ps_expr he hs).imp fun D σ H ⟨r, m, g, hs, rl, po⟩ => ⟨r, m, g, hs, rl, PoS.to (rep := RR X.K) hs po fun a m1 g1 H1 v q e1 rl1 hs1 rp po1 => po1 g1 H1 σ (Ext.refl _ _) rl1 hs1⟩
theorem s_ret (he : PE X e (tR X.K W fe)) : PS X (.Return (some e) pos) (tS X.K W fun r m => (upM fe r m).to r fun x m1 => .ok (.ret x) r m1) :=
  (ps_ret (e_up he)).imp fun D σ H ⟨r, m, g, hs, rl, po⟩ => ⟨r, m, g, hs, rl, PoS.to (rep := repD X.K) hs po fun a m1 g1 H1 v q e1 rl1 hs1 rp po1 => po1 g1 H1 v (Ext.refl _ _) rl1 rp⟩
theorem s_retN : PS X (.Return none pos) (tS X.K W fun r m => .ok (.ret .non) r m) := ps_retN.imp fun D σ H ⟨r, m, g, hs, rl, po⟩ => po g H .non (Ext.refl _ _) rl .non
theorem s_if {sa sb : List Stmt} (hc : PT X c (tT X.K W tc)) (ha : PSs X sa (tS X.K W a)) (hb : PSs X sb (tS X.K W b)) : PS X (.If c sa sb pos) (tS X.K W fun r m => (tc r m).to r fun k m1 => if k then a r m1 else b r m1) :=
  (ps_if hc ha hb).imp fun D σ H ⟨r, m, g, hs, rl, po⟩ => ⟨r, m, g, hs, rl, PoS.to (rep := same) hs po fun k m1 g1 H1 v q e1 rl1 hs1 rp po1 => by
    cases (show k = v from rp)
    cases k with
    | true =>
      rw [if_pos rfl] at po1 ⊢
      exact ⟨r, m1, g1, hs1, rl1, po1⟩
    | false =>
      rw [if_neg Bool.false_ne_true] at po1 ⊢
      exact ⟨r, m1, g1, hs1, rl1, po1⟩⟩
/-- name = e -/
theorem s_set {n : Nat} {x : Str} {pos' : Pos} (hq : ∀ q, W.g = some q → n ≠ q.i) (hN : X.N.Nodup) (hi : X.N[n]? = some x) (hx : Loc X.env.scope x) (he : PE X e (tR X.K W fe)) (hs : swapsWith e (some (.Name x pos')) pos.line X.env = pure false) (hf : X.fn x = true ∨ X.env.scope.names.lookup x = some .local) :
    PS X (.Assign [.Name x pos'] e pos) (tS X.K W fun r m => (upM fe r m).to r fun x m1 => (asgT (.name n) x r m1).to r fun r2 m2 => .ok .nx r2 m2) :=
  (ps_set hN hi hx (e_up he) hs hf).imp fun D σ H ⟨r, m, g, hs, rl, po⟩ => ⟨r, m, g, hs, rl, PoS.to (rep := repD X.K) hs po fun a m1 g1 H1 v q e1 rl1 hs1 rp po1 => po1 g1 H1 _ (Ext.refl _ _) rl1 (hs1.set' rp hq)⟩
/-- target = e -/
theorem s_asg (hG : W.g = none) {tg : Expr} {t : T} {gt : TG} (he : PE X e (tR X.K W fe)) (hg : PG X tg gt) (tk : TgOk X.K t gt) (hs : swapsWithSole [tg] e pos.line X.env = pure false) (hw : swappedStores [tg] e X.env = pure none) (h1 : (assignEach [tg] X.env).map (·.2) = [assign tg X.env]) :
    PS X (.Assign [tg] e pos) (tS X.K W fun r m => (upM fe r m).to r fun x m1 => (asgT t x r m1).to r fun r2 m2 => .ok .nx r2 m2) :=
  (ps_asg (e_up he) hg hs hw h1).imp fun D σ H ⟨r, m, g, hs, rl, po⟩ => ⟨r, m, g, hs, rl, PoS.to (rep := repD X.K) hs po fun a m1 g1 H1 v q e1 rl1 hs1 rp po1 => by
    cases q2 : asgT t a r m1 with
    | ok r2 m2 =>
      have em := asgT_mem q2
      subst em
      rw [q2] at po1
      rw [hG] at hs1
      exact tk.run hs1 rp q2 fun σ' hs2 _ => po1 g1 H1 σ' (Ext.refl _ _) rl1 (by rw [hG]; exact hs2)
    | err y m2 => exact absurd q2 asgT_noerr
    | stuck => rw [q2] at po1; exact po1.elim⟩
/-- a, b = e1, e2 -/
theorem s_par (hG : W.g = none) {n k : Nat} {x y : Str} {e1 e2 : Expr} {f1 f2 : Env → M R} {px py pt : Pos} {kt k2 : Nat} {pt2 : Pos} (hc : X.calm = true) (hN : X.N.Nodup) (hi : X.N[n]? = some x) (hj : X.N[k]? = some y) (hij : n ≠ k) (hx : X.env.scope.names.lookup x = some .local) (hy : X.env.scope.names.lookup y = some .local)
    (ns1 : NotStar e1) (ns2 : NotStar e2) (h1 : PE X e1 (tR X.K W f1)) (h2 : PE X e2 (tR X.K W f2)) (hw : swappedStores [.Tuple [.Name x px, .Name y py] kt pt] (.Tuple [e1, e2] k2 pt2) X.env = pure (some [x, y]))
    (hs : swapsWithSole [.Tuple [.Name x px, .Name y py] kt pt] (.Tuple [e1, e2] k2 pt2) pos.line X.env = pure false) :
    PS X (.Assign [.Tuple [.Name x px, .Name y py] kt pt] (.Tuple [e1, e2] k2 pt2) pos) (tS X.K W fun r m => (upM f1 r m).to r fun x m1 => (upM f2 r m1).to r fun y m2 => .ok .nx ((r.set n (some x)).set k (some y)) m2) :=
  (ps_par hc hN hi hj hij hx hy (pa_cons (e_up h1) (pa_cons (e_up h2) pa_nil (star_of ns2)) (star_of ns1)) hw hs).imp fun D σ H ⟨r, m, g, hs, rl, po⟩ => ⟨r, m, g, hs, rl, PoS.to (rep := repD X.K) hs po fun a m1 g1 H1 v q e1 rl1 hs1 rp po1 =>
    ⟨r, m1, g1, hs1, rl1, PoS.to (rep := repD X.K) hs1 po1 fun b m2 g2 H2 u q2 e2 rl2 hs2 rp2 po2 => ⟨v, u, rfl, po2 g2 H2 _ (Ext.refl _ _) rl2 ((hs2.set' (RD.ext e2 rp) (fun q z => by rw [hG] at z; cases z)).set' rp2 (fun q z => by rw [hG] at z; cases z))⟩⟩⟩
/-- a, b, c = e1, e2, e3 -/
theorem s_par3 (hG : W.g = none) {n k l : Nat} {x y z : Str} {e1 e2 e3 : Expr} {f1 f2 f3 : Env → M R} {px py pz pt : Pos} {kt k2 : Nat} {pt2 : Pos} (hc : X.calm = true) (hN : X.N.Nodup) (hi : X.N[n]? = some x) (hj : X.N[k]? = some y) (hl : X.N[l]? = some z) (hij : n ≠ k) (hil : n ≠ l) (hjl : k ≠ l) (hx : X.env.scope.names.lookup x = some .local) (hy : X.env.scope.names.lookup y = some .local) (hz : X.env.scope.names.lookup z = some .local)
    (ns1 : NotStar e1) (ns2 : NotStar e2) (ns3 : NotStar e3) (h1 : PE X e1 (tR X.K W f1)) (h2 : PE X e2 (tR X.K W f2)) (h3 : PE X e3 (tR X.K W f3)) (hw : swappedStores [.Tuple [.Name x px, .Name y py, .Name z pz] kt pt] (.Tuple [e1, e2, e3] k2 pt2) X.env = pure (some [x, y, z]))
    (hs : swapsWithSole [.Tuple [.Name x px, .Name y py, .Name z pz] kt pt] (.Tuple [e1, e2, e3] k2 pt2) pos.line X.env = pure false) :
    PS X (.Assign [.Tuple [.Name x px, .Name y py, .Name z pz] kt pt] (.Tuple [e1, e2, e3] k2 pt2) pos) (tS X.K W fun r m => (upM f1 r m).to r fun x m1 => (upM f2 r m1).to r fun y m2 => (upM f3 r m2).to r fun z m3 => .ok .nx (((r.set n (some x)).set k (some y)).set l (some z)) m3) :=
  (ps_par3 hc hN hi hj hl hij hil hjl hx hy hz (pa_cons (e_up h1) (pa_cons (e_up h2) (pa_cons (e_up h3) pa_nil (star_of ns3)) (star_of ns2)) (star_of ns1)) hw hs).imp fun D σ H ⟨r, m, g, hs, rl, po⟩ => ⟨r, m, g, hs, rl, PoS.to (rep := repD X.K) hs po fun a m1 g1 H1 v q e1 rl1 hs1 rp po1 =>
    ⟨r, m1, g1, hs1, rl1, PoS.to (rep := repD X.K) hs1 po1 fun b m2 g2 H2 u q2 e2 rl2 hs2 rp2 po2 =>
      ⟨r, m2, g2, hs2, rl2, PoS.to (rep := repD X.K) hs2 po2 fun d m3 g3 H3 w q3 e3 rl3 hs3 rp3 po3 => ⟨v, u, w, rfl, po3 g3 H3 _ (Ext.refl _ _) rl3 (((hs3.set' (RD.ext e3 (RD.ext e2 rp)) (fun q z => by rw [hG] at z; cases z)).set' (RD.ext e3 rp2) (fun q z => by rw [hG] at z; cases z)).set' rp3 (fun q z => by rw [hG] at z; cases z))⟩⟩⟩⟩
end
end Pf

/-! Pf10: stores of items, names that take a comprehension, loops. -/
namespace Pf
open PySem L2
section
variable {X : Cx} {W : WG} {e o i c elt iter tg : Expr} {ifs : List Expr} {body : List Stmt} {fe fo fi : Env → M R} {tc : Env → M Bool} {b : SM} {pos : Pos}
/-- o[i] = v, a list or a dict -/
def rSets : TSet := fun o i v H Q => rSetL o i v H Q ∨ rSetD o i v H Q
theorem set_any (hu : X.A.units + 64 < cLine) : PSet X rSets := by
  intro pins s σ H o i v ov iv u Q I ro ri rv h
  rcases h with h | h
  · exact set_list pins s σ H o i v ov iv u Q I ro ri rv h
  · exact set_dict (by omega) pins s σ H o i v ov iv u Q I ro ri rv h
theorem setIx_ok {l k : R} {x : D} {K : Fg} {g : List Addr} {H H1 H2 : Hp} {m : Store} {ov kv v : V} {r : Env} {σ : L2.St} {D : Ends} (rl : Rel K g m H) (hs : RS K W.g g H r σ) (rl' : RR K H1 g H l ov) (rk : RR K H2 g H k kv) (rx : RD K g H x v)
    (po : PoS K W g H ((setIx l k x m).to r fun _ m4 => .ok .nx r m4) D) : rSets ov kv v H fun H' => D.nx σ H' := by
  unfold setIx at po
  split at po
  · rename_i h
    cases (show RD K g H (.ref h) ov from rl') with
    | @ref _ a ea =>
      have e0 : (getA h >>= fun c => setC h k x c) m = (match m[h]? with
        | some c => setC h k x c m
        | none => .stuck) := by
        show M.bnd (getA h) _ m = _
        unfold M.bnd getA
        cases m[h]? <;> rfl
      rw [e0] at po
      cases q : m[h]? with
      | none => rw [q] at po; exact po.elim
      | some c =>
        rw [q] at po
        simp only at po
        cases c with
        | frz xs => exact (show False from po).elim
        | exc xs => exact (show False from po).elim
        | lst xs =>
          obtain ⟨vs, h1, h2⟩ := rl.own ea q
          cases k with
          | tl ks => exact (show False from po).elim
          | d k =>
            cases k with
            | int n =>
              cases (show RD K g H (.int n) kv from rk)
              cases q5 : ixN xs.length n with
              | none =>
                have z : setC h (.d (.int n)) x (.lst xs) m = .stuck := by
                  show M.bnd (optM (ixN xs.length n)) _ m = .stuck
                  rw [q5]
                  rfl
                rw [z] at po
                exact po.elim
              | some j =>
                have z : setC h (.d (.int n)) x (.lst xs) m = .ok () (m.set h (.lst (xs.set j x))) := by
                  show M.bnd (optM (ixN xs.length n)) (fun j => putL h (xs.set j x)) m = _
                  rw [q5]
                  rfl
                rw [z] at po
                obtain ⟨ex, rlw⟩ := rl.write ea h1 (h2.set rx j)
                exact .inl ⟨a, vs, n, j, rfl, rfl, h1, by rw [← h2.length]; exact q5, po g _ σ ex rlw (hs.ext ex)⟩
            | _ => exact (show False from po).elim
        | dct ks =>
          obtain ⟨ws, h1, h2⟩ := rl.ownT ea q
          cases k with
          | tl _ => exact (show False from po).elim
          | d k =>
            cases q5 : keyOf k with
            | none =>
              have z : setC h (.d k) x (.dct ks) m = .stuck := by
                show M.bnd (optM (keyOf k)) _ m = .stuck
                rw [q5]
                rfl
              rw [z] at po
              exact po.elim
            | some j =>
              have ek := keyOf_ok rk q5
              by_cases c : ks.length < sizeLine
              · have z : setC h (.d k) x (.dct ks) m = .ok () (m.set h (.dct (putD ks j x))) := by
                  show M.bnd (optM (keyOf k)) (fun n => M.bnd (chk (ks.length < sizeLine)) fun _ => putT h (putD ks n x)) m = _
                  rw [q5]
                  show M.bnd (chk (ks.length < sizeLine)) (fun _ => putT h (putD ks j x)) m = _
                  unfold M.bnd chk
                  rw [if_pos c]
                  rfl
                rw [z] at po
                obtain ⟨ex, rlw⟩ := rl.writeT ea h1 (h2.put (k := j) rx)
                refine .inr ⟨a, _, rfl, by rw [ek]; exact DPut.k (k := j) h1 (by rw [← h2.length]; exact c), ?_⟩
                exact po g _ σ ex rlw (hs.ext ex)
              · have z : setC h (.d k) x (.dct ks) m = .stuck := by
                  show M.bnd (optM (keyOf k)) (fun n => M.bnd (chk (ks.length < sizeLine)) fun _ => putT h (putD ks n x)) m = _
                  rw [q5]
                  show M.bnd (chk (ks.length < sizeLine)) (fun _ => putT h (putD ks j x)) m = _
                  unfold M.bnd chk
                  rw [if_neg c]
                rw [z] at po
                exact po.elim
  · exact (show False from po).elim
theorem s_setix {p2 : Pos} (hu : X.A.units + 64 < cLine) (ns : NotSlice i) (ne : swapsWithSole [.Subscript o i p2] e pos.line X.env = pure false) (he : PE X e (tR X.K W fe)) (ho : PE X o (tR X.K W fo)) (hi : PE X i (tR X.K W fi)) :
    PS X (.Assign [.Subscript o i p2] e pos) (tS X.K W fun r m => (upM fe r m).to r fun x m1 => (fo r m1).to r fun l m2 => (fi r m2).to r fun k m3 => (setIx l k x m3).to r fun _ m4 => .ok .nx r m4) :=
  (ps_asg (e_up he) (pg_sub ho hi (set_any hu) (fun v => by cases i <;> first | rfl | exact ns.elim)) ne rfl rfl).imp fun D σ H ⟨r, m, g, hs, rl, po⟩ =>
    ⟨r, m, g, hs, rl, PoS.to (rep := repD X.K) hs po fun x m1 g1 H1 v q1 e1 rl1 hs1 rx po1 =>
      ⟨r, m1, g1, hs1, rl1, PoS.to (rep := RR X.K) hs1 po1 fun l m2 g2 H2 ov q2 e2 rl2 hs2 rl' po2 =>
        ⟨r, m2, g2, hs2, rl2, PoS.to (rep := RR X.K) hs2 po2 fun k m3 g3 H3 kv q3 e3 rl3 hs3 rk po3 =>
          setIx_ok rl3 hs3 (RR.ext e3 rl') rk (RD.ext e3 (RD.ext e2 rx)) po3⟩⟩⟩
/-- name = [..] on one line -/
theorem s_setLc (hG : W.g = none) {n : Nat} {y : Str} {py spos : Pos} {t : T} {gt : TG} {own : List (Str × Nat)} {scope : Scope} {fit : Env → M (List D × List (Nat × List D))} {ct : Env → M Bool} {ev : Env → M D} (hc : X.calm = true) (hN : X.N.Nodup) (hy : X.N[n]? = some y) (hyl : X.env.scope.names.lookup y = some .local)
    (hsw : swapsWith (.ListComp elt [⟨tg, iter, ifs, 0⟩] scope pos) (some (.Name y py)) spos.line X.env = pure true) (hi : PI X tg iter (tI X.K W fit)) (ok : BlkOk X.N X.env.scope scope own)
    (tk : TgOk X.K t gt) (sub : ∀ i ∈ t.slots, i ∈ own.map (·.2))
    (hg : ∀ (s : Shared) (H : Hp) (C : Addr) (cl : List (Str × Addr)) (fp : List Addr), PG (X.blk s H scope (compEnvC scope cl C X.env) fp) tg gt)
    (ht : ∀ (s : Shared) (H : Hp) (C : Addr) (cl : List (Str × Addr)) (fp : List Addr), PTs (X.blk s H scope (compEnvC scope cl C X.env) fp) ifs (tT X.K W0 ct))
    (he : ∀ (s : Shared) (H : Hp) (C : Addr) (cl : List (Str × Addr)) (fp : List Addr), PE (X.blk s H scope (compEnvC scope cl C X.env) fp) elt (tD X.K W0 ev))
    (hs : ∀ x, foldedSetIterable iter X.env x = pure x) :
    PS X (.Assign [.Name y py] (.ListComp elt [⟨tg, iter, ifs, 0⟩] scope pos) spos) (tS X.K W fun r m => (upM (fun r => do
      let p ← fit r
      let ys ← compL (chkAll p.2) (fun x => noErr (compT ct ev t (own.map (·.2)) r x)) p.1
      chk (ys.length ≤ sizeLine)
      return .tl ys) r m).to r fun x m1 => (asgT (.name n) x r m1).to r fun r2 m2 => .ok .nx r2 m2) :=
  (ps_setLc hc hN hy hyl hsw hi ok hg ht he hs).imp fun D σ H ⟨r, m, g, hrs, rl, po⟩ => by
    show tLc _ _ _ _ _ σ H fun x H1 => gName n x σ H1 D.nx
    refine comp_core (W := W) hG tk sub ⟨r, m, g, hrs, rl, ?_⟩
    generalize (fun r => do
      let p ← fit r
      let ys ← compL (chkAll p.2) (fun x => noErr (compT ct ev t (own.map (·.2)) r x)) p.1
      chk (ys.length ≤ sizeLine)
      return .tl ys : Env → M R) = f at po ⊢
    have po' : PoS X.K W g H ((M.bnd (f r) (fun x => R.up x) m).to r fun x m1 => (asgT (.name n) x r m1).to r fun r2 m2 => .ok .nx r2 m2) D := po
    unfold M.bnd at po'
    cases q : f r m with
    | stuck => rw [q] at po'; exact po'.elim
    | err z m1 =>
      rw [q] at po'
      exact fun g1 H1 c d e1 rl1 ea nw => po' g1 H1 σ c d e1 rl1 (hrs.ext e1) ea nw
    | ok x m1 =>
      rw [q] at po'
      intro g1 H1 v e1 rl1 rx
      cases x with
      | d x => exact po' g1 H1 _ e1 rl1 ((hrs.ext e1).set' rx (fun q z => by rw [hG] at z; cases z))
      | tl xs =>
        obtain ⟨a, vs, rfl, h1, h2, h3, h4⟩ := rx
        have ra : RD X.K (g1 ++ [a]) H1 (.ref m1.length) (.ref a) := .ref (by
          rw [← rl1.len, List.getElem?_append_right (Nat.le_refl _)]
          simp)
        exact po' (g1 ++ [a]) H1 _ (e1.named h3) (rl1.named h1 h2 h4) ((hrs.ext (e1.named h3)).set' ra (fun q z => by rw [hG] at z; cases z))
/-- a for's turns -/
theorem forL_nil {st : M Unit} {turn : D → SM} {r : Env} {m : Store} : forL st turn [] r m = (st m).to r fun _ m1 => .ok .nx r m1 := rfl
theorem forL_cons {st : M Unit} {turn : D → SM} {x : D} {xs : List D} {r : Env} {m : Store} : forL st turn (x :: xs) r m = (st m).to r fun _ m1 => match turn x r m1 with
    | .ok .nx r2 m2 => forL st turn xs r2 m2
    | .ok .cont r2 m2 => forL st turn xs r2 m2
    | .ok .brk r2 m2 => .ok .nx r2 m2
    | y => y := rfl
theorem s_for (hG : W.g = none) {t : T} {gt : TG} {fit : Env → M (List D × List (Nat × List D))} (hp : PassesOwn (model X.prog X.w) X.A X.env X.xe) (hc : X.calm = true) (hi : PI X tg iter (tI X.K W fit)) (hg : PG X tg gt) (tk : TgOk X.K t gt) (hb : PSs X body (tS X.K W b)) (hs : ∀ x, foldedSetIterable iter X.env x = pure x) :
    PS X (.For tg iter body [] pos) (tS X.K W fun r m => (fit r m).to r fun p m1 => forL (chkAll p.2) (forT t b) p.1 r m1) :=
  (ps_for hp hc hi hg hb hs).imp fun D σ H ⟨r, m, g, hrs, rl, po⟩ => by
    refine ⟨r, m, g, hrs, rl, PoS.to (rep := repI X.K) hrs po fun p m1 g1 H1 J q1 e1 rl1 hs1 itok po1 => ?_⟩
    have itok : ItOk X.K g1 H1 J p.1 p.2 := itok
    obtain ⟨xs, hs'⟩ := p
    simp only at po1 itok
    let Wv : Nat → Nat → L2.St → Hp → Prop := fun i n σ' H' => n = xs.length - i ∧ i ≤ xs.length ∧ ∃ r' m' g', Ext g1 H1 g' H' ∧ Rel X.K g' m' H' ∧ RS X.K W.g g' H' r' σ' ∧ PoS X.K W g' H' (forL (chkAll hs') (forT t b) (xs.drop i) r' m') D
    refine ⟨Wv, ⟨xs.length, by simp, Nat.zero_le _, r, m1, g1, Ext.refl _ _, rl1, hs1, by rw [List.drop_zero]; exact po1⟩, ?_⟩
    rintro i n σ' H' ⟨rfl, hi', r', m', g', ex, rl', hrs', po'⟩
    by_cases hlt : i < xs.length
    · rw [List.drop_eq_getElem_cons hlt, forL_cons] at po'
      cases q2 : chkAll hs' m' with
      | stuck => rw [q2] at po'; exact po'.elim
      | err _ _ => exact absurd q2 chkAll_noerr
      | ok u m2 =>
        rw [q2] at po'
        obtain ⟨em, st⟩ := chkAll_ok q2
        subst em
        simp only [Res.to] at po'
        obtain ⟨stop, go⟩ := itok g' m2 H' ex rl' st
        obtain ⟨go, yl⟩ := go i xs[i] (List.getElem?_eq_getElem hlt)
        refine .inr ⟨go, fun σ3 H3 => Wv (i + 1) (xs.length - (i + 1)) σ3 H3, fun σ3 H3 w => ⟨_, by omega, w⟩, fun v H2 y2 => ?_⟩
        obtain ⟨e2, rl2, rx⟩ := yl v H2 y2
        unfold forT at po'
        cases q3 : asgT t xs[i] r' m2 with
        | stuck => rw [q3] at po'; exact po'.elim
        | err _ _ => exact absurd q3 asgT_noerr
        | ok r2 m3 =>
          have em := asgT_mem q3
          subst em
          rw [q3] at po'
          simp only [Res.to] at po'
          refine tk.run (by have := hrs'.ext e2; rw [hG] at this; exact this) rx q3 fun σ2 hrs2 _ => ⟨r2, m3, g', by rw [hG]; exact hrs2, rl2, ?_⟩
          have po' := PoS.later e2 po'
          cases q4 : b r2 m3 with
          | stuck => rw [q4] at po'; exact po'.elim
          | err z r3 m4 => rw [q4] at po'; exact po'
          | ok f r3 m4 =>
            rw [q4] at po'
            cases f with
            | nx => exact fun g3 H3 σ3 e3 rl3 hrs3 => ⟨rfl, hlt, r3, m4, g3, (ex.trans e2).trans e3, rl3, hrs3, PoS.later e3 po'⟩
            | cont => exact fun g3 H3 σ3 e3 rl3 hrs3 => ⟨rfl, hlt, r3, m4, g3, (ex.trans e2).trans e3, rl3, hrs3, PoS.later e3 po'⟩
            | brk => exact po'
            | ret d => exact po'
    · have ei : i = xs.length := by omega
      subst ei
      rw [List.drop_length, forL_nil] at po'
      cases q2 : chkAll hs' m' with
      | stuck => rw [q2] at po'; exact po'.elim
      | err _ _ => exact absurd q2 chkAll_noerr
      | ok u m2 =>
        rw [q2] at po'
        obtain ⟨em, st⟩ := chkAll_ok q2
        subst em
        exact .inl ⟨(itok g' m2 H' ex rl' st).1 _ (Nat.le_refl _), po' g' H' σ' (Ext.refl _ _) rl' hrs'⟩
/-- a while's turns, at most wf -/
theorem s_while (wf : Nat) (hp : PassesOwn (model X.prog X.w) X.A X.env X.xe) (hc : PT X c (tT X.K W tc)) (hb : PSs X body (tS X.K W b)) : PS X (.While c body [] pos) (tS X.K W (whileL tc b wf)) :=
  (ps_while hp hc hb).imp fun D σ H ⟨r, m, g, hrs, rl, po⟩ => by
    refine ⟨fun n σ' H' => ∃ r' m' g', RS X.K W.g g' H' r' σ' ∧ Rel X.K g' m' H' ∧ PoS X.K W g' H' (whileL tc b n r' m') D, ⟨wf, r, m, g, hrs, rl, po⟩, ?_⟩
    rintro n σ' H' ⟨r', m', g', hrs', rl', po'⟩
    cases n with
    | zero => exact po'.elim
    | succ n =>
      have po2 : PoS X.K W g' H' ((tc r' m').to r' fun k m1 => if k then (match b r' m1 with
        | .ok .nx r2 m2 => whileL tc b n r2 m2
        | .ok .cont r2 m2 => whileL tc b n r2 m2
        | .ok .brk r2 m2 => .ok .nx r2 m2
        | y => y) else .ok .nx r' m1) D := po'
      refine ⟨r', m', g', hrs', rl', PoS.to (rep := same) hrs' po2 fun k m1 g1 H1 v q e1 rl1 hs1 rp po3 => ?_⟩
      cases (show k = v from rp)
      cases k with
      | false =>
        rw [if_neg Bool.false_ne_true] at po3 ⊢
        exact po3 g1 H1 σ' (Ext.refl _ _) rl1 hs1
      | true =>
        rw [if_pos rfl] at po3 ⊢
        refine ⟨fun σ3 H3 => ∃ r' m' g', RS X.K W.g g' H3 r' σ3 ∧ Rel X.K g' m' H3 ∧ PoS X.K W g' H3 (whileL tc b n r' m') D, fun σ3 H3 w => ⟨n, Nat.lt_succ_self _, w⟩, r', m1, g1, hs1, rl1, ?_⟩
        cases q4 : b r' m1 with
        | stuck => rw [q4] at po3; exact po3.elim
        | err z r3 m4 => rw [q4] at po3; exact po3
        | ok f r3 m4 =>
          rw [q4] at po3
          cases f with
          | nx => exact fun g3 H3 σ3 e3 rl3 hrs3 => ⟨r3, m4, g3, hrs3, rl3, PoS.later e3 po3⟩
          | cont => exact fun g3 H3 σ3 e3 rl3 hrs3 => ⟨r3, m4, g3, hrs3, rl3, PoS.later e3 po3⟩
          | brk => exact po3
          | ret d => exact po3
end
end Pf

set_option maxHeartbeats 4000000
/-! Pe1: exceptions of own classes over ValueError and LookupError are made. -/
namespace Pf
open PySem PySem.Spec PyProof.Rows L2
/-! ### the built-in bases -/
def tailOf (B : String) : List Value := [.type B, .type "Exception", .type "BaseException", .type "object"]
/-- what is known of a built-in base -/
structure BaseT (B nw ini : String) : Prop where
  F : ExcBaseFacts B nw ini (tailOf B)
  pass : ∀ self, refuseLoop self "__setattr__" (tailOf B) = pure ()
  obj : (tailOf B).contains (.type "object") = true
  ty : typeOf (.type B) = pure (.type "type")
theorem base_ve : BaseT "ValueError" "ValueError.__new__" "ValueError.__init__" := ⟨F.excBase_ValueError, F.store_ValueError.passes, by decide +kernel, by kernel_rfl⟩
theorem base_le : BaseT "LookupError" "LookupError.__new__" "LookupError.__init__" := ⟨F.excBase_LookupError, F.store_LookupError.passes, by decide +kernel, by kernel_rfl⟩
section
open Builtin Builtin.ObjectAttr
variable {prog : Program} {w : World} {Ar : Around} {R : Result → Shared → Prop} {hp1 : Heap} {gs : Array GenState} {dr : Drawn} {tc : Nat} {os : OsState}
theorem xd_first {M : Model} {E : Value → Shared → Prop} {dx : Addr} {nm : Str} {tk : Tok} {u : Value} {Q : Fin → Shared → Prop} (he : hp1.Ns dx (fun _ => none))
    (fin : ∀ h2 t2, h2.Ns1 dx (fun y => if y = nm then some u else none) → Heap.SameBut dx hp1 h2 → Q (.done (.ret .none)) ⟨h2, gs, dr, t2, os⟩) :
    wpAny M Ar (storeInDict dx (.str nm tk) nm u) Q E ⟨hp1, gs, dr, tc, os⟩ := PySem.HandSPX.store_in_new he fin
theorem xd_next {M : Model} {E : Value → Shared → Prop} {dx : Addr} {nm : Str} {tk : Tok} {u : Value} {m0 : Str → Option Value} {ns : List Str} {Q : Fin → Shared → Prop} (he : hp1.Ns1 dx m0) (hw : PySem.Within m0 ns) (hz : ns.length ≤ 1000)
    (fin : ∀ h2 t2, h2.Ns1 dx (fun y => if y = nm then some u else m0 y) → Heap.SameBut dx hp1 h2 → Q (.done (.ret .none)) ⟨h2, gs, dr, t2, os⟩) :
    wpAny M Ar (storeInDict dx (.str nm tk) nm u) Q E ⟨hp1, gs, dr, tc, os⟩ := PySem.OEX.store_in_old he hw hz fin
/-- what the class's mro must give -/
structure MroX (mro : List Value) : Prop where
  pass : ∀ self, refuseLoop self "__setattr__" mro = pure ()
  obj : mro.contains (.type "object") = true
  ne : mro.isEmpty = false
theorem sa_first {K : PySem.W.Frag} {nm : Str} {tk : Tok} {u : Value} {x C : Addr} {fv : Array Value} {cd : ClassData} (KX : K.In hp1) (ex : hp1.get? x = some { cls := .ref C, data := .fields fv }) (hcd : PySem.W.clsIn K C = some cd) (hm : MroX cd.mro) (hh : cd.hasDict = true)
    (ha : PySem.W.findIn K (.ref C) nm = some none)
    (fin : ∀ h2 t2 dx, (∀ b o, b ≠ x → hp1.get? b = some o → h2.get? b = some o) → hp1.objs.size ≤ dx → dx ≠ x → h2.get? x = some { cls := .ref C, dict := some dx, data := .fields fv } → h2.Ns1 dx (fun y => if y = nm then some u else none) → R (.ok (.ret .none)) ⟨h2, gs, dr, t2, os⟩) :
    codeAny (model prog w) Ar (.call (.builtin "object.__setattr__") ⟨[.ref x, .str nm tk, u], []⟩) R ⟨hp1, gs, dr, tc, os⟩ := by
  have J : PySem.W.InstAt hp1 x { cls := .ref C, data := .fields fv } C none := ⟨ex, rfl, rfl, trivial⟩
  have So := PySem.F.store_object
  have far : x ≠ hp1.objs.size := Nat.ne_of_lt (Heap.lt_size ex)
  have und : PySem.W.Looks (model prog w) hp1 (isInstance (.ref x) (.type "object")) true := J.type.andThen (PySem.W.looks_mroIn KX (by unfold PySem.W.mroIn; rw [hcd, Option.bind_some, if_neg (by rw [hm.ne]; decide), hm.obj]))
  refine codeAny_call_builtin So.slot.plain So.entry (@PySem.W.check_slot (model prog w) _ _ ⟨hp1, gs, dr, tc, os⟩ "object.__setattr__" "object" "__setattr__" (.ref x) [.str nm tk, u] [] _ So.kind So.split und (So.args (.ref x) (.str nm tk) u) ?_)
  have lm : PySem.W.Looks (model prog w) hp1 (mroOf (.ref C)) cd.mro := (PySem.W.looks_clsIn KX hcd).andThen .now
  have ln : PySem.W.Looks (model prog w) hp1 (storeTaker? none) none := .now
  have lc : PySem.W.Looks (model prog w) hp1 (classData C) cd := PySem.W.looks_clsIn KX hcd
  rw [PySem.W.osa_eq, refuse_eq]
  refine wpAny_bind (wpAny_bind (J.type.at (wpAny_bind (lm.at ?_))))
  rw [hm.pass]
  refine wpAny_pure (wpAny_bind (J.type.at (wpAny_bind ((PySem.W.looks_findIn KX ha).at (wpAny_bind (ln.at ?_))))))
  show wpAny _ _ (storeInOwnDict (.ref x) (.ref C) (.str nm tk) nm u false) _ _ _
  obtain ⟨nm0, bs, mro, ns, qn, hd, sn, sb, ab, col, del⟩ := cd
  dsimp only at hh
  subst hh
  unfold storeInOwnDict ownDictForStores
  repeat (first | with_reducible refine xd_first ?_ ?_ | with_reducible refine wpAny_loadPart_at ex ?_ | with_reducible refine lc.at ?_ | wp_step)
  · exact ⟨_, #[], _, (Heap.get?_update_ne _ _ _ _ far.symm).trans (Heap.get?_push_at rfl rfl), rfl, fun e he => absurd he (by simp), fun _ => rfl⟩
  · intro h2 t2 hn2 sb2
    have ex2 : (hp1.push { cls := .type "dict", data := .dict #[] }).get? x = some { cls := .ref C, data := .fields fv } := Heap.get?_push_of_some _ ex
    refine fin h2 t2 hp1.objs.size (fun b o hb ho => ?_) (Nat.le_refl _) far.symm ?_ hn2
    · exact (sb2.2 b (Nat.ne_of_lt (Heap.lt_size ho))).trans ((Heap.get?_update_ne _ _ _ _ hb).trans (Heap.get?_push_of_some _ ho))
    · exact (sb2.2 x far).trans (Heap.get?_update_self _ ex2 rfl)
theorem sa_next {K : PySem.W.Frag} {nm : Str} {tk : Tok} {u : Value} {x C dx : Addr} {fv : Array Value} {cd : ClassData} {m0 : Str → Option Value} {nl : List Str} (KX : K.In hp1) (ex : hp1.get? x = some { cls := .ref C, dict := some dx, data := .fields fv }) (hns : hp1.Ns1 dx m0) (hw : PySem.Within m0 nl) (hz : nl.length ≤ 1000)
    (hcd : PySem.W.clsIn K C = some cd) (hm : MroX cd.mro) (hh : cd.hasDict = true) (ha : PySem.W.findIn K (.ref C) nm = some none)
    (fin : ∀ h2 t2, (∀ b o, b ≠ dx → hp1.get? b = some o → h2.get? b = some o) → h2.Ns1 dx (fun y => if y = nm then some u else m0 y) → R (.ok (.ret .none)) ⟨h2, gs, dr, t2, os⟩) :
    codeAny (model prog w) Ar (.call (.builtin "object.__setattr__") ⟨[.ref x, .str nm tk, u], []⟩) R ⟨hp1, gs, dr, tc, os⟩ := by
  obtain ⟨od, esD, epD, hod, hdd, _⟩ := hns.count hw
  have J : PySem.W.InstAt hp1 x { cls := .ref C, dict := some dx, data := .fields fv } C (some od) := ⟨ex, rfl, rfl, hod⟩
  have So := PySem.F.store_object
  have und : PySem.W.Looks (model prog w) hp1 (isInstance (.ref x) (.type "object")) true := J.type.andThen (PySem.W.looks_mroIn KX (by unfold PySem.W.mroIn; rw [hcd, Option.bind_some, if_neg (by rw [hm.ne]; decide), hm.obj]))
  refine codeAny_call_builtin So.slot.plain So.entry (@PySem.W.check_slot (model prog w) _ _ ⟨hp1, gs, dr, tc, os⟩ "object.__setattr__" "object" "__setattr__" (.ref x) [.str nm tk, u] [] _ So.kind So.split und (So.args (.ref x) (.str nm tk) u) ?_)
  have lm : PySem.W.Looks (model prog w) hp1 (mroOf (.ref C)) cd.mro := (PySem.W.looks_clsIn KX hcd).andThen .now
  have ln : PySem.W.Looks (model prog w) hp1 (storeTaker? none) none := .now
  have lc : PySem.W.Looks (model prog w) hp1 (classData C) cd := PySem.W.looks_clsIn KX hcd
  rw [PySem.W.osa_eq, refuse_eq]
  refine wpAny_bind (wpAny_bind (J.type.at (wpAny_bind (lm.at ?_))))
  rw [hm.pass]
  refine wpAny_pure (wpAny_bind (J.type.at (wpAny_bind ((PySem.W.looks_findIn KX ha).at (wpAny_bind (ln.at ?_))))))
  show wpAny _ _ (storeInOwnDict (.ref x) (.ref C) (.str nm tk) nm u false) _ _ _
  obtain ⟨nm0, bs, mro, ns, qn, hd, sn, sb, ab, col, del⟩ := cd
  dsimp only at hh
  subst hh
  unfold storeInOwnDict ownDictForStores
  repeat (first | with_reducible refine xd_next hns hw hz ?_ | with_reducible refine wpAny_loadPart_at ex ?_ | with_reducible refine lc.at ?_ | wp_step)
  intro h2 t2 hn2 sb2
  exact fin h2 t2 (fun b o hb ho => (sb2.2 b hb).trans ho) hn2
end
/-! ### an own class over such a base -/
structure OxC (K : PySem.W.Frag) (C : Addr) (B nw ini : String) : Prop where
  base : BaseT B nw ini
  cls : ∃ nm q N bs bm sn sub ab col dd k0 k1 k2 k3 k5, K.lookup C = some (excClassObj nm q C N bs bm true sn sub ab col dd k0 k1 k2 k3 k5 nw) ∧ PySem.W.excTail (tailOf B) bm = true
  sa : PySem.W.findIn K (.ref C) "__setattr__" = some (some (.builtin "object.__setattr__"))
  exC : PySem.W.subIn K (.ref C) (.type "BaseException") = some true
  tyC : PySem.W.typeIn K (.ref C) = some (.type "type")
  kC : PySem.W.keepIn K (.ref C) = true
theorem mroX_of {B nw ini : String} (b : BaseT B nw ini) {C : Addr} {bm : List Value} (h : PySem.W.excTail (tailOf B) bm = true) : MroX (.ref C :: bm) := by
  refine ⟨fun self => ?_, ?_, rfl⟩
  · rw [refuseLoop_ref]
    exact PySem.W.excTail_pass self (b.pass self) bm h
  · have z := (PySem.W.excTail_contains "object" bm h).trans b.obj
    rw [List.contains_cons, z, Bool.or_true]
section
variable {X : Cx} {pins : List (Addr × Obj)} {σ : L2.St} {H : Hp} {s : Shared} {a C dx : Addr} {f : Str} {y : V} {u : Value} {fs : List (Str × V)} {Q : Unit → Shared → Prop} {E : Value → Shared → Prop} {Ar : Around} {B nw ini : String}
/-- self.f = y, the first one -/
theorem st_first (T : OxC X.K C B nw ini) (I : Inv X pins σ H s) (e : H a = some (exo a C none)) (hno : PySem.W.findIn X.K (.ref C) f = some none) (ry : RelV y u)
    (fin : ∀ dx s2, H dx = none → dx ≠ a → Inv X pins σ (upd (upd H dx (exd dx [(f, y)])) a (exo a C (some dx))) s2 → Q () s2) : wpAny (model X.prog X.w) Ar (setAttr (.ref a) f u) Q E s := by
  obtain ⟨nm, q, N, bs, bm, sn, sub, ab, col, dd, k0, k1, k2, k3, k5, hC, hbm⟩ := T.cls
  have cl0 : PySem.W.clsIn X.K C = some { name := nm, bases := bs, mro := .ref C :: bm, ns := N, qualname := q, hasDict := true, slotNames := sn, subclasses := sub, abstract := ab, collection := col, hasDel := false } := by
    unfold PySem.W.clsIn; rw [hC] <;> rfl
  obtain ⟨t1, ho⟩ := exo_at I.hok e
  obtain ⟨hp, g, d, t, os⟩ := s
  refine PySem.W.set_plain I.kIn (od := none) (ox := { cls := .ref C, dict := none, data := .fields #[.ref t1, .none, .none, .none, .bool false, .none] }) ⟨ho, rfl, rfl, trivial⟩ T.sa ?_
  refine sa_first I.kIn ho cl0 (mroX_of T.base hbm) rfl hno fun h2 t2 dx k dn dne hx hn => ?_
  have fr : H dx = none := I.hok.fresh dn
  have nd : ∀ {b : Addr} {o : Obj}, hp.get? b = some o → b ≠ dx := fun {b o} q => Nat.ne_of_lt (Nat.lt_of_lt_of_le (Heap.lt_size q) dn)
  have na : ∀ {b : Addr}, H b = none → b ≠ a := fun {b} n z => by rw [z, e] at n; cases n
  have un : Un X.fs [] H (upd (upd H dx (exd dx [(f, y)])) a (exo a C (some dx))) hp h2 :=
    { keep := fun b o q n _ _ => k b o (na n) q
      slot := fun b o q n _ _ => ⟨o.slots, k b o (na n) q⟩
      free := fun b o q n _ => by rw [upd_ne (na n), upd_ne (nd q)]; exact n
      there := fun b o q _ => (Decidable.em (b = a)).elim (fun hb => ⟨_, hb ▸ hx⟩) fun hb => ⟨o, k b o hb q⟩
      tups := fun b xs q => by rw [upd_ne (at_ne e q exo_tup), upd_ne (ne_of_none q fr)]; exact q
      frzs := fun b o v q => by rw [upd_ne (at_ne e q exo_frz), upd_ne (ne_of_none q fr)]; exact q
      tbls := fun b ps q => ⟨#[], by rw [upd_ne (at_ne e q exo_tbl), upd_ne (ne_of_none q fr), q]; simp⟩ }
  show Q () _
  refine fin dx _ fr dne (I.un (t' := t2) un fun b o q => ?_)
  by_cases hb : b = a
  · subst hb
    rw [upd_same] at q; cases q
    exact exo_ok hx
  · rw [upd_ne hb] at q
    by_cases hd : b = dx
    · subst hd
      rw [upd_same] at q; cases q
      exact exd_ok hn (relO_put (fs := []) ry fun g => True.intro)
    · rw [upd_ne hd] at q
      refine (I.hok b o q).stay (fun c v hc z => k c v (hc.elim (fun hc => by rw [hc]; exact hb) fun hc => at_ne e hc exo_own) z) (fun c hc => ?_) (fun c xs hc => ?_)
      · rw [upd_ne (at_ne e hc exo_own), upd_ne (ne_of_none hc fr)]; exact hc
      · rw [upd_ne (at_ne e hc exo_tup), upd_ne (ne_of_none hc fr)]; exact hc
/-- self.f = y, a further one -/
theorem st_next (T : OxC X.K C B nw ini) (I : Inv X pins σ H s) (e : H a = some (exo a C (some dx))) (ed : H dx = some (exd dx fs)) (hl : fs.length ≤ 900) (hno : PySem.W.findIn X.K (.ref C) f = some none) (ry : RelV y u)
    (fin : ∀ s2, Inv X pins σ (upd H dx (exd dx ((f, y) :: fs))) s2 → Q () s2) : wpAny (model X.prog X.w) Ar (setAttr (.ref a) f u) Q E s := by
  obtain ⟨nm, q, N, bs, bm, sn, sub, ab, col, dd, k0, k1, k2, k3, k5, hC, hbm⟩ := T.cls
  have cl0 : PySem.W.clsIn X.K C = some { name := nm, bases := bs, mro := .ref C :: bm, ns := N, qualname := q, hasDict := true, slotNames := sn, subclasses := sub, abstract := ab, collection := col, hasDel := false } := by
    unfold PySem.W.clsIn; rw [hC] <;> rfl
  obtain ⟨t1, ho⟩ := exo_at I.hok e
  obtain ⟨mA, hns, rel⟩ := exd_at I.hok ed
  have wi := within_of rel
  obtain ⟨hp, g, d, t, os⟩ := s
  obtain ⟨od, _, _, hod, _, _⟩ := hns.count wi
  refine PySem.W.set_plain I.kIn (od := some od) (ox := { cls := .ref C, dict := some dx, data := .fields #[.ref t1, .none, .none, .none, .bool false, .none] }) ⟨ho, rfl, rfl, hod⟩ T.sa ?_
  refine sa_next I.kIn ho hns wi (by rw [List.length_map]; omega) cl0 (mroX_of T.base hbm) rfl hno fun h2 t2 k hn => ?_
  have hd : ∃ o, h2.get? dx = some o := let ⟨o, _, _, e2, _⟩ := hn; ⟨o, e2⟩
  show Q () _
  exact fin _ (I.write (t' := t2) (x := dx) (e := dx) (o := exd dx ((f, y) :: fs)) (by rw [ed]; exact True.intro) (.inl rfl) k hd (exd_ok hn (relO_put ry rel)))
/-- Base.__init__(self, ..) -/
theorem base_init {us : List Value} {Qv : Value → Shared → Prop} (T : OxC X.K C B nw ini) (I : Inv X pins σ H s) (e : H a = some (exo a C none)) (hl : us.length ≤ sizeLine) (fin : ∀ s2, Inv X pins σ H s2 → Qv .none s2) :
    wpAny (model X.prog X.w) Ar (call (.builtin ini) (.ref a :: us)) Qv E s := by
  obtain ⟨nm, q, N, bs, bm, sn, sub, ab, col, dd, k0, k1, k2, k3, k5, hC, hbm⟩ := T.cls
  obtain ⟨t1, ho⟩ := exo_at I.hok e
  obtain ⟨hp, g, d, t, os⟩ := s
  refine wpAny_call (PySem.HandSPX.init_base T.base.F (fun Y => PySem.W.excTail_contains Y bm hbm) (I.kIn _ _ hC) ho hl fun h2 t2 k hx => ?_)
  have J := I.write (t' := t) (x := a) (e := a) (o := exo a C none) (by rw [e]; exact True.intro) (.inl rfl) k ⟨_, hx⟩ (exo_ok hx)
  have eu : upd H a (exo a C none) = H := funext fun b => (Decidable.em (b = a)).elim (fun hb => by rw [hb, upd_same, e]) fun hb => upd_ne hb
  rw [eu] at J
  exact fin _ J
end
end Pf

set_option maxHeartbeats 4000000
/-! Pe2: the __init__ of such a class; a raise. -/
namespace Pf
open PySem PySem.Spec PyProof.Rows L2
/-! ### Base.__init__(self, ..), self.f = p -/
/-- what is known of the program's base class B0, by the written part: its __init__ is the built-in's -/
structure BaseI (K : PySem.W.Frag) (B0 : Addr) (ini : String) : Prop where
  hg : PySem.W.specialIn K (.ref B0) "__getattribute__" = some (some (.builtin "type.__getattribute__"))
  hm : PySem.W.typeIn K (.ref B0) = some (.type "type")
  hr : PySem.W.readsIn K B0 (.type "type") = true
  hv : PySem.W.findCls K (.ref B0) (.type "type") "__init__" = some (.val (.builtin ini))
section
variable {X : Cx} {e o : Expr} {es : List Expr} {ta : TA} {to te : TE} {p1 p2 pos p' : Pos} {f : Str} {B nw ini : String}
/-- Base.__init__(self, ..): its reading -/
def tBI (K : PySem.W.Frag) (B nw ini : String) (ta : TA) : TE := fun σ H Q => ta σ H fun vs H1 => ∃ (a C : Addr) (ws : List V), vs = .ref a :: ws ∧ ws.length ≤ 1000 ∧ OxC K C B nw ini ∧ H1 a = some (exo a C none) ∧ Q .non H1
/-- self.f = e: its reading -/
def tSF (K : PySem.W.Frag) (B nw ini : String) (f : Str) (to te : TE) : TS := fun D σ H => te σ H fun y H1 => to σ H1 fun x H2 => ∃ a C : Addr, x = .ref a ∧ OxC K C B nw ini ∧ PySem.W.findIn K (.ref C) f = some none ∧
  ((H2 a = some (exo a C none) ∧ ∀ dx, H2 dx = none → dx ≠ a → D.nx σ (upd (upd H2 dx (exd dx [(f, y)])) a (exo a C (some dx)))) ∨
    ∃ (dx : Addr) (fs : List (Str × V)), H2 a = some (exo a C (some dx)) ∧ H2 dx = some (exd dx fs) ∧ fs.length ≤ 900 ∧ D.nx σ (upd H2 dx (exd dx ((f, y) :: fs))))
theorem pe_bi {B0 : Addr} {x : Str} (T0 : BaseI X.K B0 ini) (hh : PySem.W.handedIn (.builtin ini) = true) (hgl : Gl X x) (hmg : X.mg x = some (.ref B0)) (ha : PA X (e :: es) ta) (hl : (p2.endLine == pos.line) = true) (ns : ∀ y ∈ e :: es, NotStar y) (n : (e :: es).length < 30) (hdb : (x == ("__debug__" : Str)) = false) :
    PE X (.Call (.Attribute (.Name x p1) "__init__" p2) (e :: es) [] pos) (tBI X.K B nw ini ta) := by
  refine ⟨fun pins s σ H Q I h => ?_⟩
  rw [arm_eval_Call, base_of (o := .Name x p1) trivial]
  refine wpAny_bind (ld_glob I hgl hmg ?_ hdb)
  refine wpAny_bind (wpAny_standAt ?_)
  have form : methodCallForm ((e :: es).length + ([] : List Keyword).length) (backTo pos (starEach (e :: es) X.env)) (backToKw pos (keywordEach [] X.env)) = true := few_of ns n
  have at_ : methodCallPos true (.Name x p1) X.env p2 pos = pure pos := by unfold methodCallPos; simp [hl]
  unfold methodCall
  rw [form]
  obtain ⟨m, fr⟩ := I.fr
  refine wpAny_bind (wpAny_holding (PySem.W.method_of_cls fr I.ok.mod.kin T0.hg (PySem.W.cls_val fr I.ok.mod.kin T0.hm T0.hr T0.hv hh ?_)))
  refine wpAny_bind (wpAny_of_eq at_ ?_)
  show wpAny _ _ (callWith pos (Value.builtin ini) [] (backTo pos (starEach (e :: es) X.env)) []) _ _ _
  refine PyProof.Rows.callWith_method1 (thn (ha.run pos pins _ σ H _ (I.tok _) h) fun us s1 ⟨vs, H1, I1, r1, a, C, ws, ev, hlw, T, ea, q⟩ => ?_) (star_of (ns e List.mem_cons_self)) (plain_of fun y hy => ns y (List.mem_cons_of_mem _ hy))
  subst ev
  cases r1 with
  | @cons _ u0 _ ur ra rw' =>
    obtain rfl : u0 = Value.ref a := ra
    have hlen : ur.length ≤ sizeLine := by
      rw [← Paired.length rw', sizeLine_eq]
      omega
    exact base_init T I1 ea hlen fun s2 J => ⟨.non, H1, J, rfl, q⟩
theorem ps_sf (ho : PE X o to) (he : PE X e te) (hs : swapsWith e (some (.Attribute o f p')) pos.line X.env = pure false) : PS X (.Assign [.Attribute o f p'] e pos) (tSF X.K B nw ini f to te) := by
  refine ⟨fun pins s σ H D I h => ?_⟩
  refine plainObj_wpAny_Assign_Attribute (thn (he.run pins s σ H _ I h) fun v s1 ⟨y, H1, I1, r1, q1⟩ => thn (ho.run pins s1 σ H1 _ I1 q1) fun u s2 ⟨x, H2, I2, r2, a, C, ex, T, hno, q⟩ => ?_) hs
  subst ex
  obtain rfl : u = Value.ref a := r2
  rcases q with ⟨ea, q⟩ | ⟨dx, fs, ea, ed, hl, q⟩
  · exact st_first T I2 ea hno r1 fun dx s3 n ne J => ⟨σ, _, J, q dx n ne⟩
  · exact st_next T I2 ea ed hl hno r1 fun s3 J => ⟨σ, _, J, q⟩
end
/-! ### the whole __init__ -/
/-- an own class with its own __init__: its name, its base in the program, over ValueError or not, the classes it is under, its fields -/
structure XDef where
  name : Str
  base : Str
  ve : Bool
  anc : List Str
  flds : List Str
  ini : He.DefD
def storesB : List Str → List Stmt → Bool
  | [], [] => true
  | f :: fs, .Assign [.Attribute (.Name z _) g _] (.Name p _) _ :: r => decide (z = "self") && decide (g = f) && decide (p = f) && storesB fs r
  | _, _ => false
def iniB (base : Str) (flds : List Str) : List Stmt → Bool
  | .Expr (.Call (.Attribute (.Name b _) m p2) [.Name z _, .Constant (.str _) _ _] [] pos) _ :: rest => decide (b = base) && decide (m = "__init__") && decide (z = "self") && (p2.endLine == pos.line) && storesB flds rest
  | _ => false
/-- the fields stored one behind another -/
def stH (a C : Addr) : Option (Addr × List (Str × V)) → List (Str × V) → Hp → (Hp → Prop) → Prop
  | _, [], H, Q => Q H
  | none, p :: r, H, Q => ∀ dx, H dx = none → dx ≠ a → stH a C (some (dx, [p])) r (upd (upd H dx (exd dx [p])) a (exo a C (some dx))) Q
  | some (dx, gs), p :: r, H, Q => stH a C (some (dx, p :: gs)) r (upd H dx (exd dx (p :: gs))) Q
def stOk (a C : Addr) (n : Nat) (H : Hp) : Option (Addr × List (Str × V)) → Prop
  | none => H a = some (exo a C none)
  | some (dx, gs) => H a = some (exo a C (some dx)) ∧ H dx = some (exd dx gs) ∧ dx ≠ a ∧ gs.length + n ≤ 900
section
variable {X : Cx} {B nw ini : String}
theorem stores_ok (hs : X.N[0]? = some ("self" : Str)) (hl : X.env.scope.names.lookup ("self" : Str) = some .local) : ∀ (fs : List Str) (rest : List Stmt) (i : Nat), storesB fs rest = true → (∀ k f, fs[k]? = some f → X.N[i + k]? = some f ∧ X.env.scope.names.lookup f = some .local ∧ (f == ("__debug__" : Str)) = false ∧ (f == ("__classdict__" : Str)) = false) → PSs X rest (fun D σ H => ∃ (a C : Addr) (ys : List V) (st : Option (Addr × List (Str × V))), σ[0]? = some (some (.ref a)) ∧ ys.length = fs.length ∧ (∀ k y, ys[k]? = some y → σ[i + k]? = some (some y)) ∧ OxC X.K C B nw ini ∧
    (∀ f ∈ fs, PySem.W.findIn X.K (.ref C) f = some none) ∧ fs.length ≤ 100 ∧ stOk a C fs.length H st ∧ stH a C st (fs.zip ys) H fun H' => D.nx σ H')
  | [], [], i, _, _ => pss_nil.imp fun D σ H ⟨a, C, ys, st, _, hy, _, _, _, _, _, q⟩ => by
    cases st <;> exact q
  | [], _ :: _, _, h, _ => by unfold storesB at h; cases h
  | f :: fs, [], _, h, _ => by unfold storesB at h; cases h
  | f :: fs, s :: rest, i, h, hn => by
    unfold storesB at h
    split at h
    · rename_i e1 e2
      cases e1
    · rename_i f' fs' z zp g gp p pp ap r e1 e2
      cases e1
      cases e2
      simp only [Bool.and_eq_true, decide_eq_true_eq] at h
      obtain ⟨⟨⟨rfl, rfl⟩, rfl⟩, h4⟩ := h
      obtain ⟨n1, n2, n3, n4⟩ := hn 0 p rfl
      have ih := stores_ok hs hl fs rest (i + 1) h4 fun k f hk => by
        have := hn (k + 1) f hk
        rw [show i + 1 + k = i + (k + 1) by omega]
        exact this
      refine (pss_cons (ps_sf (B := B) (nw := nw) (ini := ini) (pe_var hs (.inl hl)) (pe_var n1 (.inl n2) n3 n4) rfl) ih).imp fun D σ H ⟨a, C, ys, st, q1, q2, q3, q4, q5, q8, q6, q7⟩ => ?_
      cases ys with
      | nil => simp at q2
      | cons y ys =>
        have y0 := q3 0 y rfl
        refine ⟨y, y0, .ref a, q1, a, C, rfl, q4, q5 p List.mem_cons_self, ?_⟩
        have tl : ∀ k z, ys[k]? = some z → σ[i + 1 + k]? = some (some z) := fun k z hk => by
          rw [show i + 1 + k = i + (k + 1) by omega]
          exact q3 (k + 1) z hk
        cases st with
        | none => exact .inl ⟨q6, fun dx n ne => ⟨a, C, ys, some (dx, [(p, y)]), q1, by simpa using q2, tl, q4, fun f hf => q5 f (List.mem_cons_of_mem _ hf), by simp at q8; omega, ⟨upd_same, by rw [upd_ne ne, upd_same], ne, by simp at q8 ⊢; omega⟩, q7 dx n ne⟩⟩
        | some st =>
          obtain ⟨dx, gs⟩ := st
          obtain ⟨z1, z2, z3, z4⟩ := q6
          refine .inr ⟨dx, gs, z1, z2, by simp at z4; omega, a, C, ys, some (dx, (p, y) :: gs), q1, by simpa using q2, tl, q4, fun f hf => q5 f (List.mem_cons_of_mem _ hf), by simp at q8; omega, ⟨by rw [upd_ne z3.symm]; exact z1, upd_same, z3, by simp at z4 ⊢; omega⟩, q7⟩
    · cases h
end
/-! ### C(e, ..) is made and raised -/
/-- what such an __init__ promises -/
def spI (K : PySem.W.Frag) (C : Addr) (B nw ini : String) (fs : List Str) : Sp := fun vs H Q _ => ∃ (a : Addr) (ys : List V), vs = .ref a :: ys ∧ ys.length = fs.length ∧ H a = some (exo a C none) ∧ stH a C none (fs.zip ys) H fun H' => Q .non H'
/-- a class that may be raised by its name -/
structure RaiseOk (X : Cx) (k : Nat) (x : Str) (fs : List Str) : Prop where
  ex : ∃ (C fI : Addr) (fd : FuncData) (B nw ini : String), C = He.ga X.K x ∧ X.mg x = some (.ref C) ∧ OxC X.K C B nw ini ∧ PySem.W.findIn X.K (.ref C) "__init__" = some (some (.ref fI)) ∧ PySem.W.typeIn X.K (.ref fI) = some (.type "function") ∧
    FnOk X.prog X.w X.K X.mg X.base (L2.CX X.prog X.w) k fI fd ("self" :: fs) (spI X.K C B nw ini fs) ∧ Binds X.K fd ("self" :: fs) []
  few : fs.length ≤ 100
  nd : fs.Nodup
  ne : fs ≠ []
theorem stH_some {a C : Addr} : ∀ {l : List (Str × V)} {dx : Addr} {gs : List (Str × V)} {H : Hp} {Q : Hp → Prop}, dx ≠ a → H a = some (exo a C (some dx)) → H dx = some (exd dx gs) →
    (∀ H', H' a = some (exo a C (some dx)) → H' dx = some (exd dx (l.reverse ++ gs)) → (∀ b, b ≠ dx → H' b = H b) → Q H') → stH a C (some (dx, gs)) l H Q
  | [], dx, gs, H, Q, n, ha, hd, h => h H ha hd fun _ _ => rfl
  | p :: l, dx, gs, H, Q, n, ha, hd, h => by
    refine stH_some (l := l) (dx := dx) (gs := p :: gs) n (by rw [upd_ne n.symm]; exact ha) upd_same fun H' h1 h2 h3 => ?_
    refine h H' h1 (by rw [h2, List.reverse_cons, List.append_assoc]; rfl) fun b hb => ?_
    rw [h3 b hb, upd_ne hb]
theorem stH_none {a C : Addr} {l : List (Str × V)} {H : Hp} {Q : Hp → Prop} (hne : l ≠ []) (h : ∀ dx H', H dx = none → dx ≠ a → H' a = some (exo a C (some dx)) → H' dx = some (exd dx l.reverse) → (∀ b, b ≠ dx → b ≠ a → H' b = H b) → Q H') : stH a C none l H Q := by
  cases l with
  | nil => exact absurd rfl hne
  | cons p l =>
    intro dx n ne
    refine stH_some ne upd_same (by rw [upd_ne ne, upd_same]) fun H' h1 h2 h3 => ?_
    refine h dx H' n ne h1 (by rw [h2, List.reverse_cons]) fun b hb hb2 => ?_
    rw [h3 b hb, upd_ne hb2, upd_ne hb]
theorem nd_lookup {fs : List Str} {ys : List V} (nd : fs.Nodup) (hl : ys.length = fs.length) {f : Str} {i : Nat} {y : V} (h1 : fs[i]? = some f) (h2 : ys[i]? = some y) : (fs.zip ys).reverse.lookup f = some y := by
  have key : ∀ {l : List (Str × V)}, (l.map (·.1)).Nodup → (f, y) ∈ l → l.lookup f = some y := by
    intro l
    induction l with
    | nil => intro _ h; cases h
    | cons p l ih =>
      intro hn hm
      rw [List.map_cons, List.nodup_cons] at hn
      rw [List.lookup_cons]
      rcases List.mem_cons.mp hm with e | e
      · rw [← e]; simp
      · have : (f == p.1) = false := by
          simp only [beq_eq_false_iff_ne, ne_eq]
          rintro rfl
          exact hn.1 (List.mem_map.mpr ⟨_, e, rfl⟩)
        rw [this]
        exact ih hn.2 e
  refine key ?_ (List.mem_reverse.mpr ?_)
  · rw [List.map_reverse, List.map_fst_zip (by omega)]
    exact (List.reverse_perm _).nodup_iff.mpr nd
  · refine List.mem_of_getElem? (i := i) ?_
    rw [List.getElem?_zip_eq_some]
    exact ⟨h1, h2⟩
section
variable {X : Cx} {x : Str} {fs : List Str} {k : Nat} {e : Expr} {es : List Expr} {p pos : Pos} {ta : TA}
/-- C(e, ..) -/
def tMX (K : PySem.W.Frag) (x : Str) (fs : List Str) (ta : TA) : L2.St → Hp → XK → Prop := fun σ H Q => ta σ H fun vs H1 => vs.length = fs.length ∧ ∀ (d : Addr) (H2 : Hp), H1 d = none → H2 d = some (.xd (fs.zip vs).reverse) → (∀ b, b ≠ d → H2 b = H1 b) → Q (.ref (He.ga K x)) (some d) H2
theorem pmk_x (R : RaiseOk X k x fs) (hr : Room (k + 1) X.A) (hg : Gl X x) (ha : PA X (e :: es) ta) (hdb : (x == ("__debug__" : Str)) = false) (ns : ∀ y ∈ e :: es, NotStar y) : PMk X (.Call (.Name x p) (e :: es) [] pos) (tMX X.K x fs ta) := by
  obtain ⟨C, fI, fd, B, nw, ini, eC, hm, T, iC, tI, F1, hb⟩ := R.ex
  intro pins s σ H Q I h
  obtain ⟨nm, q, N, bs, bm, sn, sub, ab, col, dd, k0, k1, k2, k3, k5, hC, hbm⟩ := T.cls
  refine wpAny_Call_Name_kw (ld_glob I hg hm ?_ hdb)
  refine PySem.W.callWith_K (h₀ := X.base) I.ok.mod.kin T.kC (thn (ha.run pos pins s σ H _ I h) fun us s1 ⟨vs, H1, I1, r1, hz, q1⟩ => ⟨I1.kIn, ?_⟩) (star_of (ns e List.mem_cons_self)) (plain_of fun y hy => ns y (List.mem_cons_of_mem _ hy))
  show wpAny _ _ (call (.ref C) us) _ _ _
  obtain ⟨hp, g, dr, tk, os⟩ := s1
  have up1 : hp.objs.size ≤ hp.objs.size + 1 := Nat.le_succ _
  have fr1 : H1 (hp.objs.size + 1) = none := I1.hok.fresh up1
  have old : ∀ b o, hp.get? b = some o → ((hp.push (PySem.W.kdv_tup us)).push (PySem.HandSPX.excO C hp.objs.size)).get? b = some o := fun b o e => Heap.get?_push_of_some _ (Heap.get?_push_of_some _ e)
  have top : ((hp.push (PySem.W.kdv_tup us)).push (PySem.HandSPX.excO C hp.objs.size)).get? (hp.objs.size + 1) = some (PySem.HandSPX.excO C hp.objs.size) := by heap_get
  have I2 : Inv X pins σ (upd H1 (hp.objs.size + 1) (exo (hp.objs.size + 1) C none)) ⟨(hp.push (PySem.W.kdv_tup us)).push (PySem.HandSPX.excO C hp.objs.size), g, dr, tk, os⟩ :=
    I1.laid (o := exo (hp.objs.size + 1) C none) (t' := tk) (a := hp.objs.size + 1) (h' := (hp.push (PySem.W.kdv_tup us)).push (PySem.HandSPX.excO C hp.objs.size)) old up1 (exo_ok top)
  have r2 : Vals (V.ref (hp.objs.size + 1) :: vs) (Value.ref (hp.objs.size + 1) :: us) := .cons rfl r1
  have lus : us.length = fs.length := by rw [← Paired.length r1]; exact hz
  have sp : spI X.K C B nw ini fs (V.ref (hp.objs.size + 1) :: vs) (upd H1 (hp.objs.size + 1) (exo (hp.objs.size + 1) C none)) (fun v H2 => v = .non ∧ ∃ d : Addr, H2 (hp.objs.size + 1) = some (exo (hp.objs.size + 1) C (some d)) ∧ H2 d = some (exd d (fs.zip vs).reverse) ∧ H1 d = none ∧ ∀ b, b ≠ d → b ≠ hp.objs.size + 1 → H2 b = H1 b) (fun _ _ _ => False) := by
    refine ⟨_, vs, rfl, hz, upd_same, stH_none ?_ fun dx H2 n ne z1 z2 z3 => ⟨rfl, dx, z1, z2, by rw [upd_ne ne] at n; exact n, fun b hb hb2 => by rw [z3 b hb hb2, upd_ne hb2]⟩⟩
    intro z
    have := congrArg List.length z
    rw [List.length_zip, hz, Nat.min_self] at this
    exact R.ne (List.eq_nil_of_length_eq_zero this)
  refine wpAny_call (PySem.HandSPX.call_own T.base.F (fun Y => PySem.W.excTail_contains Y bm hbm) (I1.kIn _ _ hC) (PySem.W.looks_findIn I1.kIn iC) (fun self => PySem.W.bind_fn I1.kIn self tI) (by have := R.few; have := sizeLine_eq; omega)
    (codeAny_mono (F1.run _ X.stack _ _ ⟨Value.ref (hp.objs.size + 1) :: us, []⟩ (Value.ref (hp.objs.size + 1) :: us) _ _ (fun _ _ _ => False) (hr.make C us []) (I2.env0.make C us []) ?_ r2 sp) fun r s' hq' => ?_))
  · have z := hb ⟨(hp.push (PySem.W.kdv_tup us)).push (PySem.HandSPX.excO C hp.objs.size), g, dr, tk, os⟩ (Value.ref (hp.objs.size + 1) :: us) I2.kIn (by simp [lus])
    rw [List.append_nil] at z
    exact z
  cases r with
  | error er =>
    obtain ⟨_, _, _, _, _, _, _, _, _, _, _, _, z⟩ := (show L2.CX X.prog X.w X.stack _ _ (fun _ _ _ => False) er s' from hq')
    exact z.elim
  | ok fl =>
    cases fl with
    | ret u =>
      obtain ⟨v, H2, os2, bare2, un2, hok2, rv, ev, d, ea, ed, hd1, hrest⟩ := hq'
      subst ev
      obtain ⟨h2, g2, d2, t2, os'⟩ := s'
      refine ⟨rv, mk_end (raises_own T.exC T.tyC) I1 up1 old un2 hok2 os2 bare2 ea ed hd1 ?_⟩
      have nda : d ≠ hp.objs.size + 1 := fun z => by
        obtain ⟨t0, hoe⟩ := exo_at hok2 ea
        obtain ⟨mA, hns, _⟩ := exd_at hok2 ed
        obtain ⟨o, es2, ep, e1, e2, _⟩ := hns
        rw [z, hoe] at e1
        have z2 := Option.some.inj e1
        subst z2
        cases e2
      rw [eC]
      refine q1 d _ hd1 upd_same fun b hb => ?_
      rw [upd_ne hb]
      by_cases hb2 : b = hp.objs.size + 1
      · rw [hb2, del_same, fr1]
      · rw [del_ne hb2]
        exact hrest b hb hb2
    | next => exact False.elim hq'
    | brk => exact False.elim hq'
    | cont => exact False.elim hq'
/-- raise C(e, ..) -/
theorem s_raise {W : WG} {fd : Env → M (List D)} {pos2 : Pos} (hc : X.calm = true) (tk : Takes X W.w) (R : RaiseOk X k x fs) (hr : Room (k + 1) X.A) (hg : Gl X x) (hdb : (x == ("__debug__" : Str)) = false) (ns : ∀ y ∈ e :: es, NotStar y) (ha : PA X (e :: es) (tDs X.K W fd)) :
    PS X (.Raise (some (.Call (.Name x p) (e :: es) [] pos)) none pos2) (tS X.K W fun r m => (fd r m).to r fun xs m1 => if xs.length = fs.length ∧ fs.Nodup then .err ⟨x, fs.zip xs⟩ r m1 else .stuck) :=
  (ps_raise hc tk (pmk_x R hr hg ha hdb ns)).imp fun D σ H ⟨r, m, g, hs, rl, po⟩ => ⟨r, m, g, hs, rl, PoS.to (rep := repDs X.K) hs po fun xs m1 g1 H1 vs q1 e1 rl1 hs1 rx po1 => by
    have rx : RDs X.K g1 H1 xs vs := rx
    by_cases c : xs.length = fs.length ∧ fs.Nodup
    · rw [if_pos c] at po1
      have hl := rx.length
      refine ⟨by omega, fun d H2 hd h2 ho => ?_⟩
      have po1 : ∀ g' H' σ' cls d, Ext g1 H1 g' H' → Rel X.K g' m1 H' → RS X.K W.g g' H' r σ' → ExcAt X.K g' H' ⟨x, fs.zip xs⟩ cls d → (∀ a, d = some a → H1 a = none) → W.w cls d σ' H' := po1
      have eH : H2 = upd H1 d (.xd (fs.zip vs).reverse) := funext fun b => (Decidable.em (b = d)).elim (fun hb => by rw [hb, upd_same, h2]) fun hb => by rw [upd_ne hb, ho b hb]
      subst eH
      have ex : Ext g1 H1 g1 (upd H1 d (.xd (fs.zip vs).reverse)) := Ext.new hd
      refine po1 g1 _ σ _ (some d) ex (rl1.new hd) (hs1.ext ex) ⟨rfl, d, _, rfl, upd_same, rl1.notIn hd, fun f y hy => ?_⟩ fun b z => by cases z; exact hd
      have hm := PySem.mem_of_lookup hy
      obtain ⟨i, hi⟩ := List.mem_iff_getElem?.mp hm
      rw [List.getElem?_zip_eq_some] at hi
      obtain ⟨v, v1, v2⟩ := rx.get hi.2
      exact ⟨v, nd_lookup c.2 (by omega) hi.1 v1, v2.ext ex⟩
    · rw [if_neg c] at po1
      exact po1.elim⟩
end
end Pf

set_option maxHeartbeats 4000000
/-! Pe3: try .. except with clauses of any kind. -/
namespace Pf
open PySem PySem.Spec PyProof.Rows L2
/-! ### a flying exception stays so -/
theorem flyZ_keep {B h h2 : Heap} {l : List PySem.Env} {a : Addr} {Z : Obj → Prop} (x : PySem.HandSPX.FlyingZ B l a Z h) (k : ∀ b o, h.get? b = some o → h2.get? b = some o) : PySem.HandSPX.FlyingZ B l a Z h2 := by
  obtain ⟨f1, f2, f3, oe, ws, T, oT, ts, he, hc, hd, h1, hn, hne, hT, hdT, h3⟩ := x
  exact ⟨fun b o q => k b o (f1 b o q), f2, f3.of_keeps fun b o q _ => ⟨o, k b o q, rfl⟩, oe, ws, T, oT, ts, k _ _ he, hc, hd, h1, hn, hne, k _ _ hT, hdT, h3⟩
/-! ### what a clause names -/
/-- the test t takes of the classes all just cs -/
def TestOk (X : Cx) (t : Expr) (all cs : List Str) : Prop := ∀ (c : Str), c ∈ all → ∀ (a : Addr) (p : Addr × Obj) (pn : List (Addr × Obj)) (σ : L2.St) (H : Hp) (s : Shared) (Q : Bool → Shared → Prop) (E : Value → Shared → Prop), Inv (X.suite a (p :: pn)) [] σ H s →
  PySem.W.Looks (model X.prog X.w) s.heap (typeOf (.ref a)) (.ref (He.ga X.K c)) → (∀ h2 t2, (∀ q o, s.heap.get? q = some o → h2.get? q = some o) → Q (decide (c ∈ cs)) { s with heap := h2, toks := t2 }) →
  wpAny (model X.prog X.w) (X.A.mark (some (.ref a))) (eval t X.env) (fun cv s1 => wpAny (model X.prog X.w) (X.A.mark (some (.ref a))) (excMatches (.ref a) cv) Q E s1) E s
theorem ld_name {X : Cx} {a : Addr} {p : Addr × Obj} {pn : List (Addr × Obj)} {σ : L2.St} {H : Hp} {s : Shared} {Q E : Value → Shared → Prop} {x : Str} {c : Value} {np : Pos} (S : Inv (X.suite a (p :: pn)) [] σ H s) (hc : Names X x c) (q : Q c s) :
    wpAny (model X.prog X.w) (X.A.mark (some (.ref a))) (eval (.Name x np) X.env) Q E s := by
  obtain ⟨hg, hdb, hm | ⟨hm, hv, hn⟩⟩ := hc
  · exact ld_glob (X := X.suite a (p :: pn)) S hg hm q hdb
  · exact ld_blt (X := X.suite a (p :: pn)) S hg hm hv q hn hdb
theorem test_one {X : Cx} {x : Str} {c : Value} {np : Pos} {all cs : List Str} (hc : Names X x c) (he : ∀ y ∈ all, PySem.W.exmOne X.K (.ref (He.ga X.K y)) c = some (decide (y ∈ cs))) : TestOk X (.Name x np) all cs := fun y hy a p pn σ H s Q E S lt fin =>
  ld_name S hc ((PySem.W.exm_one (M := model X.prog X.w) S.kIn lt (he y hy)).here (by
    have := fin s.heap s.toks fun _ _ z => z
    exact this))
theorem test_two {X : Cx} {x1 x2 : Str} {c1 c2 : Value} {n1 n2 tp : Pos} {kk : Nat} {all cs : List Str} (h1 : Names X x1 c1) (h2 : Names X x2 c2) (he : ∀ y ∈ all, PySem.W.exmAny X.K (.ref (He.ga X.K y)) [c1, c2] = some (decide (y ∈ cs))) :
    TestOk X (.Tuple [.Name x1 n1, .Name x2 n2] kk tp) all cs := fun y hy a p pn σ H s Q E S lt fin => by
  refine wpAny_Tuple ?_
  refine wpAny_items_cons (ld_name S h1 ?_)
  refine wpAny_items_cons (ld_name S h2 ?_)
  refine wpAny_items_nil ⟨by size_fits, ?_⟩
  have kp : ∀ q o, s.heap.get? q = some o → (s.heap.push { cls := .type "tuple", data := .seq [c1, c2].toArray }).get? q = some o := fun _ _ z => Heap.get?_push_of_some _ z
  exact (PySem.W.exm_tup2 (S.kIn.keeps kp) (lt.keeps kp) (Heap.get?_push_size s.heap rfl) (he y hy)).here (fin _ _ kp)
/-! ### the clauses -/
/-- what holds in a suite: nothing may be raised; the name's slot stands for the exception -/
def hotW (a dd : Addr) (c : Str) (i : Option Nat) : WG := ⟨fun _ _ _ _ => False, i.map fun i => ⟨a, dd, c, i⟩⟩
def SuiteOk (X : Cx) (cf : CF) (wf : Nat) (all : List Str) (i : Option Nat) (st : List Stmt) (s : S) : Prop := ∀ (a : Addr) (oe : Obj) (c : Str) (dd : Addr) (pn : List (Addr × Obj)), c ∈ all → Zc (.ref (He.ga X.K c)) (some dd) oe → (∃ vs, oe.data = .fields vs) →
  PSs (X.suite a ((a, oe) :: pn)) st (tS X.K (hotW a dd c i) (exS cf wf s))
inductive HsOk (X : Cx) (cf : CF) (wf : Nat) : List ExceptHandler → Hs → Prop
  | nil : HsOk X cf wf [] .nil
  | only {t : Expr} {all cs : List Str} {b₀ : Stmt} {suite : List Stmt} {pos' : Pos} {hds : List ExceptHandler} {s : S} {h : Hs} (ht : TestOk X t all cs) (hs : SuiteOk X cf wf all none (b₀ :: suite) s) (r : HsOk X cf wf hds h) : HsOk X cf wf (.ExceptHandler (some t) none (b₀ :: suite) pos' :: hds) (.cons all cs none s h)
  | as_ {t : Expr} {all cs : List Str} {n : Str} {i : Nat} {b₀ : Stmt} {suite : List Stmt} {pos' : Pos} {hds : List ExceptHandler} {s : S} {h : Hs} (ht : TestOk X t all cs) (hi : X.N[i]? = some n) (hl : X.env.kindOf n = some .local) (hs : SuiteOk X cf wf all (some i) (b₀ :: suite) s) (r : HsOk X cf wf hds h) :
      HsOk X cf wf (.ExceptHandler (some t) (some n) (b₀ :: suite) pos' :: hds) (.cons all cs (some i) s h)
/-- a suite's end -/
theorem PoS.behind {K : Fg} {a dd : Addr} {c : Str} {i : Nat} {w : WX} {g : List Addr} {H : Hp} {x : SR} {D : Ends} (h : PoS K (⟨w, none⟩ : WG) g H (x.behind (some i)) D) :
    PoS K (hotW a dd c (some i)) g H x { nx := fun σ' H' => D.nx (σ'.set i none) H', rt := D.rt, bk := fun σ' H' => D.bk (σ'.set i none) H', ct := fun σ' H' => D.ct (σ'.set i none) H' } := by
  have rs : ∀ {g' : List Addr} {H' : Hp} {r : Env} {σ' : L2.St}, RS K (some ⟨a, dd, c, i⟩) g' H' r σ' → RS K none g' H' (r.set i none) (σ'.set i none) := fun {g' H' r σ'} z => by
    have z2 := z.gone i none
    refine ⟨z2.len, fun j y e _ => z2.slot j y e fun q hq => ?_, fun q hq => nomatch hq⟩
    cases hq
    rintro rfl
    have hl : j < (r.set j none).length := (List.getElem?_eq_some_iff.mp e).1
    rw [List.length_set] at hl
    rw [List.getElem?_set_self hl] at e
    cases e
  cases x with
  | ok f r m =>
    cases f with
    | nx => exact fun g' H' σ' e rl hs => h g' H' _ e rl (rs hs)
    | brk => exact fun g' H' σ' e rl hs => h g' H' _ e rl (rs hs)
    | cont => exact fun g' H' σ' e rl hs => h g' H' _ e rl (rs hs)
    | ret d => exact fun g' H' v e rl hs => h g' H' v e rl hs
  | err e r m => exact (show False from h).elim
  | stuck => exact (show False from h).elim
theorem PoS.behind0 {K : Fg} {a dd : Addr} {c : Str} {w : WX} {g : List Addr} {H : Hp} {x : SR} {D : Ends} (h : PoS K (⟨w, none⟩ : WG) g H (x.behind none) D) : PoS K (hotW a dd c none) g H x D := by
  cases x with
  | ok f r m => cases f <;> exact h
  | err e r m => exact (show False from h).elim
  | stuck => exact (show False from h).elim
/-- an exception that is caught gets a handle -/
theorem Rel.exc {K : Fg} {g : List Addr} {m : Store} {H : Hp} {dd : Addr} {fs : List (Str × V)} {es : List (Str × D)} (rl : Rel K g m H) (h1 : H dd = some (.xd fs)) (h2 : dd ∉ g) (h3 : XR K g H es fs) : Rel K (g ++ [dd]) (m ++ [.exc es]) H := rl.add (c0 := .exc es) ⟨fs, h1, h3⟩ h2
theorem Ext.named' {g0 g : List Addr} {H0 H : Hp} {a : Addr} (e : Ext g0 H0 g H) (h : H0 a = none) : Ext g0 H0 (g ++ [a]) H := e.named h
section
variable {X : Cx} {cf : CF} {wf : Nat} {pins : List (Addr × Obj)} {w : WX}
/-- what stands behind the body when it has raised e -/
structure Hung (X : Cx) (cf : CF) (wf : Nat) (w : WX) (h : Hs) (D : Ends) (cls : Value) (d : Option Addr) (σ : L2.St) (H : Hp) : Prop where
  ex : ∃ (e : Exc) (r : Env) (m : Store) (g g0 : List Addr) (H0 : Hp), Ext g0 H0 g H ∧ Rel X.K g m H ∧ RS X.K none g H r σ ∧ ExcAt X.K g H e cls d ∧ (∀ a, d = some a → H0 a = none) ∧ PoS X.K (⟨w, none⟩ : WG) g0 H0 (exH cf wf h e r m) D
theorem hand_ok (hN : X.N.Nodup) (hst : X.stack = X.env :: X.outer) (hf : X.env.frame = some X.env.locals) (ok : X.Ok) (tk : Takes X w) {a : Addr} {B : Heap} {sI : Shared} {σ' : L2.St} {H' : Hp} {cls : Value} {d : Option Addr} {s' : Shared} {D : Ends} (J : Inv X pins σ' H' sI)
    (nb : ∀ b o, sI.heap.get? b = some o → b ∉ frs X.stack → B.get? b = some o) (na : H' a = none) (os : s'.os = sI.os) (ag : AllBare s'.gens) : ∀ {hds : List ExceptHandler} {h : Hs}, HsOk X cf wf hds h → ∀ (h3 : Heap) (t3 : Nat), PySem.HandSPX.FlyingZ B (X.env :: X.outer) a (Zc cls d) h3 → sI.heap.UpToSlots h3 →
    Hung X cf wf w h D cls d σ' H' → wpAny (model X.prog X.w) X.A (handleBy (.ref a) X.env hds) (SP X pins D) X.xe { s' with heap := h3, toks := t3 } := by
  have hfr : X.A.frames = some (X.env :: X.outer) := by rw [ok.frames, hst]
  have notFr : ∀ {h : Heap} {o : Obj} {vs : Array Value}, h.FunFrames B (X.env :: X.outer) → h.get? a = some o → o.data = .fields vs → a ∉ frs (X.env :: X.outer) := fun {h o vs} ff e dd hm => by
    obtain ⟨_, o2, e2, hnf⟩ := ff.mem hm
    rw [e] at e2; cases e2
    exact hnf _ dd
  -- a suite's start: the state
  have into : ∀ (h4 : Heap) (t4 : Nat), PySem.HandSPX.FlyingZ B (X.env :: X.outer) a (Zc cls d) h4 → sI.heap.UpToSlots h4 → ∃ oe, Zc cls d oe ∧ (∃ vs, oe.data = .fields vs) ∧ h4.get? a = some oe ∧ ∀ pn, pn = X.pn ++ pins → Inv (X.suite a ((a, oe) :: pn)) [] σ' H' { s' with heap := h4, toks := t4 } := fun h4 t4 fl up => by
    have J4 : Inv X pins σ' H' { s' with heap := h4, toks := t4 } := J.landed nb fl.1 up os ag
    obtain ⟨oe, vs, he, hz, hd⟩ := fl.there
    have nfr := notFr fl.2.2.1 he hd
    have nL : a ≠ X.env.locals := fun z => nfr (List.mem_filterMap.mpr ⟨X.env, List.mem_cons_self, by rw [hf, z]⟩)
    have nF : a ∉ X.fs := fun hm => by
      obtain ⟨e, he, q⟩ := List.mem_filterMap.mp hm
      exact nfr (List.mem_filterMap.mpr ⟨e, List.mem_cons_of_mem _ he, q⟩)
    exact ⟨oe, hz, ⟨vs, hd⟩, he, fun pn e => by subst e; exact J4.suite he hd na nL nF⟩
  intro hds h ho
  induction ho with
  | nil =>
    intro h3 t3 fl up hu
    refine wpAny_handleBy_nil ?_
    obtain ⟨k1, k2, k3, oe, vs, T, oT, ts', he, hz, hd, h1, hr⟩ := id fl
    unfold PySem.passOn
    refine wpAny_bind (wpAny_field he hd h1 ?_)
    rw [if_neg (show ¬ ((Value.ref T == Value.none) = true) from by simp)]
    obtain ⟨e, r, m, g, g0, H0, ex, rl, hs, ea, nw, po⟩ := hu.ex
    have gone : w cls d σ' H' := (show ∀ g' H2 σ2 cls d, Ext g0 H0 g' H2 → Rel X.K g' m H2 → RS X.K none g' H2 r σ2 → ExcAt X.K g' H2 e cls d → (∀ a, d = some a → H0 a = none) → w cls d σ2 H2 from po) g H' σ' cls d ex rl hs ea nw
    have fin : wpAny (model X.prog X.w) X.A (setFlight (.ref a) X.env.frame) (fun _ s4 => wpAny (model X.prog X.w) X.A (throw (.ref a) : Sem Flow) (SP X pins D) X.xe s4) X.xe { s' with heap := h3, toks := t3 } := by
      rw [hf]
      refine PySem.HandSPX.setFlight_upZ fl fun h4 hh4 up4 => wpAny_throw (tk _ _ ?_)
      exact ⟨a, B, sI, pins, σ', H', cls, d, rfl, J, nb, up.trans up4, .inr (.inr (by rw [hst]; exact hh4)), na, os, ag, gone⟩
    first
      | exact wpAny_bind (wpAny_pure (wpAny_bind fin))
      | exact wpAny_bind fin
  | @only t all cs b₀ suite pos' hds s h ht hsu r ih =>
    intro h3 t3 fl up hu
    obtain ⟨e, r, m, g, g0, H0, ex, rl, hs, ea, nw, po⟩ := hu.ex
    have po : PoS X.K (⟨w, none⟩ : WG) g0 H0 (if e.cls ∈ all then (if e.cls ∈ cs then (exS cf wf s r (m ++ [.exc e.fs])).behind none else exH cf wf h e r m) else .stuck) D := po
    by_cases ca : e.cls ∈ all
    · rw [if_pos ca] at po
      obtain ⟨oe, hz, hd, he, inv⟩ := into h3 t3 fl up
      refine wpAny_handleBy_cons (codeAny_handlers_test ?_) (by intro q; cases q)
      have lt : PySem.W.Looks (model X.prog X.w) h3 (typeOf (.ref a)) (.ref (He.ga X.K e.cls)) := fun A Q E s k q => wpAny_typeOf_ref (k _ _ he) (by rw [hz.1, ea.1]; exact q)
      refine ht e.cls ca a (a, oe) (X.pn ++ pins) σ' H' _ _ _ (inv _ rfl) lt fun h4 t4 k4 => ?_
      have fl4 := flyZ_keep fl k4
      have up4 := up.trans (Heap.UpToSlots.of_keeps k4)
      by_cases cc : e.cls ∈ cs
      · rw [if_pos cc] at po
        rw [decide_eq_true cc]
        refine codeAny_handlers_suite ?_
        refine PySem.HandSPX.lands_againZ fl4 fun h5 fl5 up5 => ?_
        obtain ⟨oe5, hz5, hd5, he5, inv5⟩ := into h5 t4 fl5 (up4.trans up5)
        obtain ⟨e1, dd, fs, e2, e3, e4, e5⟩ := ea
        subst e2
        refine wpAny_mono ((hsu a oe5 e.cls dd (X.pn ++ pins) ca (by rw [← e1]; exact hz5) hd5).run [] _ σ' H' D (inv5 _ rfl) ⟨r, m ++ [.exc e.fs], g ++ [dd], ?_, rl.exc e3 e4 e5, PoS.behind0 (PoS.later (ex.named' (nw dd rfl)) po)⟩) (fun f s6 hsp => ?_) (fun _ _ z => False.elim z)
        · exact ⟨hs.len, fun j y z _ => let ⟨v, a, b⟩ := hs.slot j y z (fun q hq => nomatch hq); ⟨v, a, b.grow⟩, fun q hq => nomatch hq⟩
        · cases f with
          | next =>
            obtain ⟨σ6, H6, S6, q6⟩ := hsp
            exact ⟨σ6, H6, S6.unsuite ok, q6⟩
          | brk =>
            obtain ⟨σ6, H6, S6, q6⟩ := hsp
            exact ⟨σ6, H6, S6.unsuite ok, q6⟩
          | cont =>
            obtain ⟨σ6, H6, S6, q6⟩ := hsp
            exact ⟨σ6, H6, S6.unsuite ok, q6⟩
          | ret u =>
            obtain ⟨v6, σ6, H6, S6, r6, q6⟩ := hsp
            exact ⟨v6, σ6, H6, S6.unsuite ok, r6, q6⟩
      · rw [if_neg cc] at po
        rw [decide_eq_false cc]
        exact ih h4 t4 fl4 up4 ⟨e, r, m, g, g0, H0, ex, rl, hs, ea, nw, po⟩
    · rw [if_neg ca] at po
      exact (show False from po).elim
  | @as_ t all cs n i b₀ suite pos' hds s h ht hi hl hsu r ih =>
    intro h3 t3 fl up hu
    obtain ⟨e, r, m, g, g0, H0, ex, rl, hs, ea, nw, po⟩ := hu.ex
    have po : PoS X.K (⟨w, none⟩ : WG) g0 H0 (if e.cls ∈ all then (if e.cls ∈ cs then (exS cf wf s (r.set i (some (.tup [.str e.cls, .ref m.length]))) (m ++ [.exc e.fs])).behind (some i) else exH cf wf h e r m) else .stuck) D := po
    by_cases ca : e.cls ∈ all
    · rw [if_pos ca] at po
      obtain ⟨oe, hz, hd, he, inv⟩ := into h3 t3 fl up
      refine wpAny_handleBy_cons (codeAny_handlers_test ?_) (by intro q; cases q)
      have lt : PySem.W.Looks (model X.prog X.w) h3 (typeOf (.ref a)) (.ref (He.ga X.K e.cls)) := fun A Q E s k q => wpAny_typeOf_ref (k _ _ he) (by rw [hz.1, ea.1]; exact q)
      refine ht e.cls ca a (a, oe) (X.pn ++ pins) σ' H' _ _ _ (inv _ rfl) lt fun h4 t4 k4 => ?_
      have fl4 := flyZ_keep fl k4
      have up4 := up.trans (Heap.UpToSlots.of_keeps k4)
      by_cases cc : e.cls ∈ cs
      · rw [if_pos cc] at po
        rw [decide_eq_true cc]
        refine codeAny_handlers_suite_as ?_
        refine PySem.HandSPX.lands_againZ fl4 fun h5 fl5 up5 => ?_
        obtain ⟨oe5, hz5, hd5, he5, inv5⟩ := into h5 t4 fl5 (up4.trans up5)
        obtain ⟨e1, dd, fs, e2, e3, e4, e5⟩ := ea
        subst e2
        refine store_ok (X := X.suite a ((a, oe5) :: (X.pn ++ pins))) (v := .ref a) (inv5 _ rfl) hN hi (.inl hl) rfl (fun s5 S5 => ?_) (.inr hl)
        refine wpAny_mono ((hsu a oe5 e.cls dd (X.pn ++ pins) ca (by rw [← e1]; exact hz5) hd5).run [] s5 _ H' _ S5 ⟨r.set i (some (.tup [.str e.cls, .ref m.length])), m ++ [.exc e.fs], g ++ [dd], ?_, rl.exc e3 e4 e5, PoS.behind (PoS.later (ex.named' (nw dd rfl)) po)⟩) (fun f s6 hsp => ?_) (fun _ _ z => False.elim z)
        · refine ⟨by rw [List.length_set, List.length_set]; exact hs.len, fun j y z nq => ?_, fun q hq y hy => ?_⟩
          · have hj : i ≠ j := fun z => nq _ rfl z.symm
            rw [List.getElem?_set_ne hj] at z ⊢
            obtain ⟨v, a1, b1⟩ := hs.slot j y z (fun q hq => nomatch hq)
            exact ⟨v, a1, b1.grow⟩
          · cases hq
            have hlt : i < (r.set i (some (Pf.D.tup [.str e.cls, .ref m.length]))).length := (List.getElem?_eq_some_iff.mp hy).1
            rw [List.length_set] at hlt
            rw [List.getElem?_set_self hlt] at hy
            cases hy
            refine ⟨List.getElem?_set_self (by rw [← hs.len]; exact hlt), m.length, rfl, ?_⟩
            rw [← rl.len, List.getElem?_append_right (Nat.le_refl _)]
            simp
        · have end_ : ∀ {σ6 : L2.St} {H6 : Hp} {Q : Shared → Prop}, Inv (X.suite a ((a, oe5) :: (X.pn ++ pins))) [] σ6 H6 s6 → (∀ s7, Inv X pins (σ6.set i none) H6 s7 → Q s7) →
              wpAny (model X.prog X.w) X.A (do bindName X.env n .none; unbindBehindTheSuite X.env n pos') (fun _ s7 => Q s7) X.xe s6 := fun {σ6 H6 Q} S6 hq => gone_ok (S6.unsuite ok) hN hi hl hq
          cases f with
          | next =>
            obtain ⟨σ6, H6, S6, q6⟩ := hsp
            exact end_ S6 fun s7 J7 => ⟨_, _, J7, q6⟩
          | brk =>
            obtain ⟨σ6, H6, S6, q6⟩ := hsp
            exact end_ S6 fun s7 J7 => ⟨_, _, J7, q6⟩
          | cont =>
            obtain ⟨σ6, H6, S6, q6⟩ := hsp
            exact end_ S6 fun s7 J7 => ⟨_, _, J7, q6⟩
          | ret u =>
            obtain ⟨v6, σ6, H6, S6, r6, q6⟩ := hsp
            exact end_ S6 fun s7 J7 => ⟨_, _, _, J7, r6, q6⟩
      · rw [if_neg cc] at po
        rw [decide_eq_false cc]
        exact ih h4 t4 fl4 up4 ⟨e, r, m, g, g0, H0, ex, rl, hs, ea, nw, po⟩
    · rw [if_neg ca] at po
      exact (show False from po).elim
/-- try: body / except ..: -/
theorem s_try {body : List Stmt} {h₀ : ExceptHandler} {hds : List ExceptHandler} {h : Hs} {b : SM} {pos : Pos} (hN : X.N.Nodup) (hst : X.stack = X.env :: X.outer) (hf : X.env.frame = some X.env.locals) (tk : Takes X w)
    (hb : ∀ (w' : WX) (pn : List (Addr × Obj)) (xe : Value → Shared → Prop), Takes (X.tr pn xe) w' → PassesOwn (model X.prog X.w) X.A X.env xe → PSs (X.tr pn xe) body (tS X.K (⟨w', none⟩ : WG) b))
    (hh : HsOk X cf wf (h₀ :: hds) h) : PS X (.Try body (h₀ :: hds) [] [] pos) (tS X.K (⟨w, none⟩ : WG) fun r m => match b r m with
      | .err e r1 m1 => exH cf wf h e r1 m1
      | x => x) := by
  refine ⟨fun pins s σ H D I ⟨r, m, g, hs, rl, po⟩ => ?_⟩
  have ok := I.ok
  have hfr : X.A.frames = some (X.env :: X.outer) := by rw [ok.frames, hst]
  refine wpAny_Try_except ?_
  have sky_at : ∀ (u : Value) (s' : Shared), XE (X.tr (X.pn ++ pins) fun e s₁ => wpAny (model X.prog X.w) X.A (noteFrame e X.env) (fun _ s₂ => wpAny (model X.prog X.w) X.A (setFlight e none) (fun _ s₃ =>
      wpAny (model X.prog X.w) X.A (handleBy e X.env (h₀ :: hds)) (SP X pins D) X.xe s₃) X.xe s₂) X.xe s₁) (Hung X cf wf w h D) u s' → wpAny (model X.prog X.w) X.A (noteFrame u X.env) (fun _ s₂ => wpAny (model X.prog X.w) X.A (setFlight u none) (fun _ s₃ =>
      wpAny (model X.prog X.w) X.A (handleBy u X.env (h₀ :: hds)) (SP X pins D) X.xe s₃) X.xe s₂) X.xe s' := by
    rintro u s' ⟨a, B, sI, pins', σ', H', cls, d, rfl, J', nb, up, sky, na, os, ag, hu⟩
    have J : Inv X pins σ' H' sI := J'.ofTry ok
    have sky2 : Sky B (X.env :: X.outer) a (Zc cls d) X.env.locals s'.heap := by rw [← hst]; exact sky
    exact Sky.land Zc.steady hfr hf sky2 fun h3 fl3 up3 => hand_ok hN hst hf ok tk J nb na os ag hh h3 _ fl3 (up.trans up3) hu
  refine wpAny_mono ((hb (Hung X cf wf w h D) (X.pn ++ pins) _ (fun u s' xx => sky_at u s' xx) PassesOwn.looking).run [] s σ H D (I.toTry _) ⟨r, m, g, hs, rl, ?_⟩) (fun f s1 hsp => ?_) (fun e s1 he => he)
  · have po : PoS X.K (⟨w, none⟩ : WG) g H (match b r m with
      | .err e r1 m1 => exH cf wf h e r1 m1
      | x => x) D := po
    cases q : b r m with
    | ok f r1 m1 =>
      rw [q] at po
      cases f <;> exact po
    | err e r1 m1 =>
      rw [q] at po
      exact fun g' H' σ' cls d ex rl' hs' ea nw => ⟨e, r1, m1, g', g, H, ex, rl', hs', ea, nw, po⟩
    | stuck => rw [q] at po; exact po
  · cases f with
    | next =>
      obtain ⟨σ2, H2, J2, q2⟩ := hsp
      exact wpAny_execs_nil ⟨σ2, H2, J2.ofTry ok, q2⟩
    | brk =>
      obtain ⟨σ2, H2, J2, q2⟩ := hsp
      exact ⟨σ2, H2, J2.ofTry ok, q2⟩
    | cont =>
      obtain ⟨σ2, H2, J2, q2⟩ := hsp
      exact ⟨σ2, H2, J2.ofTry ok, q2⟩
    | ret u =>
      obtain ⟨v2, σ2, H2, J2, r2, q2⟩ := hsp
      exact ⟨v2, σ2, H2, J2.ofTry ok, r2, q2⟩
end
end Pf

set_option maxHeartbeats 4000000
/-! Pe4: a caught exception's fields, its classes; defs that are handed it. -/
namespace Pf
open PySem PySem.Spec PyProof.Rows L2
/-! ### the exception that is handled, in the context -/
structure HotAt (X : Cx) (q : Gh) : Prop where
  ex : ∃ oe, (q.a, oe) ∈ X.pn ∧ Zc (.ref (He.ga X.K q.cls)) (some q.d) oe ∧ ∃ vs, oe.data = .fields vs
/-- what the class at C must have -/
structure XcC (K : PySem.W.Frag) (C : Addr) : Prop where
  ga : PySem.W.findIn K (.ref C) "__getattribute__" = some (some (.builtin "BaseException.__getattribute__"))
  gg : PySem.W.findIn K (.ref C) "__getattr__" = some none
  exC : PySem.W.subIn K (.ref C) (.type "BaseException") = some true
  hdC : PySem.W.hasDictIn K C = true
  cl : (PySem.W.clsIn K C).isSome = true
  ca : PySem.W.findIn K (.ref C) "__class__" = some (some (.builtin "object.__class__"))
  cn : PySem.W.specialIn K (.builtin "object.__class__") "__get__" = some (some (.builtin "getset_descriptor.__get__"))
  ct : PySem.W.takesIn K (.builtin "object.__class__") = some true
  cm : PySem.W.mroIn K C (.type "object") = some true
section
variable {X : Cx} {W : WG} {q : Gh} {x f : Str} {pos np : Pos}
theorem HotAt.inst (T : HotAt X q) {pins : List (Addr × Obj)} {σ : L2.St} {H : Hp} {s : Shared} (I : Inv X pins σ H s) {fs : List (Str × V)} (hd : H q.d = some (.xd fs)) :
    ∃ oe od mA, s.heap.get? q.a = some oe ∧ PySem.W.InstAt s.heap q.a oe (He.ga X.K q.cls) (some od) ∧ s.heap.Ns1 q.d mA ∧ (∀ f, RelO (fs.lookup f) (mA f)) ∧ s.heap.get? q.d = some od := by
  obtain ⟨oe, hp, hz, vs, hv⟩ := T.ex
  obtain ⟨ho, _⟩ := I.pin (q.a, oe) (List.mem_append_left _ hp)
  obtain ⟨mA, hns, hr⟩ := (show ObjOk X.prog X.w H s.heap q.d (.xd fs) from I.hok q.d _ hd)
  obtain ⟨od, h1, _⟩ := lookIn_ns hns
  exact ⟨oe, od, mA, ho, ⟨ho, hz.1, by unfold PySem.W.notCls; rw [hv] <;> rfl, by rw [hz.2]; exact h1⟩, hns, hr, h1⟩
theorem excV_ok {α β : Type} {rep : Rep α β} {K : Fg} {σ : L2.St} {H0 : Hp} {g : List Addr} {H : Hp} {m : Store} {Q : β → Hp → Prop} {i : Nat} {r : Env} {k : Str × Nat → M α} (hs : RS K W.g g H r σ) (hq : W.g = some q) (hi : i = q.i) (h : Po K W σ rep H0 g H ((excV r i >>= k) m) Q) :
    ∃ j, σ[i]? = some (some (.ref q.a)) ∧ g[j]? = some q.d ∧ Po K W σ rep H0 g H (k (q.cls, j) m) Q := by
  subst hi
  have h' : Po K W σ rep H0 g H (M.bnd (excV r q.i) k m) Q := h
  unfold M.bnd excV getV at h'
  cases e : r[q.i]? with
  | none => simp only [e, bind, M.bnd] at h'; exact h'.elim
  | some o =>
    cases o with
    | none => simp only [e, bind, M.bnd] at h'; exact h'.elim
    | some d =>
      obtain ⟨h1, j, rfl, h3⟩ := hs.gh q hq d e
      simp only [e, bind, M.bnd] at h'
      exact ⟨j, h1, h3, h'⟩
theorem getX_ok {α β : Type} {rep : Rep α β} {K : Fg} {σ : L2.St} {H0 : Hp} {g : List Addr} {H : Hp} {m : Store} {Q : β → Hp → Prop} {j : Nat} {k : List (Str × D) → M α} (h : Po K W σ rep H0 g H ((getX j >>= k) m) Q) : ∃ fs, m[j]? = some (.exc fs) ∧ Po K W σ rep H0 g H (k fs m) Q := by
  have h' : Po K W σ rep H0 g H (M.bnd (getX j) k m) Q := h
  unfold M.bnd getX at h'
  cases e : m[j]? with
  | none => rw [e] at h'; exact h'.elim
  | some c =>
    rw [e] at h'
    cases c with
    | exc fs => exact ⟨fs, rfl, h'⟩
    | lst _ => exact h'.elim
    | frz _ => exact h'.elim
    | dct _ => exact h'.elim
/-- e.f -/
theorem e_xf (T : HotAt X q) (hq : W.g = some q) (C : XcC X.K (He.ga X.K q.cls)) (hno : PySem.W.findIn X.K (.ref (He.ga X.K q.cls)) f = some none) (hN : X.N[q.i]? = some x) (hv : Vis X.env.scope x) (hd : (x == ("__debug__" : Str)) = false) (hcd : (x == ("__classdict__" : Str)) = false) :
    PE X (.Attribute (.Name x np) f pos) (tR X.K W fun r => do
      let q ← excV r q.i
      let fs ← getX q.2
      return .d (← optM (fs.lookup f))) := by
  refine ⟨fun pins s σ H Q I ⟨r, m, g, hs, rl, po⟩ => ?_⟩
  obtain ⟨j, e1, e2, po⟩ := excV_ok hs hq rfl po
  obtain ⟨es, e3, po⟩ := getX_ok po
  obtain ⟨d, e4, po⟩ := optM_ok po
  obtain ⟨fs, hx, hr⟩ := rl.cell j _ _ e3 e2
  obtain ⟨v, l1, l2⟩ := hr f d e4
  refine attr_of (base_of (o := .Name x np) trivial) (thn ((pe_var hN hv hd hcd).run pins s σ H (fun y H1 => y = V.ref q.a ∧ H1 = H) I ⟨.ref q.a, e1, rfl, rfl⟩) fun u s1 hh => ?_)
  obtain ⟨y, H1, I1, ry, rfl, rfl⟩ := hh
  obtain rfl : u = Value.ref q.a := ry
  obtain ⟨oe, od, mA, ho, J, hns, ro, hod⟩ := T.inst I1 hx
  obtain ⟨od2, hod2, hl⟩ := lookIn_ns hns
  rw [hod] at hod2
  cases hod2
  obtain ⟨u, hu, ru⟩ := RelO.some_of (v := v) (o := mA f) (by rw [← l1]; exact ro f)
  exact PySem.HandSPX.exc_get I1.kIn J C.ga C.gg C.exC (PySem.W.findObj_own C.hdC hno rfl (by rw [hl, hu])) (handed_of ru) ⟨v, H1, I1.tok _, ru, Po.val po rl l2⟩
/-! ### isinstance -/
/-- a class by its name: of the program, or built in -/
structure ClsE (X : Cx) (e : Expr) (v : V) (cv : Value) : Prop where
  pe : PE X e (tC v)
  rv : ∀ u, RelV v u → u = cv
inductive ClsEs (X : Cx) : List Expr → List V → List Value → Prop
  | nil : ClsEs X [] [] []
  | cons {e : Expr} {es : List Expr} {v : V} {vs : List V} {c : Value} {cs : List Value} (h : ClsE X e v c) (r : ClsEs X es vs cs) : ClsEs X (e :: es) (v :: vs) (c :: cs)
theorem clsE_own {y : Str} {C : Addr} (hg : Gl X y) (hm : X.mg y = some (.ref C)) (hd : (y == ("__debug__" : Str)) = false) : ClsE X (.Name y np) (.ref C) (.ref C) := ⟨pe_glob hg hm rfl hd, fun u h => h⟩
theorem clsE_bltn {y : String} (hg : Gl X y) (hm : X.mg y = none) (hv : bootBuiltins y = some (.type y)) (hn : (y : Str) ≠ "__name__") (hd : ((y : Str) == ("__debug__" : Str)) = false) : ClsE X (.Name y np) (.ty y) (.type y) := ⟨pe_bltn hg hm hv rfl hn hd, fun u h => h⟩
/-- isinstance of the exception: a class, a tuple of classes -/
def rIX (K : PySem.W.Frag) (q : Gh) : List V → Hp → VK → Prop := fun xs H Q => (∃ fs, H q.d = some (.xd fs)) ∧ ((∃ (c : V) (cv : Value) (b : Bool), xs = [.ref q.a, c] ∧ (∀ u, RelV c u → u = cv) ∧ PySem.W.kitOne K (.ref (He.ga K q.cls)) cv = some b ∧ Q (.bl b) H) ∨
  ∃ (T : Addr) (vs : List V) (cvs : List Value) (b : Bool), xs = [.ref q.a, .ref T] ∧ H T = some (.tup vs) ∧ (∀ us, Vals vs us → us = cvs) ∧ PySem.W.kitAny K (.ref (He.ga K q.cls)) cvs = some b ∧ Q (.bl b) H)
theorem call_ix (T : HotAt X q) (C : XcC X.K (He.ga X.K q.cls)) : CallR X (.builtin "isinstance") (rIX X.K q) := by
  intro pins s σ H xs us Q I r h
  obtain ⟨⟨fs, hx⟩, h⟩ := h
  obtain ⟨oe, od, mA, ho, J, hns, ro, hod⟩ := T.inst I hx
  have Z : PySem.W.KitX X.K (.ref q.a) (.ref (He.ga X.K q.cls)) (fun h => PySem.W.InstAt h q.a oe (He.ga X.K q.cls) (some od)) := PySem.W.kitx_exc C.cl C.ga C.gg C.exC C.ca C.cn C.ct C.cm
  rcases h with ⟨c, cv, b, rfl, hcv, e, qb⟩ | ⟨Tp, vs, cvs, b, rfl, ht, hcv, e, qb⟩
  · cases r with
    | cons rx rr =>
      cases rr with
      | cons rt rr =>
        cases rr
        cases rx
        have ec := hcv _ rt
        subst ec
        exact PySem.W.kia_one Z I.kIn J e (fun z => nomatch z) fun tk => ⟨.bl b, H, I.kept (t' := tk) fun _ _ z => z, rfl, qb⟩
  · cases r with
    | cons rx rr =>
      cases rr with
      | cons rt rr =>
        cases rr
        cases rx
        cases rt
        obtain ⟨its, rv, hT, _⟩ := I.tuple (.inl (.inl ht))
        have ec := hcv _ rv
        subst ec
        obtain ⟨⟨oc, odd, oda, osl⟩, o1, o2, n, o3⟩ := hT
        dsimp only at o2 o3
        subst o2 o3
        exact PySem.W.kia_tup Z I.kIn J o1 e (fun z => nomatch z) fun tk => ⟨.bl b, H, I.kept (t' := tk) fun _ _ z => z, rfl, qb⟩
theorem ise_core {all cs : List Str} {K : Fg} {σ : L2.St} {H : Hp} {r : Env} {m : Store} {g : List Addr} {Q : VK} (hq : W.g = some q) (hs : RS K W.g g H r σ) (rl : Rel K g m H) (po : Po K W σ (RR K) H g H ((do
      let q ← excV r q.i
      let _ ← getX q.2
      chk (q.1 ∈ all)
      return .d (.bl (decide (q.1 ∈ cs))) : M R) m) Q) : σ[q.i]? = some (some (.ref q.a)) ∧ (∃ fs, H q.d = some (.xd fs)) ∧ q.cls ∈ all ∧ ∀ g' H', Ext g H g' H' → Rel K g' m H' → Q (.bl (decide (q.cls ∈ cs))) H' := by
  obtain ⟨j, e1, e2, po⟩ := excV_ok hs hq rfl po
  obtain ⟨es, e3, po⟩ := getX_ok po
  obtain ⟨c, po⟩ := chk_ok po
  obtain ⟨ws, h1, _⟩ := rl.cell j _ _ e3 e2
  exact ⟨e1, ⟨ws, h1⟩, c, fun g' H' ex rl' => (show ∀ g' H' v, Ext g H g' H' → Rel K g' m H' → RR K H g' H' (.d (.bl (decide (q.cls ∈ cs)))) v → Q v H' from po) g' H' _ ex rl' (.bl _)⟩
abbrev iseM (i : Nat) (all cs : List Str) : Env → M R := fun r => do
  let q ← excV r i
  let _ ← getX q.2
  chk (q.1 ∈ all)
  return .d (.bl (decide (q.1 ∈ cs)))
/-- isinstance(e, C) -/
theorem e_ise1 {all cs : List Str} {p : Pos} {t : Expr} {v : V} {cv : Value} (hg : Gl X "isinstance") (hm : X.mg "isinstance" = none) (T : HotAt X q) (hq : W.g = some q) (C : XcC X.K (He.ga X.K q.cls)) (hN : X.N[q.i]? = some x) (hv : Vis X.env.scope x) (hd : (x == ("__debug__" : Str)) = false) (hcd : (x == ("__classdict__" : Str)) = false)
    (ct : ClsE X t v cv) (nt : NotStar t) (hk : q.cls ∈ all → PySem.W.kitOne X.K (.ref (He.ga X.K q.cls)) cv = some (decide (q.cls ∈ cs))) : PE X (.Call (.Name "isinstance" p) [.Name x np, t] [] pos) (tR X.K W (iseM q.i all cs)) :=
  (pe_callB (call_ix T C) hg hm (by decide +kernel) (pa_cons (pe_var hN hv hd hcd) (pa_cons ct.pe pa_nil (star_of nt)) rfl) (by decide) (by decide) rfl (plain_of fun y hy => by cases List.mem_singleton.mp hy; exact nt)).imp fun σ H Q ⟨r, m, g, hs, rl, po⟩ => by
    obtain ⟨e1, hx, c, fin⟩ := ise_core hq hs rl po
    exact ⟨.ref q.a, e1, hx, .inl ⟨v, cv, _, rfl, ct.rv, hk c, fin g H (Ext.refl _ _) rl⟩⟩
theorem pa_cls {es : List Expr} {vs : List V} {cvs : List Value} (h : ClsEs X es vs cvs) (ns : ∀ e ∈ es, NotStar e) : PA X es (fun _ H Q => Q vs H) := by
  induction h with
  | nil => exact pa_nil.imp fun σ H Q q => q
  | @cons e es v vs c cs a b ih => exact (pa_cons a.pe (ih fun e he => ns e (List.mem_cons_of_mem _ he)) (star_of (ns e List.mem_cons_self))).imp fun σ H Q q => q
theorem vals_cls {es : List Expr} {vs : List V} {cvs : List Value} (h : ClsEs X es vs cvs) : ∀ us, Vals vs us → us = cvs := by
  induction h with
  | nil => intro us r; cases r; rfl
  | cons a b ih =>
    intro us r
    cases r with
    | cons r1 r2 => rw [a.rv _ r1, ih _ r2]
theorem cls_len {es : List Expr} {vs : List V} {cvs : List Value} (h : ClsEs X es vs cvs) : vs.length = es.length := by
  induction h with
  | nil => rfl
  | cons a b ih => simp [ih]
/-- isinstance(e, (C, ..)) -/
theorem e_iseT {all cs : List Str} {p p2 : Pos} {es : List Expr} {kk : Nat} {vs : List V} {cvs : List Value} (hg : Gl X "isinstance") (hm : X.mg "isinstance" = none) (T : HotAt X q) (hq : W.g = some q) (C : XcC X.K (He.ga X.K q.cls)) (hN : X.N[q.i]? = some x) (hv : Vis X.env.scope x) (hd : (x == ("__debug__" : Str)) = false) (hcd : (x == ("__classdict__" : Str)) = false)
    (ct : ClsEs X es vs cvs) (ns : ∀ e ∈ es, NotStar e) (hn : es.length ≤ sizeLine) (hk : q.cls ∈ all → PySem.W.kitAny X.K (.ref (He.ga X.K q.cls)) cvs = some (decide (q.cls ∈ cs))) : PE X (.Call (.Name "isinstance" p) [.Name x np, .Tuple es kk p2] [] pos) (tR X.K W (iseM q.i all cs)) :=
  (pe_callB (call_ix T C) hg hm (by decide +kernel) (pa_cons (pe_var hN hv hd hcd) (pa_cons (pe_tup (pa_cls ct ns)) pa_nil (star_of (show NotStar (.Tuple es kk p2) from trivial))) rfl) (by decide) (by decide) rfl (plain_of fun y hy => by cases List.mem_singleton.mp hy; trivial)).imp fun σ H Q ⟨r, m, g, hs, rl, po⟩ => by
    obtain ⟨e1, ⟨fs, hx⟩, c, fin⟩ := ise_core hq hs rl po
    refine ⟨.ref q.a, e1, by rw [cls_len ct]; exact hn, fun Tp hT => ?_⟩
    have ne : q.d ≠ Tp := fun z => by rw [z, hT] at hx; cases hx
    exact ⟨⟨fs, by rw [upd_ne ne]; exact hx⟩, .inr ⟨Tp, vs, cvs, _, rfl, upd_same, vals_cls ct, hk c, fin g _ (Ext.new hT) (rl.new hT)⟩⟩
end
end Pf

set_option maxHeartbeats 4000000
/-! Pe5: defs that are handed a caught exception. -/
namespace Pf
open PySem PySem.Spec PyProof.Rows L2
/-- what such a def promises: its meaning; the first argument is the exception at p -/
def spHot (K : Fg) (all : List Str) (n : Nat) (f : List D → M D) (p : Addr × Obj) (vs : List V) (H : Hp) (Q : VK) : Prop := vs.length = n ∧ ∃ (c : Str) (dd : Addr) (j : Nat) (ys : List V) (xs : List D) (m : Store) (g : List Addr), vs = .ref p.1 :: ys ∧ Zc (.ref (He.ga K c)) (some dd) p.2 ∧ (∃ us, p.2.data = .fields us) ∧ c ∈ all ∧ g[j]? = some dd ∧
  RDs K g H xs ys ∧ Rel K g m H ∧ Po K (⟨fun _ _ _ _ => False, none⟩ : WG) [] (repD K) H g H (f (.tup [.str c, .ref j] :: xs) m) Q
structure FnHot (P : Program) (w : World) (K : Fg) (mg : Str → Option Value) (base : Heap) (k : Nat) (f : Addr) (fd : FuncData) (ps : List Str) (all : List Str) (cf : List D → M D) : Prop where
  run : ∀ (A : Around) (outer : List PySem.Env) (s : Shared) (H : Hp) (args : Args) (us : List Value) (vs : List V) (Q : VK) (p : Addr × Obj), L2H.RoomH k A → A.guards = some [] → L2H.PinOk outer H s p → Env0 P w K mg base A outer s H → BindsTo s fd args (ps.zip us) → Vals vs us → spHot K all ps.length cf p vs H Q →
    codeAny (model P w) A (.call (.ref f) args) (CR (L2.CX P w) outer P w H s Q (fun _ _ _ => False)) s
/-- a def's body keeps its promise -/
theorem fnHot_of {P : Program} {w : World} {K : Fg} {mg : Str → Option Value} {base : Heap} {k : Nat} {f : Addr} {x qual : Str} {params : Arguments} {body : List Stmt} {scope : Scope} {dvs : List V} {kws : List (Str × V)} {fd : FuncData} {N ps all : List Str} {cf : List D → M D}
    (F : FunD K x qual params body scope dvs kws f fd) (S : FnScope N ps scope)
    (go : ∀ (cdv : Value) (A : Around) (outer : List PySem.Env) (s : Shared) (H : Hp) (vs : List V) (Q : VK) (p : Addr × Obj), L2H.RoomH k (A.deeper (envOfC qual scope s.heap.objs.size f cdv)) → (A.deeper (envOfC qual scope s.heap.objs.size f cdv)).guards = some [] → spHot K all ps.length cf p vs H Q →
      ∃ t, PSs (L2H.cxH (L2.CX P w) P w K mg base N qual scope f cdv A outer s H (fun _ _ _ => False) p) body t ∧ t { nx := fun _ H' => Q .non H', rt := Q } (start N vs) H) : FnHot P w K mg base (k + 1) f fd ps all cf := by
  obtain ⟨oc, od, dV, kV, doc, pm, an, cdv, ct, osl, rfl, lk, hcd, _, _⟩ := F.ex
  refine ⟨fun A outer s H args us vs Q p room gu pin e0 bt rv q => ?_⟩
  have nv := q.1
  have kin : K.In s.heap := e0.mod.kin.keeps fun b o e => (e0.bs b o e).1
  have nolim : s.heap.NoLimit := e0.mod.nolimit.keeps fun b o e => (e0.bs b o e).1
  have kinds : ∀ y ∈ ps.zip us, scope.names.lookup y.1 = some .local ∨ (scope.names.lookup y.1 = some .cell ∧ ((cellsFrom (s.heap.objs.size + 1) scope.names []).lookup y.1).isSome = true) := fun y hy => by
    rcases S.par y.1 (List.of_mem_zip hy).1 with z | z
    · exact .inl z
    · exact .inr ⟨z, PySem.W.cellsFrom_some _ _ _ (.inl z)⟩
  refine codeAny_call_function room.depth (kin _ _ lk) rfl S.co S.gen rfl (PySem.W.codeRec_of kin hcd) (bt _ _ _ _ (wpAny_newFunctionEnv_cells S.kind kinds fun env he s1 x1 => ?_))
  subst he
  refine ⟨nolim.keeps x1.toInCall.keep, codeAny_func ?_⟩
  obtain ⟨t, ht, hq⟩ := go cdv A outer s H vs Q p (room.deeper _) gu q
  have I : Inv (L2H.cxH (L2.CX P w) P w K mg base N qual scope f cdv A outer s H (fun _ _ _ => False) p) [] (start N vs) H s1 := L2H.inv_startH S pin e0 nv rv x1
  refine wpAny_mono (ht.run [] s1 (start N vs) H _ I hq) (fun fl s' hs => ?_) fun _ _ z => z
  cases fl with
  | ret u =>
    obtain ⟨v, σ', H', J, r1, r2⟩ := hs
    exact ⟨v, H', J.os, J.bare, J.base, J.hok, r1, r2⟩
  | next =>
    obtain ⟨σ', H', J, r2⟩ := hs
    exact ⟨V.non, H', J.os, J.bare, J.base, J.hok, rfl, r2⟩
  | brk =>
    obtain ⟨_, _, _, z⟩ := hs
    exact z.elim
  | cont =>
    obtain ⟨_, _, _, z⟩ := hs
    exact z.elim
/-- such a def by its name -/
structure CalleeH (X : Cx) (k : Nat) (x : Str) (ps all : List Str) (f : List D → M D) : Prop where
  ex : ∃ (a : Addr) (fd : FuncData), X.mg x = some (.ref a) ∧ PySem.W.keepIn X.K (.ref a) = true ∧ FnHot X.prog X.w X.K X.mg X.base k a fd ps all f ∧ ∀ (s : Shared) (us : List Value), X.K.In s.heap → us.length = ps.length → BindsTo s fd ⟨us, []⟩ (ps.zip us)
section
variable {X : Cx} {W : WG} {q : Gh} {x y : Str} {pos np p0 : Pos} {es : List Expr} {ps all : List Str} {k : Nat} {cf : List D → M D} {fs : Env → M (List D)}
theorem e_hcall (hw : ∀ c d σ H, ¬ W.w c d σ H) (hr : L2H.RoomH k X.A) (hgu : X.A.guards = some []) (hg : Gl X y) (C : CalleeH X k y ps all cf) (hd : (y == ("__debug__" : Str)) = false) (T : HotAt X q) (hq : W.g = some q) (hc : q.cls ∈ all) (hN : X.N[q.i]? = some x) (hv : Vis X.env.scope x) (hdx : (x == ("__debug__" : Str)) = false) (hcd : (x == ("__classdict__" : Str)) = false)
    (ns : ∀ e ∈ es, NotStar e) (ha : PA X es (tDs X.K W fs)) :
    PE X (.Call (.Name y p0) (.Name x np :: es) [] pos) (tR X.K W fun r => do
      let z ← excV r q.i
      let xs ← fs r
      return .d (← (do
        chk (xs.length + 1 = ps.length)
        cf (.tup [.str z.1, .ref z.2] :: xs) : M D))) := by
  obtain ⟨a, fd, hm, hk, F, hb⟩ := C.ex
  refine ⟨fun pins s σ H Q I ⟨r, m, g, hs, rl, po⟩ => ?_⟩
  obtain ⟨j, e1, e2, po⟩ := excV_ok hs hq rfl po
  refine wpAny_Call_Name_kw (ld_glob I hg hm ?_ hd)
  have all_ : PA X (.Name x np :: es) (fun σ H Q => ∃ v, σ[q.i]? = some (some v) ∧ tDs X.K W fs σ H fun vs H1 => Q (v :: vs) H1) := (pa_cons (pe_var hN hv hdx hcd) ha rfl).imp fun σ H Q z => z
  refine PySem.W.callWith_K (h₀ := X.base) I.ok.mod.kin hk (thn (all_.run pos pins s σ H (fun vs H1 => ∃ ys xs m1 g1, vs = .ref q.a :: ys ∧ RDs X.K g1 H1 xs ys ∧ Rel X.K g1 m1 H1 ∧ g1[j]? = some q.d ∧ xs.length + 1 = ps.length ∧ Po X.K W σ (repD X.K) H g1 H1 (cf (.tup [.str q.cls, .ref j] :: xs) m1) Q) I ⟨.ref q.a, e1, tM.step hs rl po (fun _ z => z) fun xs m1 g1 H1 vs ex rl1 hs1 rx fr1 po1 => ?_⟩) fun us s1 ⟨vs, H1, I1, r1, ys, xs, m1, g1, ev, rx, rl1, ej, hl, po1⟩ => ⟨I1.kIn, ?_⟩) rfl (plain_of ns)
  · have po2 := tailM (rep' := repD X.K) (rep := RR X.K) (f := R.d) (fun _ _ _ _ _ z => z) po1
    obtain ⟨c, po2⟩ := chk_ok po2
    obtain ⟨l, el, _⟩ := ex.pre
    exact ⟨vs, xs, m1, g1, rfl, rx, rl1, by rw [el]; exact app_at e2, c, po2⟩
  · subst ev
    obtain ⟨oe, hp, hz, hf⟩ := T.ex
    have P1 := I1.pin (q.a, oe) (List.mem_append_left _ hp)
    have pin : L2H.PinOk X.stack H1 s1 (q.a, oe) := ⟨P1.1, P1.2.1, fun hm => (List.mem_cons.mp (I1.stkSub _ hm)).elim P1.2.2.1 P1.2.2.2.1, P1.2.2.2.2⟩
    have lus : us.length = ps.length := by rw [← r1.length, List.length_cons, ← rx.length]; exact hl
    have sp : spHot X.K all ps.length cf (q.a, oe) (.ref q.a :: ys) H1 Q := by
      refine ⟨by rw [List.length_cons, ← rx.length]; exact hl, q.cls, q.d, j, ys, xs, m1, g1, rfl, hz, hf, hc, ej, rx, rl1, ?_⟩
      cases hcf : cf (.tup [.str q.cls, .ref j] :: xs) m1 with
      | ok d m2 => rw [hcf] at po1; exact po1
      | err e m2 =>
        rw [hcf] at po1
        exact fun g' H' c d a b e n => hw _ _ _ _ ((show ∀ g' H' cls d, Ext g1 H1 g' H' → Rel X.K g' m2 H' → ExcAt X.K g' H' _ cls d → (∀ a, d = some a → H1 a = none) → W.w cls d σ H' from po1) g' H' c d a b e n)
      | stuck => rw [hcf] at po1; exact po1
    refine wpAny_call (codeAny_mono (F.run X.A X.stack s1 H1 ⟨us, []⟩ us _ Q (q.a, oe) hr hgu pin I1.env0 (hb s1 us I1.kIn lus) r1 sp) fun res s' hq' => ?_)
    cases res with
    | error e =>
      obtain ⟨_, _, _, _, _, _, _, _, _, _, _, _, z⟩ := (show L2.CX X.prog X.w X.stack _ _ (fun _ _ _ => False) e s' from hq')
      exact z.elim
    | ok fl =>
      cases fl with
      | ret u => exact I1.after hq'
      | next => exact False.elim hq'
      | brk => exact False.elim hq'
      | cont => exact False.elim hq'
end
end Pf

/-! Pf11: from the model's syntax to the small language; an expression means what it means there. -/
namespace Pf
open PySem L2
/-! ### the translation -/
/-- what a name of the module stands for -/
inductive Gn where
  | fn (ps : List Str) (dfl : List D) | const (d : D) | free | hot (ps : List Str) | exc (fs : List Str)
/-- hot: an exception is handled here; exn: its name; anc: the classes of exceptions with what they are under; cls: names of classes; xflds: their fields -/
structure CC where
  N : List Str
  sc : Scope
  fb : Str → Bool
  top : Str → Option Gn
  hot : Bool := false
  exn : Option Str := none
  anc : List (Str × List Str) := []
  cls : List Str := []
  xflds : List Str := []
def CC.all (C : CC) : List Str := C.anc.map (·.1)
def CC.under (C : CC) (y : Str) : List Str := (C.anc.filter fun p => decide (y ∈ p.2)).map (·.1)
def CC.kind (C : CC) (x : Str) : Option NameKind := C.sc.names.lookup x
def CC.vis (C : CC) (x : Str) : Bool := match C.kind x with
  | some .local | some .cell | some .free => true
  | _ => false
def CC.glob (C : CC) (x : Str) : Bool := match C.kind x with
  | some .globalImplicit => true
  | _ => false
/-- a built-in's name -/
def CC.isFree (C : CC) (x : Str) : Bool := match C.top x with
  | some .free => true
  | _ => false
/-- a name's place -/
def CC.at_ (C : CC) (x : Str) : Option Nat := (C.N.findIdx? (· == x)).bind fun i => if C.N[i]? = some x then some i else none
/-- a name that may be stored here -/
def CC.slot (C : CC) (x : Str) : Option Nat := match C.kind x with
  | some .local => C.at_ x
  | some .cell => if C.fb x then C.at_ x else none
  | _ => none
def odd (x : Str) : Bool := x == ("__debug__" : Str) || x == ("__classdict__" : Str) || x == ("__name__" : Str)
def notStarB (e : Expr) : Bool := match e with
  | .Starred _ _ => false
  | _ => true
def cConst : Const → E
  | .none => .cst .non
  | .bool b => .cst (.bl b)
  | .int i => .cst (.int i)
  | .str x => .cst (.str x)
  | _ => .never
def cName (C : CC) (x : Str) : E :=
  if odd x || decide (C.exn = some x) then .never else
  if C.vis x then (match C.at_ x with
    | some i => .var i
    | none => .never)
  else if C.glob x then (match C.top x with
    | some (.const d) => .cst d
    | _ => .never)
  else .never
def BF.ar : BF → Nat
  | .max2 | .min2 => 2
  | _ => 1
def BF.table : List BF := [.len, .max1, .min1, .max2, .min2, .sum, .all, .any, .tuple, .list, .repr, .int1, .sorted, .str1]
def bfOf (x : Str) (n : Nat) : Option BF := BF.table.find? fun f => decide (x = (f.nm : Str)) && decide (f.ar = n)
def MF.ar : MF → Nat
  | .append | .extend | .count | .popAt | .index | .join | .get1 => 1
  | .pop | .upper => 0
  | .insert | .get2 | .pop2 => 2
def MF.table : List MF := [.append, .extend, .pop, .count, .popAt, .insert, .index, .join, .upper, .get1, .get2, .pop2]
def mfOf (x : Str) (n : Nat) : Option MF := MF.table.find? fun f => decide (x = (f.nm : Str)) && decide (f.ar = n)
def cEs (f : Expr → E) : List Expr → Es
  | [] => .nil
  | e :: es => .cons (f e) (cEs f es)
def cOpt (f : Expr → E) : Option Expr → E
  | none => .never
  | some e => f e
def cCall (C : CC) (x : Str) (args : List Expr) (es : Es) : E :=
  if odd x || !C.glob x || !args.all notStarB then .never else
  match C.top x with
  | some (.fn _ _) => .call x es
  | some .free => (match args, bfOf x args.length with
    | _ :: _, some f => .bif f es
    | _, _ => .never)
  | _ => .never
def isCall (e : Expr) : Bool := match e with
  | .Call _ _ _ _ => true
  | _ => false
def cMeth (o : Expr) (m : Str) (apos cpos : Pos) (args : List Expr) (eo : E) (es : Es) : E :=
  if isCall o || !(apos.endLine == cpos.line) || !args.all notStarB || 30 ≤ args.length then .never else
  match mfOf m args.length with
  | some f => .meth f eo es
  | none => .never
/-- a comprehension's own names, with their places -/
def ownOf (N : List Str) (scope : Scope) : List (Str × Nat) := scope.names.filterMap fun y => match y.2 with
  | .local | .cell => (N.findIdx? (· == y.1)).map fun i => (y.1, i)
  | _ => none
def CC.comp (C : CC) (scope : Scope) : CC := { C with sc := relS scope C.sc, fb := fun x => scope.names.lookup x == some .cell }
def nameOf (C : CC) : Expr → Option Nat
  | .Name x _ => C.slot x
  | _ => none
def namesOf (C : CC) : List Expr → Option (List Nat)
  | [] => some []
  | e :: es => match nameOf C e, namesOf C es with
    | some i, some is => some (i :: is)
    | _, _ => none
def cT (C : CC) : Expr → Option T
  | .Name x _ => (C.slot x).map .name
  | .Tuple es _ _ => (namesOf C es).map .tup
  | _ => none
def isTup (e : Expr) : Bool := match e with
  | .Tuple _ _ _ => true
  | _ => false
def isSet (e : Expr) : Bool := match e with
  | .Set _ _ _ => true
  | _ => false
/-- what reversed walks -/
def cRev (C : CC) (f : Expr → E) : Expr → I
  | .Call (.Name y p) [b] [] q => if y = "range" && C.glob y && C.isFree y && notStarB b then .rvr (f b) else .rvl (f (.Call (.Name y p) [b] [] q))
  | a => .rvl (f a)
/-- what is walked -/
def cI (C : CC) (f : Expr → E) (tg : Expr) (iter : Expr) : I := match iter with
  | .Call (.Name x _) [a] [] _ =>
    if x = "range" && C.glob x && C.isFree x && notStarB a then .range1 (f a)
    else if x = "enumerate" && C.glob x && C.isFree x && notStarB a && isTup tg then .enum (f a)
    else if x = "reversed" && C.glob x && C.isFree x && notStarB a then cRev C f a
    else .seq (f iter)
  | .Call (.Name x _) [a, b] [] _ =>
    if x = "range" && C.glob x && C.isFree x && notStarB a && notStarB b then .range2 (f a) (f b)
    else if x = "zip" && C.glob x && C.isFree x && notStarB a && notStarB b && isTup tg then .zip (f a) (f b)
    else .seq (f iter)
  | _ => .seq (f iter)
def cUn (f : Expr → E) (a : Expr) : UnaryOp → E
  | .USub => .neg (f a)
  | .Not => .not (f a)
  | _ => .never
def cCompare (f : Expr → E) (a : Expr) : List CmpOp → List Expr → E
  | [o], [b] => if behindInMarks o b then .never else .cmp o (f a) (f b)
  | [o, p], [b, c] => if lastMarks [o, p] [b, c] then .never else .cmp2 o p (f a) (f b) (f c)
  | _, _ => .never
def cBool (f : Expr → E) (o : BoolOp) (pos : Pos) : List Expr → E
  | [] => .never
  | [a] => f a
  | a :: b :: r => match o with
    | .And => .and (f a) (f (.BoolOp .And (b :: r) pos))
    | .Or => .or (f a) (f (.BoolOp .Or (b :: r) pos))
def cSub (f : Expr → E) (a : Expr) : Expr → E
  | .Slice none none (some (.UnaryOp .USub (.Constant (.int 1) _ _) _)) _ => .rev (f a)
  | .Slice lo hi none _ => .sl (f a) lo.isSome hi.isSome (cOpt f lo) (cOpt f hi)
  | .Slice _ _ (some _) _ => .never
  | i => .ix (f a) (f i)
/-- isinstance -/
def Ty.table : List Ty := [.int, .bool, .str, .tuple, .list, .dict]
def tyOf (x : Str) : Option Ty := Ty.table.find? fun t => decide (x = (t.nm : Str))
def cTy (C : CC) : Expr → Option Ty
  | .Name x _ => if C.glob x && C.isFree x then tyOf x else none
  | _ => none
def cTys (C : CC) : List Expr → Option (List Ty)
  | [] => some []
  | e :: es => match cTy C e, cTys C es with
    | some t, some ts => some (t :: ts)
    | _, _ => none
def cIsi (C : CC) (f : Expr → E) : List Expr → E
  | [e, .Tuple es _ _] => if notStarB e && decide (es.length ≤ 100) then (match cTys C es with
    | some ts => .isi ts (f e)
    | none => .never) else .never
  | [e, t] => if notStarB e then (match cTy C t with
    | some t => .isi [t] (f e)
    | none => .never) else .never
  | _ => .never
/-- a display of a dict -/
def cKey : Option Expr → Option Key
  | some (.Constant (.int i) _ _) => some (.inl i)
  | some (.Constant (.str z) _ _) => some (.inr z)
  | _ => none
def cKeys : List (Option Expr) → Option (List Key)
  | [] => some []
  | e :: es => match cKey e, cKeys es with
    | some k, some ks => some (k :: ks)
    | _, _ => none
def cDct (f : Expr → E) (ks : List (Option Expr)) (vs : List Expr) : E :=
  if decide (ks.length = vs.length) && decide (ks.length ≤ 15) then (match cKeys ks with
    | some js => .dct js (cEs f vs)
    | none => .never) else .never
/-- calls of some shapes -/
def cSpec (C : CC) (f : Expr → E) (x : Str) : List Expr → Option E
  | [.Call (.Name y _) [a] [] _] => if x = "list" && C.glob x && C.isFree x && y = "range" && C.glob y && C.isFree y && notStarB a then some (.lrg1 (f a)) else none
  | [.Call (.Name y _) [a, b] [] _] => if x = "list" && C.glob x && C.isFree x && y = "range" && C.glob y && C.isFree y && notStarB a && notStarB b then some (.lrg2 (f a) (f b)) else none
  | _ => none
/-- max, min of one thing, with a default -/
def cKw (C : CC) (f : Expr → E) (x : Str) (nm : Option Str) (d : Expr) : List Expr → E
  | [a] => if x = "max" && C.glob x && C.isFree x && nm = some "default" && notStarB a then .mxd true (f a) (f d)
    else if x = "min" && C.glob x && C.isFree x && nm = some "default" && notStarB a then .mxd false (f a) (f d)
    else .never
  | _ => .never
def cCallE (C : CC) (f : Expr → E) (args : List Expr) (cpos : Pos) : List Keyword → Expr → E
  | [], .Name x _ => if x = "isinstance" && C.glob x && C.isFree x then cIsi C f args else match cSpec C f x args with
    | some e => e
    | none => cCall C x args (cEs f args)
  | [⟨nm, d, _⟩], .Name x _ => cKw C f x nm d args
  | [], .Attribute o m apos => cMeth o m apos cpos args (f o) (cEs f args)
  | _, _ => .never
/-- isinstance of the caught exception -/
def clsB (C : CC) : Expr → Bool
  | .Name y _ => C.glob y && C.cls.contains y && !odd y
  | _ => false
def clsU (C : CC) : Expr → List Str
  | .Name y _ => C.under y
  | _ => []
def cIse (C : CC) (i : Nat) : List Expr → E
  | [.Tuple es _ _] => if es.all (clsB C) && decide (es.length ≤ 100) then .ise i C.all (es.flatMap (clsU C)) else .never
  | [t] => if clsB C t then .ise i C.all (clsU C t) else .never
  | _ => .never
/-- where the caught exception stands -/
def CC.exAt (C : CC) (x : Str) : Option Nat := if decide (C.exn = some x) && C.vis x && !odd x then C.at_ x else none
def cCallH (C : CC) (f : Expr → E) (args : List Expr) (cpos : Pos) : List Keyword → Expr → E
  | [], .Name x _ => (match args with
    | .Name y _ :: r => (match C.exAt y with
      | some i => if x = "isinstance" && C.glob x && C.isFree x then cIse C i r else
        (match C.top x with
        | some (.hot _) => if C.glob x && !odd x && r.all notStarB then .hcall x i (cEs f r) else .never
        | _ => .never)
      | none => if x = "isinstance" && C.glob x && C.isFree x then cIsi C f args else .never)
    | _ => if x = "isinstance" && C.glob x && C.isFree x then cIsi C f args else .never)
  | [], .Attribute o m apos => cMeth o m apos cpos args (f o) (cEs f args)
  | _, _ => .never
def cAttr (C : CC) (f : Str) : Expr → E
  | .Name x _ => if C.hot && C.xflds.contains f then (match C.exAt x with
    | some i => .xf i f
    | none => .never) else .never
  | _ => .never
/-- a comprehension of one clause -/
def oneGen : List Comprehension → Option (Expr × Expr × List Expr)
  | [⟨tg, iter, ifs, a⟩] => if a = 0 then some (tg, iter, ifs) else none
  | _ => none
def cIfs (f : Expr → E) : List Expr → Option E
  | [] => some (.cst (.bl true))
  | [c] => some (f c)
  | _ => none
def cLC (f : CC → Expr → E) (C : CC) (elt : Expr) (scope : Scope) (tg iter : Expr) (ifs : List Expr) : E :=
  if !blkC C.N C.sc scope (ownOf C.N scope) || isSet iter then .never else
  match cT (C.comp scope) tg, cIfs (f (C.comp scope)) ifs with
  | some t, some c => if t.slots.all fun i => ((ownOf C.N scope).map (·.2)).contains i then .comp ((ownOf C.N scope).map (·.2)) t (cI C (f C) tg iter) c (f (C.comp scope) elt) else .never
  | _, _ => .never
def cE : Nat → CC → Expr → E
  | 0, _, _ => .never
  | n + 1, C, e => match e with
    | .Constant c _ _ => cConst c
    | .Name x _ => cName C x
    | .BinOp a o b _ => .bin o (cE n C a) (cE n C b)
    | .UnaryOp o a _ => cUn (cE n C) a o
    | .Compare a ops bs _ => cCompare (cE n C) a ops bs
    | .BoolOp o vs pos => cBool (cE n C) o pos vs
    | .IfExp c a b _ => .ite (cE n C c) (cE n C a) (cE n C b)
    | .Tuple es _ _ => if es.all notStarB then .tup (cEs (cE n C) es) else .never
    | .List es _ => if es.all notStarB then .lst (cEs (cE n C) es) else .never
    | .Subscript a s _ => cSub (cE n C) a s
    | .Dict ks vs _ => cDct (cE n C) ks vs
    | .Call f args kws cpos => if C.hot then cCallH C (cE n C) args cpos kws f else cCallE C (cE n C) args cpos kws f
    | .Attribute o f _ => cAttr C f o
    | .ListComp elt gens scope _ => if C.hot then .never else (match oneGen gens with
      | some (tg, iter, ifs) => cLC (cE n) C elt scope tg iter ifs
      | none => .never)
    | _ => .never

/-! ### where it holds -/
/-- what the context gives -/
structure COk (X : Cx) (W : WG) (C : CC) (cf : CF) (k : Nat) : Prop where
  N : X.N = C.N
  sc : X.env.scope = C.sc
  calm : C.hot = false → X.calm = true
  gn : C.hot = false → W.g = none ∧ C.exn = none
  hw : C.hot = true → ∀ c d σ H, ¬ W.w c d σ H
  k2 : 2 ≤ k
  gx : ∀ q, W.g = some q → ∃ x, C.exn = some x ∧ C.N[q.i]? = some x ∧ HotAt X q ∧ q.cls ∈ C.all
  xg : ∀ x, C.exn = some x → ∃ q, W.g = some q
  xc : ∀ c ∈ C.all, XcC X.K (He.ga X.K c) ∧ ∀ f ∈ C.xflds, PySem.W.findIn X.K (.ref (He.ga X.K c)) f = some none
  cl : ∀ y ∈ C.cls, ∃ (v : V) (cv : Value), ((X.mg y = some cv ∧ ∃ a, v = .ref a ∧ cv = .ref a) ∨ (X.mg y = none ∧ bootBuiltins y = some cv ∧ ∃ z : String, v = .ty z ∧ cv = .type z)) ∧ (∀ c ∈ C.all, PySem.W.kitOne X.K (.ref (He.ga X.K c)) cv = some (decide (c ∈ C.under y))) ∧
    ∀ c ∈ C.all, PySem.W.exmOne X.K (.ref (He.ga X.K c)) cv = some (decide (c ∈ C.under y))
  exc : ∀ x fs, C.top x = some (.exc fs) → RaiseOk X 1 x fs
  hfun : ∀ x ps, C.top x = some (.hot ps) → ∃ f, CalleeH X k x ps C.all f ∧ cf x = fun xs => (do
    chk (xs.length ≤ ps.length ∧ ps.length ≤ xs.length)
    f xs : M D)
  nd : X.N.Nodup
  un : X.A.units + 64 < cLine
  gu : X.A.guards = some []
  tk : Takes X W.w
  room : C.hot = false → Room k X.A
  roomH : L2H.RoomH k X.A
  fn : ∀ x, C.fb x = true → C.kind x = some .cell → X.fn x = true
  func : ∀ x ps dfl, C.top x = some (.fn ps dfl) → ∃ f, Callee X k x ps dfl f ∧ cf x = fun xs => (do
    chk (xs.length ≤ ps.length ∧ ps.length ≤ xs.length + dfl.length)
    f (filled ps.length dfl xs) : M D)
  const : ∀ x d, C.top x = some (.const d) → ∃ v u, X.mg x = some u ∧ RelV v u ∧ ∀ g H, RD X.K g H d v
  free : ∀ x, C.top x = some .free → X.mg x = none
section
variable {X : Cx} {W : WG} {C : CC} {cf : CF} {k : Nat}
theorem CC.at_ok {x : Str} {i : Nat} (h : C.at_ x = some i) : C.N[i]? = some x := by
  unfold CC.at_ at h
  cases e : C.N.findIdx? (· == x) with
  | none => rw [e] at h; cases h
  | some j =>
    rw [e] at h
    have h' : (if C.N[j]? = some x then some j else none) = some i := h
    split at h'
    · cases h'; assumption
    · cases h'
theorem COk.vis (c : COk X W C cf k) {x : Str} (h : C.vis x = true) : Vis X.env.scope x := by
  unfold CC.vis CC.kind at h
  unfold Vis
  rw [c.sc]
  split at h
  · exact .inl (by assumption)
  · exact .inr (.inl (by assumption))
  · exact .inr (.inr (by assumption))
  · cases h
theorem COk.gl (c : COk X W C cf k) {x : Str} (h : C.glob x = true) : Gl X x := by
  unfold CC.glob CC.kind at h
  show X.env.scope.names.lookup x = _
  rw [c.sc]
  split at h
  · assumption
  · cases h
theorem odd_no {x : Str} (h : ¬ odd x = true) : (x == ("__debug__" : Str)) = false ∧ (x == ("__classdict__" : Str)) = false ∧ x ≠ ("__name__" : Str) := by
  unfold odd at h
  simp only [Bool.or_eq_true, not_or, Bool.not_eq_true] at h
  refine ⟨h.1.1, h.1.2, fun e => ?_⟩
  have := h.2
  rw [e] at this
  simp at this
/-- a slot: its place, and that it may be stored -/
theorem COk.slot (c : COk X W C cf k) {x : Str} {i : Nat} (h : C.slot x = some i) : X.N[i]? = some x ∧ Loc X.env.scope x ∧ (X.fn x = true ∨ X.env.scope.names.lookup x = some .local) := by
  unfold CC.slot at h
  split at h
  · rename_i q
    refine ⟨by rw [c.N]; exact CC.at_ok h, .inl (by rw [c.sc]; exact q), .inr (by rw [c.sc]; exact q)⟩
  · rename_i q
    split at h
    · rename_i z
      exact ⟨by rw [c.N]; exact CC.at_ok h, .inr (by rw [c.sc]; exact q), .inl (c.fn x z q)⟩
    · cases h
  · cases h
theorem star_iff {e : Expr} (h : notStarB e = true) : NotStar e := by
  unfold notStarB at h
  cases e <;> first | trivial | (cases h)
theorem stars_iff {es : List Expr} (h : es.all notStarB = true) : ∀ e ∈ es, NotStar e := fun e he => star_iff (List.all_eq_true.mp h e he)
theorem pe_no {e : Expr} {t : TE} (h : ∀ σ H Q, ¬ t σ H Q) : PE X e t := ⟨fun _ _ σ H Q _ q => (h σ H Q q).elim⟩
theorem pt_no {e : Expr} {t : TT} (h : ∀ σ H Q, ¬ t σ H Q) : PT X e t := ⟨fun _ _ σ H Q _ q => (h σ H Q q).elim⟩
theorem noR {K : Fg} : ∀ σ H Q, ¬ tR K W (den cf .never).v σ H Q := fun σ H Q ⟨_, _, _, _, _, po⟩ => po
theorem noT {K : Fg} : ∀ σ H Q, ¬ tT K W (den cf .never).t σ H Q := fun σ H Q ⟨_, _, _, _, _, po⟩ => po
/-- both readings of an expression -/
structure Both (X : Cx) (W : WG) (cf : CF) (e : Expr) (x : E) : Prop where
  v : PE X e (tR X.K W (den cf x).v)
  t : PT X e (tT X.K W (den cf x).t)
theorem Both.no {e : Expr} : Both X W cf e .never := ⟨pe_no noR, pt_no noT⟩
/-- where a test is the value's truth -/
def plainT (e : Expr) : Bool := match e with
  | .UnaryOp .Not _ _ | .BoolOp _ _ _ | .IfExp _ _ _ _ | .Compare _ _ _ _ => false
  | _ => true
theorem plainT_ok {e : Expr} {env : PySem.Env} (h : plainT e = true) : ∀ whole, isTrue e env whole = (do let v ← whole; standAt e.pos; holding [v] (truthy v)) := by
  intro whole
  cases e with
  | UnaryOp o a p => cases o <;> first | rfl | (cases h)
  | BoolOp o a p => cases h
  | IfExp a b c p => cases h
  | Compare a b c p => cases h
  | _ => rfl
theorem Both.of {e : Expr} {f : Env → M R} {x : E} (hp : plainT e = true) (hx : den cf x = Dn.of f) (h : PE X e (tR X.K W f)) : Both X W cf e x := by
  refine ⟨by rw [hx]; exact h, ?_⟩
  rw [hx]
  exact t_any h (plainT_ok hp)
theorem boot_bf : ∀ f : BF, bootBuiltins (f.nm : Str) = some f.val
  | .len => by decide +kernel
  | .max1 => by decide +kernel
  | .min1 => by decide +kernel
  | .max2 => by decide +kernel
  | .min2 => by decide +kernel
  | .sum => by decide +kernel
  | .all => by decide +kernel
  | .any => by decide +kernel
  | .tuple => by decide +kernel
  | .list => by decide +kernel
  | .repr => by decide +kernel
  | .int1 => by decide +kernel
  | .str1 => by decide +kernel
  | .sorted => by decide +kernel
theorem bfOf_ok {x : Str} {n : Nat} {f : BF} (h : bfOf x n = some f) : x = (f.nm : Str) := by
  have := List.find?_some h
  simp only [Bool.and_eq_true, decide_eq_true_eq] at this
  exact this.1
theorem mfOf_ok {x : Str} {n : Nat} {f : MF} (h : mfOf x n = some f) : x = f.nm := by
  have := List.find?_some h
  simp only [Bool.and_eq_true, decide_eq_true_eq] at this
  exact this.1
end
end Pf

/-! Pf12: every expression means what it means in the small language. -/
namespace Pf
open PySem L2
section
variable {X : Cx} {W : WG} {C : CC} {cf : CF} {k : Nat}
theorem CF.eta (cf : CF) : ∀ xs, (fun xs => cf "" xs) xs = cf "" xs := fun _ => rfl
theorem const_ok {c : Const} {j : Nat} {pos : Pos} : Both X W cf (.Constant c j pos) (cConst c) := by
  cases c with
  | none => exact Both.of (f := fun _ => pure (.d .non)) rfl rfl (e_cst pe_non fun _ _ => .non)
  | bool b => exact Both.of (f := fun _ => pure (.d (.bl b))) rfl rfl (e_cst pe_bl fun _ _ => .bl b)
  | int b => exact Both.of (f := fun _ => pure (.d (.int b))) rfl rfl (e_cst pe_int fun _ _ => .int b)
  | str b => exact Both.of (f := fun _ => pure (.d (.str b))) rfl rfl (e_cst pe_str fun _ _ => .str b)
  | _ => exact Both.no
theorem name_ok (c : COk X W C cf k) {x : Str} {pos : Pos} : Both X W cf (.Name x pos) (cName C x) := by
  unfold cName
  by_cases ho : (odd x || decide (C.exn = some x)) = true
  · rw [if_pos ho]; exact Both.no
  · rw [if_neg ho]
    simp only [Bool.or_eq_true, not_or, decide_eq_true_eq] at ho
    obtain ⟨ho, hx⟩ := ho
    obtain ⟨o1, o2, o3⟩ := odd_no ho
    by_cases hv : C.vis x = true
    · rw [if_pos hv]
      cases e : C.at_ x with
      | none => exact Both.no
      | some i => exact Both.of (f := fun r => do return .d (← getV r i)) rfl rfl (e_var (fun q hq z => by
        obtain ⟨y, h1, h2, _⟩ := c.gx q hq
        rw [← z, CC.at_ok e] at h2
        cases h2
        exact hx h1) (by rw [c.N]; exact CC.at_ok e) (c.vis hv) o1 o2)
    · rw [if_neg hv]
      by_cases hg : C.glob x = true
      · rw [if_pos hg]
        cases e : C.top x with
        | none => exact Both.no
        | some g =>
          cases g with
          | const d =>
            obtain ⟨v, u, hm, hr, hd⟩ := c.const x d e
            exact Both.of (f := fun _ => pure (.d d)) rfl rfl (e_cst (pe_glob (c.gl hg) hm hr o1) hd)
          | _ => exact Both.no
      · rw [if_neg hg]; exact Both.no
/-- arguments -/
theorem es_ok {f : Expr → E} {n : Nat} : ∀ {es : List Expr}, (∀ e ∈ es, NotStar e) → (∀ e ∈ es, Both X W cf e (f e)) → PA X es (tDs X.K W (denD cf (cEs f es))) ∧ PA X es (tRs X.K W (denR cf (cEs f es)))
  | [], _, _ => ⟨a_nilD, a_nilR⟩
  | e :: es, ns, h => by
    obtain ⟨h1, h2⟩ := es_ok (n := n) (es := es) (fun x hx => ns x (List.mem_cons_of_mem _ hx)) fun x hx => h x (List.mem_cons_of_mem _ hx)
    have b := h e List.mem_cons_self
    exact ⟨a_consD (ns e List.mem_cons_self) b.v h1, a_consR (ns e List.mem_cons_self) b.v h2⟩
theorem call_ok (c : COk X W C cf k) (hh : C.hot = false) {x : Str} {p pos : Pos} {args : List Expr} {es : Es} (h : (∀ e ∈ args, NotStar e) → PA X args (tDs X.K W (denD cf es)) ∧ PA X args (tRs X.K W (denR cf es))) (hz : args = [] → es = .nil) :
    Both X W cf (.Call (.Name x p) args [] pos) (cCall C x args es) := by
  unfold cCall
  by_cases hb : (odd x || !C.glob x || !args.all notStarB) = true
  · rw [if_pos hb]; exact Both.no
  · rw [if_neg hb]
    simp only [Bool.or_eq_true, not_or, Bool.not_eq_true, Bool.not_eq_false'] at hb
    obtain ⟨⟨hb1, hb2⟩, hb3⟩ := hb
    obtain ⟨o1, o2, o3⟩ := odd_no (by rw [hb1]; exact Bool.false_ne_true)
    have ns := stars_iff hb3
    obtain ⟨hD, hR⟩ := h ns
    cases e : C.top x with
    | none => exact Both.no
    | some g =>
      cases g with
      | const d => exact Both.no
      | hot _ => exact Both.no
      | exc _ => exact Both.no
      | fn ps dfl =>
        obtain ⟨f, F, ef⟩ := c.func x ps dfl e
        refine Both.of (x := .call x es) (f := fun r => do
          let xs ← denD cf es r
          return .d (← cf x xs)) rfl rfl ?_
        rw [ef]
        cases args with
        | nil =>
          have := hz rfl
          subst this
          exact e_call0 c.tk (c.room hh) c.gu (c.gl hb2) F o1
        | cons a as => exact e_call c.tk (c.room hh) c.gu (c.gl hb2) F o1 ns hD
      | free =>
        cases args with
        | nil => exact Both.no
        | cons a as =>
          simp only
          cases e2 : bfOf x (a :: as).length with
          | none => exact Both.no
          | some f =>
            have ex := bfOf_ok e2
            refine Both.of (x := .bif f es) (f := fun r => do
              let xs ← denR cf es r
              bfR f xs) rfl rfl ?_
            exact e_bif (c.calm hh) c.un c.gu ex (c.gl hb2) (c.free x e) (by rw [ex]; exact boot_bf f) o3 o1 (ns a List.mem_cons_self) (fun y hy => ns y (List.mem_cons_of_mem _ hy)) hR
theorem meth_ok (c : COk X W C cf k) {o : Expr} {m : Str} {apos cpos : Pos} {args : List Expr} {eo : E} {es : Es} (ho : Both X W cf o eo) (h : (∀ e ∈ args, NotStar e) → PA X args (tDs X.K W (denD cf es)) ∧ PA X args (tRs X.K W (denR cf es))) (hz : args = [] → es = .nil) :
    Both X W cf (.Call (.Attribute o m apos) args [] cpos) (cMeth o m apos cpos args eo es) := by
  unfold cMeth
  by_cases hb : (isCall o || !(apos.endLine == cpos.line) || !args.all notStarB || decide (30 ≤ args.length)) = true
  · rw [if_pos hb]; exact Both.no
  · rw [if_neg hb]
    simp only [Bool.or_eq_true, not_or, Bool.not_eq_true, Bool.not_eq_false', decide_eq_true_eq] at hb
    obtain ⟨⟨⟨hb1, hb2⟩, hb3⟩, hb4⟩ := hb
    have nc : NotCall o := by
      unfold isCall at hb1
      cases o <;> first | trivial | (cases hb1)
    have ns := stars_iff hb3
    obtain ⟨hD, hR⟩ := h ns
    cases e2 : mfOf m args.length with
    | none => exact Both.no
    | some f =>
      have ex := mfOf_ok e2
      subst ex
      refine Both.of (x := .meth f eo es) (f := fun r => do
        let x ← (den cf eo).v r
        okM f x
        let xs ← argM f.names (denD cf es) (denR cf es) r
        mfR f x xs) rfl rfl ?_
      cases args with
      | nil =>
        have := hz rfl
        subst this
        exact e_meth0 c.un nc hb2 ho.v
      | cons a as => exact e_meth c.un nc hb2 ns (by omega) ho.v hD hR
theorem COk.fr (c : COk X W C cf k) {x : Str} (z : C.isFree x = true) : X.mg x = none := by
  unfold CC.isFree at z
  split at z
  · exact c.free x (by assumption)
  · cases z
theorem cTy_ok (c : COk X W C cf k) {e : Expr} {t : Ty} (h : cTy C e = some t) : TyE X e t := by
  unfold cTy at h
  split at h
  · rename_i x p
    split at h
    · rename_i q
      simp only [Bool.and_eq_true] at q
      have e : x = (t.nm : Str) := by
        have := List.find?_some h
        simpa using this
      subst e
      exact ⟨⟨p, rfl⟩, c.gl q.1, c.fr q.2⟩
    · cases h
  · cases h
theorem cTys_ok (c : COk X W C cf k) : ∀ {es : List Expr} {ts : List Ty}, cTys C es = some ts → TyEs X es ts ∧ ts.length = es.length
  | [], ts, h => by cases h; exact ⟨.nil, rfl⟩
  | e :: es, ts, h => by
    unfold cTys at h
    cases q1 : cTy C e with
    | none => rw [q1] at h; cases h
    | some t =>
      cases q2 : cTys C es with
      | none => rw [q1, q2] at h; cases h
      | some us =>
        rw [q1, q2] at h
        cases h
        obtain ⟨h1, h2⟩ := cTys_ok c q2
        exact ⟨.cons (cTy_ok c q1) h1, by simp [h2]⟩
theorem isi_ok (c : COk X W C cf k) {f : Expr → E} {p pos : Pos} {args : List Expr} (hg : C.glob "isinstance" = true) (hf : C.isFree "isinstance" = true) (h : ∀ a, Both X W cf a (f a)) : Both X W cf (.Call (.Name "isinstance" p) args [] pos) (cIsi C f args) := by
  unfold cIsi
  split
  · rename_i e es kk p2
    split
    · rename_i q
      simp only [Bool.and_eq_true, decide_eq_true_eq] at q
      cases q2 : cTys C es with
      | none => exact Both.no
      | some ts =>
        obtain ⟨h1, h2⟩ := cTys_ok c q2
        exact Both.of (x := .isi ts (f e)) rfl rfl (e_isiT (c.gl hg) (c.fr hf) h1 (by have := sizeLine_eq; omega) (star_iff q.1) (h e).v)
    · exact Both.no
  · rename_i e t _
    split
    · rename_i q
      cases q2 : cTy C t with
      | none => exact Both.no
      | some t' => exact Both.of (x := .isi [t'] (f e)) rfl rfl (e_isi1 (c.gl hg) (c.fr hf) (cTy_ok c q2) (star_iff q) (h e).v)
    · exact Both.no
  · exact Both.no
theorem spec_ok (c : COk X W C cf k) (hh : C.hot = false) {f : Expr → E} {x : Str} {p pos : Pos} {args : List Expr} {e : E} (h : ∀ a, Both X W cf a (f a)) (z : cSpec C f x args = some e) : Both X W cf (.Call (.Name x p) args [] pos) e := by
  unfold cSpec at z
  split at z
  · rename_i y p2 a pos2
    split at z
    · rename_i q
      simp only [Bool.and_eq_true, decide_eq_true_eq] at q
      obtain ⟨⟨⟨⟨⟨⟨q1, q2⟩, q3⟩, q4⟩, q5⟩, q6⟩, q7⟩ := q
      subst q1 q4
      cases z
      exact Both.of (x := .lrg1 (f a)) rfl rfl (e_lrg1 (c.calm hh) (c.gl q2) (c.fr q3) (c.gl q5) (c.fr q6) (star_iff q7) (h a).v)
    · cases z
  · rename_i y p2 a b pos2
    split at z
    · rename_i q
      simp only [Bool.and_eq_true, decide_eq_true_eq] at q
      obtain ⟨⟨⟨⟨⟨⟨⟨q1, q2⟩, q3⟩, q4⟩, q5⟩, q6⟩, q7⟩, q8⟩ := q
      subst q1 q4
      cases z
      exact Both.of (x := .lrg2 (f a) (f b)) rfl rfl (e_lrg2 (c.calm hh) (c.gl q2) (c.fr q3) (c.gl q5) (c.fr q6) (star_iff q7) (star_iff q8) (h a).v (h b).v)
    · cases z
  · cases z
theorem kw_ok (c : COk X W C cf k) (hh : C.hot = false) {f : Expr → E} {x : Str} {p pos kp : Pos} {nm : Option Str} {d : Expr} {args : List Expr} (h : ∀ a, Both X W cf a (f a)) : Both X W cf (.Call (.Name x p) args [⟨nm, d, kp⟩] pos) (cKw C f x nm d args) := by
  unfold cKw
  split
  · rename_i a
    split
    · rename_i q
      simp only [Bool.and_eq_true, decide_eq_true_eq] at q
      obtain ⟨⟨⟨⟨q1, q2⟩, q3⟩, q4⟩, q5⟩ := q
      subst q1 q4
      exact Both.of (x := .mxd true (f a) (f d)) rfl rfl (e_mxd (k := true) (c.calm hh) c.un (c.gl q2) (c.fr q3) (star_iff q5) (h a).v (h d).v)
    · split
      · rename_i q
        simp only [Bool.and_eq_true, decide_eq_true_eq] at q
        obtain ⟨⟨⟨⟨q1, q2⟩, q3⟩, q4⟩, q5⟩ := q
        subst q1 q4
        exact Both.of (x := .mxd false (f a) (f d)) rfl rfl (e_mxd (k := false) (c.calm hh) c.un (c.gl q2) (c.fr q3) (star_iff q5) (h a).v (h d).v)
      · exact Both.no
  · exact Both.no
theorem cKeys_ok : ∀ {ks : List (Option Expr)} {js : List Key}, cKeys ks = some js → KeyEs X ks js
  | [], js, h => by cases h; exact .nil
  | e :: es, js, h => by
    unfold cKeys at h
    cases q1 : cKey e with
    | none => rw [q1] at h; cases h
    | some j =>
      cases q2 : cKeys es with
      | none => rw [q1, q2] at h; cases h
      | some us =>
        rw [q1, q2] at h
        cases h
        unfold cKey at q1
        split at q1
        · cases q1; exact .cons ⟨pe_int⟩ (cKeys_ok q2)
        · cases q1; exact .cons ⟨pe_str⟩ (cKeys_ok q2)
        · cases q1
theorem valEs_of {f : Expr → E} (h : ∀ a, Both X W cf a (f a)) : ∀ vs : List Expr, ValEs X W vs (vs.map fun e => (den cf (f e)).v)
  | [] => .nil
  | e :: es => .cons (h e).v (valEs_of h es)
theorem allD_eq {f : Expr → E} : ∀ vs : List Expr, allD (vs.map fun e => (den cf (f e)).v) = denD cf (cEs f vs)
  | [] => rfl
  | e :: es => by
    show (fun r => upM (den cf (f e)).v r >>= fun x => allD (es.map fun e => (den cf (f e)).v) r >>= fun xs => pure (x :: xs)) = _
    rw [allD_eq es]
    rfl
theorem e_dct0 {pos : Pos} : PE X (.Dict [] [] pos) (tR X.K W fun r => do
    let xs ← (pure [] : M (List D))
    chk (xs.length = ([] : List Key).length ∧ ([] : List Key).length ≤ 15 ∧ ([] : List Key).Nodup)
    return .d (.ref (← newT (([] : List Key).zip xs)))) :=
  pe_dnewK.imp fun σ H Q ⟨r, m, g, hs, rl, po⟩ p hp => by
    have po' : PoR X.K W σ H g H ((chk (([] : List D).length = ([] : List Key).length ∧ ([] : List Key).length ≤ 15 ∧ ([] : List Key).Nodup) >>= fun _ => (do return .d (.ref (← newT [])) : M R)) m) Q := po
    obtain ⟨_, po'⟩ := chk_ok po'
    have po2 : PoR X.K W σ H g H (.ok (.d (.ref m.length)) (m ++ [.dct []])) Q := po'
    have ex : Ext g H g (upd H p (.dK [])) := Ext.new hp
    refine po2 (g ++ [p]) _ (.ref p) (ex.named hp) ((rl.new hp).add (c0 := .dct []) ⟨[], upd_same, .nil⟩ (rl.notIn hp)) (.ref ?_)
    rw [← rl.len, List.getElem?_append_right (Nat.le_refl _)]
    simp
theorem dct_ok2 {f : Expr → E} {ks : List (Option Expr)} {js : List Key} {vs : List Expr} {pos : Pos} (h : ∀ a, Both X W cf a (f a)) (hl : ks.length = vs.length) (h15 : ks.length ≤ 15) (hk : cKeys ks = some js) : Both X W cf (.Dict ks vs pos) (.dct js (cEs f vs)) := by
  refine Both.of (x := .dct js (cEs f vs)) (f := fun r => do
    let xs ← denD cf (cEs f vs) r
    chk (xs.length = js.length ∧ js.length ≤ 15 ∧ js.Nodup)
    return .d (.ref (← newT (js.zip xs)))) rfl rfl ?_
  cases ks with
  | nil =>
    cases vs with
    | nil =>
      cases hk
      exact e_dct0
    | cons _ _ => simp at hl
  | cons a as =>
    have := e_dct (X := X) (W := W) (pos := pos) (cKeys_ok (X := X) hk) (valEs_of h vs) hl (by simp) h15
    rw [allD_eq] at this
    exact this
/-- targets -/
theorem names_pg (c : COk X W C cf k) : ∀ {es : List Expr} {is : List Nat}, namesOf C es = some is → PGs X es (gNames is) ∧ es.length = is.length ∧ ∀ e ∈ es, NotStar e
  | [], is, h => by
    cases h
    exact ⟨pgs_nil, rfl, fun e he => by simp at he⟩
  | e :: es, is, h => by
    unfold namesOf at h
    cases q1 : nameOf C e with
    | none => rw [q1] at h; cases h
    | some i =>
      cases q2 : namesOf C es with
      | none => rw [q1, q2] at h; cases h
      | some js =>
        rw [q1, q2] at h
        cases h
        obtain ⟨h1, h2, h3⟩ := names_pg c q2
        cases e with
        | Name x p =>
          obtain ⟨s1, s2, s3⟩ := c.slot (show C.slot x = some i from q1)
          refine ⟨pgs_cons (pg_name c.nd s1 s2 s3) h1 rfl, by simp [h2], fun y hy => ?_⟩
          rcases List.mem_cons.mp hy with z | z
          · rw [z]; trivial
          · exact h3 y z
        | _ => cases q1
theorem each_len {env : PySem.Env} : ∀ {es : List Expr}, (∀ e ∈ es, NotStar e) → (assignEach es env).length = es.length ∧ (assignEach es env).findIdx? (·.1) = none
  | [], _ => ⟨rfl, rfl⟩
  | e :: es, h => by
    obtain ⟨h1, h2⟩ := each_len (env := env) (es := es) fun x hx => h x (List.mem_cons_of_mem _ hx)
    have st : assignEach (e :: es) env = (false, assign e env) :: assignEach es env := by
      have := h e List.mem_cons_self
      cases e <;> first | rfl | exact this.elim
    rw [st]
    refine ⟨by rw [List.length_cons, List.length_cons, h1], ?_⟩
    rw [List.findIdx?_cons, h2]
    rfl
/-- a target's reading, whatever the block -/
def tgOf : T → (K : Fg) → TG
  | .name i, _ => gName i
  | .tup is, K => gTup K is.length (gNames is)
theorem tgOf_ok {K : Fg} : ∀ t : T, TgOk K t (tgOf t K)
  | .name i => tg_name i
  | .tup is => tg_tup is
theorem target_ok (c : COk X W C cf k) (hh : C.hot = false) {e : Expr} {t : T} (h : cT C e = some t) : PG X e (tgOf t X.K) := by
  unfold cT at h
  split at h
  · rename_i x p
    cases q : C.slot x with
    | none => rw [q] at h; cases h
    | some i =>
      rw [q] at h
      cases h
      obtain ⟨s1, s2, s3⟩ := c.slot q
      exact pg_name c.nd s1 s2 s3
  · rename_i es kk p
    cases q : namesOf C es with
    | none => rw [q] at h; cases h
    | some is =>
      rw [q] at h
      cases h
      obtain ⟨h1, h2, h3⟩ := names_pg c q
      obtain ⟨l1, l2⟩ := each_len (env := X.env) h3
      exact pg_tup (c.calm hh) h1 (by rw [l1, h2]) l2
  · cases h
theorem isTup_ok {e : Expr} (h : isTup e = true) : ∃ es kk p, e = .Tuple es kk p := by
  unfold isTup at h
  split at h
  · exact ⟨_, _, _, rfl⟩
  · cases h
theorem rev_ok (c : COk X W C cf k) {f : Expr → E} {tg a : Expr} {p pos : Pos} (h : ∀ a, Both X W cf a (f a)) (hg : Gl X "reversed") (hm : X.mg "reversed" = none) (ns : NotStar a) : PI X tg (.Call (.Name "reversed" p) [a] [] pos) (tI X.K W (denI cf (cRev C f a))) := by
  unfold cRev
  split
  · rename_i y p2 b q2
    split
    · rename_i q
      simp only [Bool.and_eq_true, decide_eq_true_eq] at q
      obtain ⟨⟨⟨q1, q2⟩, q3⟩, q4⟩ := q
      subst q1
      exact i_rvr hg hm (c.gl q2) (c.fr q3) (star_iff q4) (h b).v
    · exact i_rvl hg hm ns (h _).v
  · exact i_rvl hg hm ns (h _).v
/-- what is walked -/
theorem iter_ok (c : COk X W C cf k) {f : Expr → E} {tg iter : Expr} (h : ∀ a, Both X W cf a (f a)) : PI X tg iter (tI X.K W (denI cf (cI C f tg iter))) := by
  have seq : ∀ e, PI X tg e (tI X.K W (denI cf (.seq (f e)))) := fun e => i_seq (h e).v
  have fr : ∀ {x : Str}, C.isFree x = true → X.mg x = none := fun {x} z => c.fr z
  unfold cI
  split
  · rename_i x p a p2
    split
    · rename_i q
      simp only [Bool.and_eq_true, decide_eq_true_eq] at q
      obtain ⟨⟨⟨q1, q2⟩, q3⟩, q4⟩ := q
      subst q1
      exact i_range1 (c.gl q2) (fr q3) (star_iff q4) (h a).v
    · split
      · rename_i q
        simp only [Bool.and_eq_true, decide_eq_true_eq] at q
        obtain ⟨⟨⟨⟨q1, q2⟩, q3⟩, q4⟩, q5⟩ := q
        subst q1
        obtain ⟨es, kk, tp, rfl⟩ := isTup_ok q5
        exact i_enum (c.gl q2) (fr q3) (star_iff q4) (h a).v
      · split
        · rename_i q
          simp only [Bool.and_eq_true, decide_eq_true_eq] at q
          obtain ⟨⟨⟨q1, q2⟩, q3⟩, q4⟩ := q
          subst q1
          exact rev_ok c h (c.gl q2) (fr q3) (star_iff q4)
        · exact seq _
  · rename_i x p a b p2
    split
    · rename_i q
      simp only [Bool.and_eq_true, decide_eq_true_eq] at q
      obtain ⟨⟨⟨⟨q1, q2⟩, q3⟩, q4⟩, q5⟩ := q
      subst q1
      exact i_range2 (c.gl q2) (fr q3) (star_iff q4) (star_iff q5) (h a).v (h b).v
    · split
      · rename_i q
        simp only [Bool.and_eq_true, decide_eq_true_eq] at q
        obtain ⟨⟨⟨⟨⟨q1, q2⟩, q3⟩, q4⟩, q5⟩, q6⟩ := q
        subst q1
        obtain ⟨es, kk, tp, rfl⟩ := isTup_ok q6
        exact i_zip (c.gl q2) (fr q3) (star_iff q4) (star_iff q5) (h a).v (h b).v
      · exact seq _
  · exact seq _
theorem notSet_ok {iter : Expr} {env : PySem.Env} (h : isSet iter = false) : ∀ x, foldedSetIterable iter env x = pure x := by
  intro x
  cases iter <;> first | rfl | (cases h)
/-- the context of a comprehension's block -/
theorem COk.blk (c : COk X W C cf k) (hh : C.hot = false) {scope : Scope} (s : Shared) (H : Hp) (Cc : Addr) (cl : List (Str × Addr)) (fp : List Addr) : COk (X.blk s H scope (compEnvC scope cl Cc X.env) fp) W0 (C.comp scope) cf k :=
  { N := c.N, sc := by show relS scope X.env.scope = relS scope C.sc; rw [c.sc], calm := c.calm, gn := fun z => ⟨rfl, (c.gn z).2⟩, hw := fun _ _ _ _ _ z => z, k2 := c.k2, gx := (fun q z => nomatch z), xg := fun x z => by
      have := (c.gn hh).2
      rw [show (C.comp scope).exn = C.exn from rfl, this] at z
      cases z
    xc := c.xc, cl := c.cl, exc := fun x fs h => let R := c.exc x fs h; ⟨R.ex, R.few, R.nd, R.ne⟩, hfun := fun x ps h => let ⟨f, F, e⟩ := c.hfun x ps h; ⟨f, ⟨F.ex⟩, e⟩, nd := c.nd, un := c.un, gu := c.gu, tk := takes0, room := c.room, roomH := c.roomH, fn := fun x h _ => h, func := fun x ps dfl h => by
      obtain ⟨f, F, e⟩ := c.func x ps dfl h
      exact ⟨f, ⟨F.ex⟩, e⟩
    const := c.const, free := c.free }
/-- what a comprehension's parts give -/
structure CompOk (X : Cx) (W : WG) (cf : CF) (scope : Scope) (own : List (Str × Nat)) (tg iter : Expr) (ifs : List Expr) (elt : Expr) (t : T) (it : I) (xc xe : E) : Prop where
  hi : PI X tg iter (tI X.K W (denI cf it))
  ok : BlkOk X.N X.env.scope scope own
  sub : ∀ i ∈ t.slots, i ∈ own.map (·.2)
  hg : ∀ (s : Shared) (H : Hp) (Cc : Addr) (cl : List (Str × Addr)) (fp : List Addr), PG (X.blk s H scope (compEnvC scope cl Cc X.env) fp) tg (tgOf t X.K)
  ht : ∀ (s : Shared) (H : Hp) (Cc : Addr) (cl : List (Str × Addr)) (fp : List Addr), PTs (X.blk s H scope (compEnvC scope cl Cc X.env) fp) ifs (tT X.K W0 (den cf xc).t)
  he : ∀ (s : Shared) (H : Hp) (Cc : Addr) (cl : List (Str × Addr)) (fp : List Addr), PE (X.blk s H scope (compEnvC scope cl Cc X.env) fp) elt (tD X.K W0 (upM (den cf xe).v))
  hs : ∀ x, foldedSetIterable iter X.env x = pure x
theorem den_comp {own : List Nat} {t : T} {it : I} {xc xe : E} : den cf (.comp own t it xc xe) = Dn.of fun r => do
    let p ← denI cf it r
    let ys ← compL (chkAll p.2) (fun x => noErr (compT (den cf xc).t (upM (den cf xe).v) t own r x)) p.1
    chk (ys.length ≤ sizeLine)
    return .tl ys := rfl
theorem CompOk.pe (c : COk X W C cf k) (hh : C.hot = false) {scope : Scope} {own : List (Str × Nat)} {tg iter elt : Expr} {ifs : List Expr} {t : T} {it : I} {xc xe : E} {pos : Pos} (h : CompOk X W cf scope own tg iter ifs elt t it xc xe) : Both X W cf (.ListComp elt [⟨tg, iter, ifs, 0⟩] scope pos) (.comp (own.map (·.2)) t it xc xe) := by
  have q := e_comp (pos := pos) (c.gn hh).1 (c.calm hh) c.nd h.hi h.ok (tgOf_ok t) h.sub h.hg h.ht h.he h.hs
  exact Both.of rfl den_comp q
theorem oneGen_ok {gens : List Comprehension} {tg iter : Expr} {ifs : List Expr} (h : oneGen gens = some (tg, iter, ifs)) : gens = [⟨tg, iter, ifs, 0⟩] := by
  unfold oneGen at h
  split at h
  · split at h
    · rename_i q
      cases h
      rw [q]
    · cases h
  · cases h
theorem cLC_ok {n : Nat} (c : COk X W C cf k) (hh : C.hot = false) {elt tg iter : Expr} {ifs : List Expr} {scope : Scope} (ih : ∀ {X : Cx} {W : WG} {C : CC}, COk X W C cf k → ∀ e, Both X W cf e (cE n C e)) :
    cLC (cE n) C elt scope tg iter ifs = .never ∨ ∃ t it xc xe, cLC (cE n) C elt scope tg iter ifs = .comp ((ownOf C.N scope).map (·.2)) t it xc xe ∧ CompOk X W cf scope (ownOf C.N scope) tg iter ifs elt t it xc xe := by
  unfold cLC
  split
  · exact .inl rfl
  · rename_i q
    simp only [Bool.or_eq_true, not_or, Bool.not_eq_true, Bool.not_eq_false'] at q
    obtain ⟨q1, q2⟩ := q
    split
    · rename_i t xc q3 q5
      split
      · rename_i q4
        simp only [List.all_eq_true, List.contains_iff_mem] at q4
        refine .inr ⟨t, _, xc, _, rfl, iter_ok c (ih c), by rw [c.N, c.sc]; exact blkOk_by q1, q4, fun s H Cc cl fp => target_ok (c.blk hh s H Cc cl fp) hh q3, fun s H Cc cl fp => ?_, fun s H Cc cl fp => e_up (ih (c.blk hh s H Cc cl fp) elt).v, notSet_ok q2⟩
        unfold cIfs at q5
        split at q5
        · cases q5
          refine ⟨fun pins s2 σ H2 Q I ⟨r, m, g, hs, rl, po⟩ => pts_nil.run pins s2 σ H2 Q I ?_⟩
          exact Po.ret (rep := same) (show Po X.K W0 σ same H2 g H2 (.ok true m) Q from po) rl rfl
        · cases q5
          exact pts_one (ih (c.blk hh s H Cc cl fp) _).t
        · cases q5
      · exact .inl rfl
    · exact .inl rfl
/-- the caught exception's name -/
theorem COk.exAt (c : COk X W C cf k) {x : Str} {i : Nat} (h : C.exAt x = some i) : ∃ q, W.g = some q ∧ i = q.i ∧ HotAt X q ∧ q.cls ∈ C.all ∧ X.N[q.i]? = some x ∧ Vis X.env.scope x ∧ (x == ("__debug__" : Str)) = false ∧ (x == ("__classdict__" : Str)) = false := by
  unfold CC.exAt at h
  split at h
  · rename_i z
    simp only [Bool.and_eq_true, decide_eq_true_eq, Bool.not_eq_true'] at z
    obtain ⟨⟨z1, z2⟩, z3⟩ := z
    obtain ⟨q, hq⟩ := c.xg x z1
    obtain ⟨y, y1, y2, y3, y4⟩ := c.gx q hq
    rw [z1] at y1
    cases y1
    obtain ⟨o1, o2, _⟩ := odd_no (x := x) (by rw [z3]; exact Bool.false_ne_true)
    refine ⟨q, hq, ?_, y3, y4, by rw [c.N]; exact y2, c.vis z2, o1, o2⟩
    have nd := c.nd
    rw [c.N] at nd
    have h1 := CC.at_ok h
    obtain ⟨l1, e1⟩ := List.getElem?_eq_some_iff.mp h1
    obtain ⟨l2, e2⟩ := List.getElem?_eq_some_iff.mp y2
    exact (List.getElem_inj nd).mp (e1.trans e2.symm)
  · cases h
theorem clsB_ok (c : COk X W C cf k) {t : Expr} (h : clsB C t = true) : ∃ v cv, ClsE X t v cv ∧ NotStar t ∧ (∀ z ∈ C.all, PySem.W.kitOne X.K (.ref (He.ga X.K z)) cv = some (decide (z ∈ clsU C t))) := by
  unfold clsB at h
  split at h
  · rename_i y np
    simp only [Bool.and_eq_true, List.contains_iff_mem, Bool.not_eq_true'] at h
    obtain ⟨⟨h1, h2⟩, h3⟩ := h
    obtain ⟨o1, o2, o3⟩ := odd_no (x := y) (by rw [h3]; exact Bool.false_ne_true)
    obtain ⟨v, cv, hc, hk, _⟩ := c.cl y h2
    refine ⟨v, cv, ?_, trivial, hk⟩
    rcases hc with ⟨m1, a, rfl, rfl⟩ | ⟨m1, m2, z, rfl, rfl⟩
    · exact clsE_own (c.gl h1) m1 o1
    · exact ⟨pe_bltn (c.gl h1) m1 m2 rfl o3 o1, fun u h => h⟩
  · cases h
theorem kitAny_cls (c : COk X W C cf k) : ∀ {es : List Expr}, es.all (clsB C) = true → ∃ vs cvs, ClsEs X es vs cvs ∧ (∀ e ∈ es, NotStar e) ∧ ∀ z ∈ C.all, PySem.W.kitAny X.K (.ref (He.ga X.K z)) cvs = some (decide (z ∈ es.flatMap (clsU C)))
  | [], _ => ⟨[], [], .nil, (fun _ h => nomatch h), fun z _ => rfl⟩
  | e :: es, h => by
    rw [List.all_cons, Bool.and_eq_true] at h
    obtain ⟨v, cv, h1, h2, h3⟩ := clsB_ok c h.1
    obtain ⟨vs, cvs, g1, g2, g3⟩ := kitAny_cls c h.2
    refine ⟨v :: vs, cv :: cvs, .cons h1 g1, fun y hy => ?_, fun z hz => ?_⟩
    · rcases List.mem_cons.mp hy with e | e
      · rw [e]; exact h2
      · exact g2 y e
    · have k1 := h3 z hz
      have k2 := g3 z hz
      rw [List.flatMap_cons]
      by_cases m1 : z ∈ clsU C e
      · rw [decide_eq_true m1] at k1
        rw [decide_eq_true (List.mem_append_left _ m1)]
        unfold PySem.W.kitAny
        rw [k1]
      · rw [decide_eq_false m1] at k1
        unfold PySem.W.kitAny
        rw [k1]
        show PySem.W.kitAny X.K _ cvs = _
        rw [k2]
        congr 1
        simp [m1]
theorem ise_ok (c : COk X W C cf k) {p pos np : Pos} {x : Str} {i : Nat} {r : List Expr} (hg : C.glob "isinstance" = true) (hf : C.isFree "isinstance" = true) (e : C.exAt x = some i) : Both X W cf (.Call (.Name "isinstance" p) (.Name x np :: r) [] pos) (cIse C i r) := by
  obtain ⟨q, h1, h2, h3, h4, h5, h6, h7, h8⟩ := c.exAt e
  subst h2
  obtain ⟨xc, _⟩ := c.xc q.cls h4
  unfold cIse
  split
  · rename_i es kk p2
    split
    · rename_i hb
      simp only [Bool.and_eq_true, decide_eq_true_eq] at hb
      obtain ⟨vs, cvs, g1, g2, g3⟩ := kitAny_cls c hb.1
      exact Both.of (x := .ise q.i C.all (es.flatMap (clsU C))) rfl rfl (e_iseT (c.gl hg) (c.fr hf) h3 h1 xc h5 h6 h7 h8 g1 g2 (by have := sizeLine_eq; omega) fun hz => g3 _ hz)
    · exact Both.no
  · rename_i t _
    split
    · rename_i hb
      obtain ⟨v, cv, g1, g2, g3⟩ := clsB_ok c hb
      exact Both.of (x := .ise q.i C.all (clsU C t)) rfl rfl (e_ise1 (c.gl hg) (c.fr hf) h3 h1 xc h5 h6 h7 h8 g1 g2 fun hz => g3 _ hz)
    · exact Both.no
  · exact Both.no
theorem hot_ok (c : COk X W C cf k) (hh : C.hot = true) {f : Expr → E} {fn : Expr} {as : List Expr} {kws : List Keyword} {cpos : Pos} (ih : ∀ a, Both X W cf a (f a)) (ha : (∀ e ∈ as, NotStar e) → PA X as (tDs X.K W (denD cf (cEs f as))) ∧ PA X as (tRs X.K W (denR cf (cEs f as))))
    (har : ∀ as : List Expr, (∀ e ∈ as, NotStar e) → PA X as (tDs X.K W (denD cf (cEs f as))) ∧ PA X as (tRs X.K W (denR cf (cEs f as)))) (hz : as = [] → cEs f as = .nil) : Both X W cf (.Call fn as kws cpos) (cCallH C f as cpos kws fn) := by
  unfold cCallH
  split
  · rename_i x p
    have isi : ∀ {q : (x = "isinstance" && C.glob x && C.isFree x) = true}, Both X W cf (.Call (.Name x p) as [] cpos) (cIsi C f as) := fun {q} => by
      simp only [Bool.and_eq_true, decide_eq_true_eq] at q
      obtain ⟨⟨q1, q2⟩, q3⟩ := q
      subst q1
      exact isi_ok c q2 q3 ih
    split
    · rename_i y np r
      cases e : C.exAt y with
      | none =>
        simp only
        split
        · exact isi (q := by assumption)
        · exact Both.no
      | some i =>
        simp only
        split
        · rename_i q
          simp only [Bool.and_eq_true, decide_eq_true_eq] at q
          obtain ⟨⟨q1, q2⟩, q3⟩ := q
          subst q1
          exact ise_ok c q2 q3 e
        · split
          · rename_i ps ht
            split
            · rename_i hb
              simp only [Bool.and_eq_true, Bool.not_eq_true'] at hb
              obtain ⟨⟨hb1, hb2⟩, hb3⟩ := hb
              obtain ⟨o1, o2, o3⟩ := odd_no (x := x) (by rw [hb2]; exact Bool.false_ne_true)
              have ns := stars_iff hb3
              obtain ⟨q, h1, h2, h3, h4, h5, h6, h7, h8⟩ := c.exAt e
              subst h2
              obtain ⟨F, hF, ef⟩ := c.hfun x ps ht
              refine Both.of (x := .hcall x q.i (cEs f r)) (f := fun r' => do
                let z ← excV r' q.i
                let xs ← denD cf (cEs f r) r'
                return .d (← cf x (.tup [.str z.1, .ref z.2] :: xs))) rfl rfl ?_
              rw [ef]
              refine (e_hcall (c.hw hh) c.roomH c.gu (c.gl hb1) hF o1 h3 h1 h4 h5 h6 h7 h8 ns (har r ns).1).imp fun σ H Q ⟨r', m, g, hs, rl, po⟩ => ⟨r', m, g, hs, rl, ?_⟩
              have ee : (fun r' => (do
                let z ← excV r' q.i
                let xs ← denD cf (cEs f r) r'
                return .d (← (do
                  chk (xs.length + 1 = ps.length)
                  F (.tup [.str z.1, .ref z.2] :: xs) : M D)) : M R)) = fun r' => (do
                let z ← excV r' q.i
                let xs ← denD cf (cEs f r) r'
                return .d (← (do
                  chk ((D.tup [.str z.1, .ref z.2] :: xs).length ≤ ps.length ∧ ps.length ≤ (D.tup [.str z.1, .ref z.2] :: xs).length)
                  F (.tup [.str z.1, .ref z.2] :: xs) : M D)) : M R) := by
                have : ∀ n j : Nat, chk (n + 1 = j) = chk (n + 1 ≤ j ∧ j ≤ n + 1) := fun n j => funext fun m => by
                  unfold chk
                  by_cases h : n + 1 = j
                  · rw [if_pos h, if_pos (by omega)]
                  · rw [if_neg h, if_neg (by omega)]
                simp only [this, List.length_cons]
              rw [ee]
              exact po
            · exact Both.no
          · exact Both.no
    · split
      · exact isi (q := by assumption)
      · exact Both.no
  · exact meth_ok c (ih _) ha hz
  · exact Both.no
theorem pw_no {e : Expr} {t : TT} (h : ∀ σ H Q, ¬ t σ H Q) : PW X e t := ⟨fun _ _ _ σ H Q _ q => (h σ H Q q).elim⟩
/-- THE THEOREM for expressions -/
theorem e_ok : ∀ (n : Nat) {X : Cx} {W : WG} {C : CC}, COk X W C cf k → ∀ e, Both X W cf e (cE n C e) ∧ (∀ o vs pos, e = .BoolOp o vs pos → PW X e (tT X.K W (den cf (cE n C e)).t)) := by
  intro n
  induction n with
  | zero => exact fun {X W C} c e => ⟨Both.no, fun _ _ _ _ => pw_no noT⟩
  | succ n ih =>
    intro X W C c e
    have ihB : ∀ {X : Cx} {W : WG} {C : CC}, COk X W C cf k → ∀ e, Both X W cf e (cE n C e) := fun c e => (ih c e).1
    have ihe := ihB c
    have args : ∀ as : List Expr, (∀ e ∈ as, NotStar e) → PA X as (tDs X.K W (denD cf (cEs (cE n C) as))) ∧ PA X as (tRs X.K W (denR cf (cEs (cE n C) as))) := fun as ns => es_ok (n := n) ns fun e _ => ihe e
    have nope : (∀ o vs pos, e ≠ .BoolOp o vs pos) → Both X W cf e (cE (n + 1) C e) → Both X W cf e (cE (n + 1) C e) ∧ (∀ o vs pos, e = .BoolOp o vs pos → PW X e (tT X.K W (den cf (cE (n + 1) C e)).t)) := fun h b => ⟨b, fun o vs pos q => (h o vs pos q).elim⟩
    cases e with
    | Constant v j pos => exact nope (fun _ _ _ z => nomatch z) const_ok
    | Name x pos => exact nope (fun _ _ _ z => nomatch z) (name_ok c)
    | BinOp a o b pos => exact nope (fun _ _ _ z => nomatch z) (Both.of (x := .bin o (cE n C a) (cE n C b)) rfl rfl (e_bin (ihe a).v (ihe b).v))
    | UnaryOp o a pos =>
      refine nope (fun _ _ _ z => nomatch z) ?_
      cases o with
      | USub => exact Both.of (x := .neg (cE n C a)) rfl rfl (e_neg (ihe a).v)
      | Not => exact ⟨e_not (ihe a).v, t_not (ihe a).t⟩
      | Invert => exact Both.no
      | UAdd => exact Both.no
    | Compare a ops bs pos =>
      refine nope (fun _ _ _ z => nomatch z) ?_
      show Both X W cf _ (cCompare (cE n C) a ops bs)
      unfold cCompare
      split
      · rename_i o b
        split
        · exact Both.no
        · rename_i q
          have q : behindInMarks o b = false := by simpa using q
          exact ⟨e_cmp c.un q (ihe a).v (ihe b).v, t_cmp c.un q (ihe a).v (ihe b).v⟩
      · rename_i o p b d
        split
        · exact Both.no
        · rename_i q
          have q : lastMarks [o, p] [b, d] = false := by simpa using q
          exact ⟨e_cmp2 c.un q (ihe a).v (ihe b).v (ihe d).v, t_cmp2 c.un q (ihe a).v (ihe b).v (ihe d).v⟩
      · exact Both.no
    | BoolOp o vs pos =>
      have main : Both X W cf (.BoolOp o vs pos) (cE (n + 1) C (.BoolOp o vs pos)) ∧ PW X (.BoolOp o vs pos) (tT X.K W (den cf (cE (n + 1) C (.BoolOp o vs pos))).t) := by
        cases vs with
        | nil => exact ⟨Both.no, pw_no noT⟩
        | cons a r =>
          cases r with
          | nil =>
            have w : PW X (.BoolOp o [a] pos) (tT X.K W (den cf (cE n C a)).t) := by
              cases o with
              | And => exact pw_and1 (ihe a).t
              | Or => exact pw_or1 (ihe a).t
            exact ⟨⟨pe_one (ihe a).v, w.pt⟩, w⟩
          | cons b r =>
            cases o with
            | And =>
              obtain ⟨h1, h2⟩ := ih c (.BoolOp .And (b :: r) pos)
              have w := w_and (ihe a).t (h2 _ _ _ rfl)
              exact ⟨⟨e_and (ihe a).v h1.v, w.pt⟩, w⟩
            | Or =>
              obtain ⟨h1, h2⟩ := ih c (.BoolOp .Or (b :: r) pos)
              have w := w_or (ihe a).t (h2 _ _ _ rfl)
              exact ⟨⟨e_or (ihe a).v h1.v, w.pt⟩, w⟩
      exact ⟨main.1, fun _ _ _ _ => main.2⟩
    | IfExp t a b pos => exact nope (fun _ _ _ z => nomatch z) ⟨e_ite (ihe t).t (ihe a).v (ihe b).v, t_ite (ihe t).t (ihe a).t (ihe b).t⟩
    | Tuple es j pos =>
      refine nope (fun _ _ _ z => nomatch z) ?_
      show Both X W cf _ (if es.all notStarB then .tup (cEs (cE n C) es) else .never)
      split
      · rename_i q
        exact Both.of (x := .tup (cEs (cE n C) es)) rfl rfl (e_tup (args es (stars_iff q)).1)
      · exact Both.no
    | List es pos =>
      refine nope (fun _ _ _ z => nomatch z) ?_
      show Both X W cf _ (if es.all notStarB then .lst (cEs (cE n C) es) else .never)
      split
      · rename_i q
        exact Both.of (x := .lst (cEs (cE n C) es)) rfl rfl (e_lst (args es (stars_iff q)).1)
      · exact Both.no
    | Subscript a s pos =>
      refine nope (fun _ _ _ z => nomatch z) ?_
      have part : ∀ o : Option Expr, PartOk X W o o.isSome (den cf (cOpt (cE n C) o)).v := fun o => by
        cases o with
        | none => exact part_none
        | some e => exact part_some (ihe e).v
      have ix : NotSlice s → Both X W cf (.Subscript a s pos) (.ix (cE n C a) (cE n C s)) := fun h => Both.of (x := .ix (cE n C a) (cE n C s)) rfl rfl (e_ix c.un h (ihe a).v (ihe s).v)
      cases s with
      | Slice lo hi st p2 =>
        cases st with
        | none =>
          have z : cE (n + 1) C (.Subscript a (.Slice lo hi none p2) pos) = .sl (cE n C a) lo.isSome hi.isSome (cOpt (cE n C) lo) (cOpt (cE n C) hi) := by
            show cSub (cE n C) a (.Slice lo hi none p2) = _
            cases lo <;> cases hi <;> rfl
          rw [z]
          exact Both.of (x := .sl (cE n C a) lo.isSome hi.isSome (cOpt (cE n C) lo) (cOpt (cE n C) hi)) rfl rfl (e_sl (ihe a).v (part lo) (part hi))
        | some st =>
          show Both X W cf _ (cSub (cE n C) a (.Slice lo hi (some st) p2))
          unfold cSub
          split
          · rename_i q
            cases q
            exact Both.of (x := .rev (cE n C a)) rfl rfl (e_rev (ihe a).v)
          · rename_i q
            cases q
          · exact Both.no
          · rename_i q
            exact absurd rfl (q _ _ _ _)
      | _ => exact ix trivial
    | Call f as kws cpos =>
      refine nope (fun _ _ _ z => nomatch z) ?_
      show Both X W cf _ (if C.hot then cCallH C (cE n C) as cpos kws f else cCallE C (cE n C) as cpos kws f)
      have hz : as = [] → cEs (cE n C) as = .nil := fun z => by rw [z]; rfl
      cases hh : C.hot with
      | true =>
        rw [if_pos rfl]
        exact hot_ok c hh ihe (args as) args hz
      | false =>
        rw [if_neg Bool.false_ne_true]
        cases kws with
        | cons kw kws =>
          cases kws with
          | cons _ _ =>
            obtain ⟨nm, d, kp⟩ := kw
            exact Both.no
          | nil =>
            obtain ⟨nm, d, kp⟩ := kw
            cases f with
            | Name x p => exact kw_ok c hh ihe
            | _ => exact Both.no
        | nil =>
          cases f with
          | Name x p =>
            show Both X W cf _ (if x = "isinstance" && C.glob x && C.isFree x then cIsi C (cE n C) as else match cSpec C (cE n C) x as with
              | some e => e
              | none => cCall C x as (cEs (cE n C) as))
            split
            · rename_i q
              simp only [Bool.and_eq_true, decide_eq_true_eq] at q
              obtain ⟨⟨q1, q2⟩, q3⟩ := q
              subst q1
              exact isi_ok c q2 q3 ihe
            · split
              · rename_i q
                exact spec_ok c hh ihe q
              · exact call_ok c hh (args as) hz
          | Attribute o m apos => exact meth_ok c (ihe o) (args as) hz
          | _ => exact Both.no
    | Attribute o f pos =>
      refine nope (fun _ _ _ z => nomatch z) ?_
      show Both X W cf _ (cAttr C f o)
      unfold cAttr
      split
      · rename_i x np
        split
        · rename_i hb
          simp only [Bool.and_eq_true, List.contains_iff_mem] at hb
          cases e : C.exAt x with
          | none => exact Both.no
          | some i =>
            obtain ⟨q, h1, h2, h3, h4, h5, h6, h7, h8⟩ := c.exAt e
            subst h2
            obtain ⟨xc, xn⟩ := c.xc q.cls h4
            exact Both.of (x := .xf q.i f) (f := fun r => do
              let z ← excV r q.i
              let fs ← getX z.2
              return .d (← optM (fs.lookup f))) rfl rfl (e_xf h3 h1 xc (xn f hb.2) h5 h6 h7 h8)
        · exact Both.no
      · exact Both.no
    | Dict ks vs pos =>
      refine nope (fun _ _ _ z => nomatch z) ?_
      show Both X W cf _ (cDct (cE n C) ks vs)
      unfold cDct
      split
      · rename_i q
        simp only [Bool.and_eq_true, decide_eq_true_eq] at q
        split
        · rename_i js q2
          exact dct_ok2 ihe q.1 q.2 q2
        · exact Both.no
      · exact Both.no
    | ListComp elt gens scope pos =>
      refine nope (fun _ _ _ z => nomatch z) ?_
      show Both X W cf _ (if C.hot then .never else match oneGen gens with
        | some (tg, iter, ifs) => cLC (cE n) C elt scope tg iter ifs
        | none => .never)
      cases hh : C.hot with
      | true => rw [if_pos rfl]; exact Both.no
      | false =>
      rw [if_neg Bool.false_ne_true]
      cases q : oneGen gens with
      | none => exact Both.no
      | some p =>
        obtain ⟨tg, iter, ifs⟩ := p
        have := oneGen_ok q
        subst this
        simp only
        rcases cLC_ok c hh (elt := elt) (tg := tg) (iter := iter) (ifs := ifs) (scope := scope) ihB with h | ⟨t, it, xc, xe, h, hc⟩
        · rw [h]; exact Both.no
        · rw [h]; exact CompOk.pe c hh hc
    | _ => exact nope (fun _ _ _ z => nomatch z) Both.no
end
end Pf

/-! Pf13: statements, defs. -/
namespace Pf
open PySem L2
/-! ### the translation -/
def isComp (e : Expr) : Bool := match e with
  | .ListComp _ _ _ _ | .SetComp _ _ _ _ | .DictComp _ _ _ _ _ => true
  | _ => false
def isLC (e : Expr) : Bool := match e with
  | .ListComp _ _ _ _ => true
  | _ => false
def isSlice (e : Expr) : Bool := match e with
  | .Slice _ _ _ _ => true
  | _ => false
def parOk (C : CC) (x y : Str) (px py : Pos) (e1 e2 : Expr) : Bool :=
  decide (x ≠ y) && decide (C.kind x = some .local) && decide (C.kind y = some .local) && decide (px.line = py.line) && !([e1, e2].all (foldedForSure 8)) && !([e1, e2].all (constantsAlone 8)) && notStarB e1 && notStarB e2
def parOk3 (C : CC) (x y z : Str) (px py pz : Pos) (e1 e2 e3 : Expr) : Bool :=
  decide (x ≠ y) && decide (x ≠ z) && decide (y ≠ z) && decide (C.kind x = some .local) && decide (C.kind y = some .local) && decide (C.kind z = some .local) && decide (px.line = py.line) && decide (py.line = pz.line) && !([e1, e2, e3].all (foldedForSure 8)) && !([e1, e2, e3].all (constantsAlone 8)) && notStarB e1 && notStarB e2 && notStarB e3
/-- targets whose tuple is made and taken apart -/
def noSwapB (C : CC) (ts : List Expr) : Bool := !(ts.length == 2 || ts.length == 3) || ts.any fun t => match t with
  | .Name x _ => !decide (C.kind x = some .local)
  | _ => false
def cTupSet (C : CC) (f : Expr → E) (es : List Expr) (e : Expr) : S := match namesOf C es with
  | some is => if isTup e && !noSwapB C es then .never else .set (.tup is) (f e)
  | none => .never
def cAssign (C : CC) (f : Expr → E) (t e : Expr) : S := match t with
  | .Name x _ => (match C.slot x with
    | some i => if isComp e && !isLC e then .never else .set (.name i) (f e)
    | none => .never)
  | .Tuple [.Name x px, .Name y py] _ _ => (match e with
    | .Tuple [e1, e2] k2 pt2 => (match C.at_ x, C.at_ y with
      | some i, some j => if parOk C x y px py e1 e2 && i != j then .par i j (f e1) (f e2) else cTupSet C f [.Name x px, .Name y py] (.Tuple [e1, e2] k2 pt2)
      | _, _ => cTupSet C f [.Name x px, .Name y py] (.Tuple [e1, e2] k2 pt2))
    | _ => cTupSet C f [.Name x px, .Name y py] e)
  | .Tuple [.Name x px, .Name y py, .Name z pz] _ _ => (match e with
    | .Tuple [e1, e2, e3] k2 pt2 => (match C.at_ x, C.at_ y, C.at_ z with
      | some i, some j, some l => if parOk3 C x y z px py pz e1 e2 e3 && i != j && i != l && j != l then .par3 i j l (f e1) (f e2) (f e3) else cTupSet C f [.Name x px, .Name y py, .Name z pz] (.Tuple [e1, e2, e3] k2 pt2)
      | _, _, _ => cTupSet C f [.Name x px, .Name y py, .Name z pz] (.Tuple [e1, e2, e3] k2 pt2))
    | _ => cTupSet C f [.Name x px, .Name y py, .Name z pz] e)
  | .Tuple es _ _ => cTupSet C f es e
  | .Subscript o i _ => if isSlice i then .never else .setix (f o) (f i) (f e)
  | _ => .never
def cSs (f : Stmt → S) : List Stmt → S
  | [] => .skip
  | [s] => f s
  | s :: r => .seq (f s) (cSs f r)
def isStr (e : Expr) : Bool := match e with
  | .Constant (.str _) _ _ => true
  | _ => false
/-- what a clause takes -/
def cTest (C : CC) : Expr → Option (List Str)
  | .Name y p => if clsB C (.Name y p) then some (C.under y) else none
  | .Tuple [.Name y p, .Name z p2] _ _ => if clsB C (.Name y p) && clsB C (.Name z p2) then some (C.under y ++ C.under z) else none
  | _ => none
/-- a suite's statements -/
def cH : Nat → CC → Stmt → S
  | 0, _, _ => .never
  | n + 1, C, st => match st with
    | .Assign ts e _ => (match ts with
      | [.Name x _] => (match C.slot x with
        | some i => if isComp e || decide (C.exn = some x) then .never else .set (.name i) (cE n C e)
        | none => .never)
      | _ => .never)
    | .Return v _ => (match v with
      | some e => .ret (cE n C e)
      | none => .ret (.cst .non))
    | .If c a b _ => .ite (cE n C c) (cSs (cH n C) a) (cSs (cH n C) b)
    | .Pass _ => .skip
    | _ => .never
/-- the clauses -/
def cHs (n : Nat) (C : CC) : List ExceptHandler → Option Hs
  | [] => some .nil
  | .ExceptHandler (some t) nm (b :: suite) _ :: hds => (match cTest C t, cHs n C hds with
    | some cs, some h => (match nm with
      | none => some (.cons C.all cs none (cSs (cH n { C with hot := true, exn := none }) (b :: suite)) h)
      | some x => (match C.kind x, C.at_ x with
        | some .local, some i => some (.cons C.all cs (some i) (cSs (cH n { C with hot := true, exn := some x }) (b :: suite)) h)
        | _, _ => none))
    | _, _ => none)
  | _ => none
def cRaise (C : CC) (f : Expr → E) : Expr → S
  | .Call (.Name x _) (a :: args) [] _ => if !odd x && C.glob x && (a :: args).all notStarB then (match C.top x with
    | some (.exc fs) => .raise x fs (cEs f (a :: args))
    | _ => .never) else .never
  | _ => .never
def cS : Nat → CC → Stmt → S
  | 0, _, _ => .never
  | n + 1, C, st => match st with
    | .Assign ts e _ => (match ts with
      | [t] => cAssign C (cE n C) t e
      | _ => .never)
    | .Expr e _ => if isStr e then .skip else if isComp e then .never else .expr (cE n C e)
    | .Return v _ => (match v with
      | some e => .ret (cE n C e)
      | none => .ret (.cst .non))
    | .If c a b _ => .ite (cE n C c) (cSs (cS n C) a) (cSs (cS n C) b)
    | .For tg it body orelse _ => (match orelse, cT C tg with
      | [], some t => if isSet it then .never else .for_ t (cI C (cE n C) tg it) (cSs (cS n C) body)
      | _, _ => .never)
    | .While c body orelse _ => (match orelse with
      | [] => .whl (cE n C c) (cSs (cS n C) body)
      | _ => .never)
    | .Raise (some e) none _ => cRaise C (cE n C) e
    | .Try body hds [] [] _ => (match hds, cHs n C hds with
      | _ :: _, some h => .try_ (cSs (cS n C) body) h
      | _, _ => .never)
    | .Pass _ => .skip
    | .Break _ => .brk
    | .Continue _ => .cont
    | _ => .never
section
variable {X : Cx} {W : WG} {C : CC} {cf : CF} {k wf : Nat}
theorem ps_no {st : Stmt} : PS X st (tS X.K W (exS cf wf .never)) := ⟨fun _ _ _ _ _ _ ⟨_, _, _, _, _, po⟩ => (show False from po).elim⟩
theorem sw_other {e : Expr} {t : Option Expr} {l : Nat} {env : PySem.Env} (h : isComp e = false) : swapsWith e t l env = pure false := by
  cases e <;> first | rfl | (cases h)
theorem sw_sole {e t : Expr} {l : Nat} {env : PySem.Env} (h : ∀ x p, t ≠ .Name x p) : swapsWithSole [t] e l env = pure false := by
  show swapsWith e (some t) l env = pure false
  cases e <;> first | rfl | (cases t <;> first | rfl | exact absurd rfl (h _ _))
/-- what a def's body has besides -/
structure SOk (X : Cx) (W : WG) (C : CC) (cf : CF) (k : Nat) : Prop extends COk X W C cf k where
  kind : X.env.scope.kind = .function
  cold : C.hot = false
  hst : X.stack = X.env :: X.outer
  hfr : X.env.frame = some X.env.locals
  hp : PassesOwn (model X.prog X.w) X.A X.env X.xe
theorem block_fn {env : PySem.Env} (h : env.scope.kind = .function) : env.blockKind = .function := by
  unfold Env.blockKind
  rw [h]
  rfl
def starB (e : Expr) : Bool := match e with
  | .Starred .. => true
  | _ => false
theorem starB_no {e : Expr} (h : NotStar e) : starB e = false := by
  cases e <;> first | rfl | exact h.elim
theorem par_sw (c : SOk X W C cf k) {x y : Str} {px py pt pt2 : Pos} {e1 e2 : Expr} {kt k2 : Nat} (h : parOk C x y px py e1 e2 = true) :
    swappedStores [.Tuple [.Name x px, .Name y py] kt pt] (.Tuple [e1, e2] k2 pt2) X.env = pure (some [x, y]) ∧ X.env.scope.names.lookup x = some .local ∧ X.env.scope.names.lookup y = some .local ∧ NotStar e1 ∧ NotStar e2 := by
  unfold parOk at h
  simp only [Bool.and_eq_true, decide_eq_true_eq, Bool.not_eq_true'] at h
  obtain ⟨⟨⟨⟨⟨⟨⟨h1, h2⟩, h3⟩, h4⟩, h5⟩, h6⟩, h7⟩, h8⟩ := h
  have hx : X.env.scope.names.lookup x = some .local := by rw [c.sc]; exact h2
  have hy : X.env.scope.names.lookup y = some .local := by rw [c.sc]; exact h3
  have n1 := star_iff h7
  have n2 := star_iff h8
  refine ⟨?_, hx, hy, n1, n2⟩
  have z1 := starB_no n1
  have z2 := starB_no n2
  have kx : X.env.kindOf x = some .local := hx
  have ky : X.env.kindOf y = some .local := hy
  have hb := block_fn c.kind
  have hl : (py.line == px.line) = true := by simp [h4]
  have hne : (x == y) = false := by simpa using h1
  have hne2 : (y == x) = false := by simpa using fun e : y = x => h1 e.symm
  unfold swappedStores
  simp only [List.length_cons, List.length_nil, hb, kx, ky, Expr.pos, List.head?_cons, Option.map_some, Option.getD_some, List.filterMap_cons, List.filterMap_nil, hl, h5, h6]
  simp [hne, hne2, List.eraseDups_cons]
  intro h
  rcases h with h | h
  · rw [show starB e1 = true from h] at z1
    cases z1
  · rw [show starB e2 = true from h] at z2
    cases z2
theorem par3_sw (c : SOk X W C cf k) {x y z : Str} {px py pz pt pt2 : Pos} {e1 e2 e3 : Expr} {kt k2 : Nat} (h : parOk3 C x y z px py pz e1 e2 e3 = true) :
    swappedStores [.Tuple [.Name x px, .Name y py, .Name z pz] kt pt] (.Tuple [e1, e2, e3] k2 pt2) X.env = pure (some [x, y, z]) ∧ X.env.scope.names.lookup x = some .local ∧ X.env.scope.names.lookup y = some .local ∧ X.env.scope.names.lookup z = some .local ∧ NotStar e1 ∧ NotStar e2 ∧ NotStar e3 := by
  unfold parOk3 at h
  simp only [Bool.and_eq_true, decide_eq_true_eq, Bool.not_eq_true'] at h
  obtain ⟨⟨⟨⟨⟨⟨⟨⟨⟨⟨⟨⟨h1, h1b⟩, h1c⟩, h2⟩, h3⟩, h3b⟩, h4⟩, h4b⟩, h5⟩, h6⟩, h7⟩, h8⟩, h9⟩ := h
  have hx : X.env.scope.names.lookup x = some .local := by rw [c.sc]; exact h2
  have hy : X.env.scope.names.lookup y = some .local := by rw [c.sc]; exact h3
  have hz : X.env.scope.names.lookup z = some .local := by rw [c.sc]; exact h3b
  have n1 := star_iff h7
  have n2 := star_iff h8
  have n3 := star_iff h9
  refine ⟨?_, hx, hy, hz, n1, n2, n3⟩
  have z1 := starB_no n1
  have z2 := starB_no n2
  have z3 := starB_no n3
  have kx : X.env.kindOf x = some .local := hx
  have ky : X.env.kindOf y = some .local := hy
  have kz : X.env.kindOf z = some .local := hz
  have hb := block_fn c.kind
  have hl : (py.line == px.line) = true := by simp [h4]
  have hlz : (pz.line == px.line) = true := by simp [h4, h4b]
  have hne : (x == y) = false := by simpa using h1
  have hne2 : (y == x) = false := by simpa using fun e : y = x => h1 e.symm
  have hne3 : (x == z) = false := by simpa using h1b
  have hne4 : (z == x) = false := by simpa using fun e : z = x => h1b e.symm
  have hne5 : (y == z) = false := by simpa using h1c
  have hne6 : (z == y) = false := by simpa using fun e : z = y => h1c e.symm
  unfold swappedStores
  simp only [List.length_cons, List.length_nil, hb, kx, ky, kz, Expr.pos, List.head?_cons, Option.map_some, Option.getD_some, List.filterMap_cons, List.filterMap_nil, hl, hlz, h5, h6]
  simp [hne, hne2, hne3, hne4, hne5, hne6, List.eraseDups_cons]
  intro h
  rcases h with h | h | h
  · rw [show starB e1 = true from h] at z1
    cases z1
  · rw [show starB e2 = true from h] at z2
    cases z2
  · rw [show starB e3 = true from h] at z3
    cases z3
theorem ps_stuck {st : Stmt} {s : SM} (h : ∀ r m, s r m = .stuck) : PS X st (tS X.K W s) := ⟨fun _ _ _ _ _ _ ⟨r, m, _, _, _, po⟩ => by
  rw [h r m] at po
  exact po.elim⟩
theorem set_never {t : T} : ∀ r m, exS cf wf (.set t .never) r m = .stuck := fun r m => rfl
/-- a name takes a value -/
theorem set_ok (c : SOk X W C cf k) {x : Str} {px pos : Pos} {e : Expr} {i n : Nat} (hi : C.slot x = some i) (hc : ¬ (isComp e && !isLC e) = true) : PS X (.Assign [.Name x px] e pos) (tS X.K W (exS cf wf (.set (.name i) (cE n C e)))) := by
  obtain ⟨s1, s2, s3⟩ := c.slot hi
  have b := (e_ok n c.toCOk e).1
  have plain : swapsWith e (some (.Name x px)) pos.line X.env = pure false → PS X (.Assign [.Name x px] e pos) (tS X.K W (exS cf wf (.set (.name i) (cE n C e)))) := fun h => s_set (fun q z => by rw [(c.gn c.cold).1] at z; cases z) c.nd s1 s2 b.v h s3
  by_cases hl : isLC e = true
  · unfold isLC at hl
    split at hl
    · rename_i elt gens scope p
      have sw : ∀ v, (X.env.blockKind == .function && X.env.kindOf x == some .local && px.line == p.line && !(scope.names.any fun (n, k) => n == x && (k == .local || k == .cell))) = v → swapsWith (.ListComp elt gens scope p) (some (.Name x px)) pos.line X.env = pure v := fun v h => by
        unfold swapsWith
        simp only [Expr.pos]
        rw [h]
      cases hv : (X.env.blockKind == .function && X.env.kindOf x == some .local && px.line == p.line && !(scope.names.any fun (n, k) => n == x && (k == .local || k == .cell))) with
      | false => exact plain (sw false hv)
      | true =>
        have hk : X.env.scope.names.lookup x = some .local := by
          simp only [Bool.and_eq_true] at hv
          have z := hv.1.1.2
          exact eq_of_beq z
        cases n with
        | zero => exact ps_stuck set_never
        | succ n =>
          have e0 : cE (n + 1) C (.ListComp elt gens scope p) = (match oneGen gens with
            | some (tg, iter, ifs) => cLC (cE n) C elt scope tg iter ifs
            | none => .never) := by
            show (if C.hot then E.never else _) = _
            rw [c.cold]
            rfl
          cases q : oneGen gens with
          | none =>
            rw [e0, q]
            exact ps_stuck set_never
          | some w =>
            obtain ⟨tg, iter, ifs⟩ := w
            have := oneGen_ok q
            subst this
            rw [e0, q]
            simp only
            rcases cLC_ok c.toCOk c.cold (elt := elt) (tg := tg) (iter := iter) (ifs := ifs) (scope := scope) (n := n) (fun c e => (e_ok n c e).1) with h | ⟨t, it, xc, xe, h, hc⟩
            · rw [h]; exact ps_stuck set_never
            · rw [h]
              exact s_setLc (c.gn c.cold).1 (c.calm c.cold) c.nd s1 hk (sw true hv) hc.hi hc.ok (tgOf_ok t) hc.sub hc.hg hc.ht hc.he hc.hs
    · cases hl
  · refine plain (sw_other ?_)
    have hl : isLC e = false := by simpa using hl
    simp only [hl, Bool.not_false, Bool.and_true, Bool.not_eq_true] at hc
    exact hc
theorem namesB_ok (c : SOk X W C cf k) {es : List Expr} {is : List Nat} {e : Expr} {kt n : Nat} {pt pos : Pos} (h : namesOf C es = some is) (ht : isTup e = false) : PS X (.Assign [.Tuple es kt pt] e pos) (tS X.K W (exS cf wf (.set (.tup is) (cE n C e)))) := by
  have tg : cT C (.Tuple es kt pt) = some (.tup is) := by
    show (namesOf C es).map T.tup = _
    rw [h]
    rfl
  refine s_asg (c.gn c.cold).1 (e_ok n c.toCOk e).1.v (target_ok c.toCOk c.cold tg) (tgOf_ok _) (sw_sole fun x p z => nomatch z) ?_ rfl
  unfold swappedStores
  cases e <;> first | rfl | (cases ht)
theorem fm_len {α β : Type} {f : α → Option β} : ∀ (l : List α), (l.filterMap f).length = l.length → ∀ x ∈ l, (f x).isSome = true
  | [], _, _, h => nomatch h
  | a :: l, e, x, h => by
    cases q : f a with
    | none =>
      rw [List.filterMap_cons_none q] at e
      have := List.length_filterMap_le f l
      simp at e
      omega
    | some b =>
      rw [List.filterMap_cons_some q] at e
      rcases List.mem_cons.mp h with rfl | h
      · rw [q]; rfl
      · exact fm_len l (by simpa using e) x h
theorem noSwap_ok (c : SOk X W C cf k) {ts vs : List Expr} {kt k2 : Nat} {pt pt2 : Pos} (h : noSwapB C ts = true) : swappedStores [.Tuple ts kt pt] (.Tuple vs k2 pt2) X.env = pure none := by
  unfold noSwapB at h
  rw [Bool.or_eq_true] at h
  unfold swappedStores
  show (if _ then _ else _ : Sem (Option (List Str))) = _
  by_cases c1 : (!(ts.length == 2 || ts.length == 3) || vs.length != ts.length || X.env.blockKind != .function) = true
  · exact if_pos c1
  · rw [if_neg c1]
    have h2 : ts.any (fun t => match t with
        | .Name x _ => !decide (C.kind x = some .local)
        | _ => false) = true := by
      rcases h with h | h
      · exfalso
        refine c1 ?_
        rw [h]
        rfl
      · exact h
    show (if _ then _ else _ : Sem (Option (List Str))) = _
    split
    · rfl
    · show (if _ then _ else _ : Sem (Option (List Str))) = _
      refine if_pos ?_
      rw [Bool.or_eq_true]
      refine .inl ?_
      rw [bne_iff_ne]
      intro e
      obtain ⟨t, ht, hb⟩ := List.any_eq_true.mp h2
      have hs := fm_len ts e t ht
      cases t <;> first | (cases hb) | skip
      rename_i x p
      have hk : ¬ X.env.kindOf x = some .local := by
        have e2 : X.env.kindOf x = C.kind x := by
          show X.env.scope.names.lookup x = C.sc.names.lookup x
          rw [c.sc]
        rw [e2]
        simpa using hb
      simp only at hs
      split at hs
      · rename_i q
        simp only [Bool.and_eq_true, beq_iff_eq] at q
        exact hk q.1
      · cases hs
theorem tupSet_ok (c : SOk X W C cf k) {es : List Expr} {e : Expr} {kt n : Nat} {pt pos : Pos} : PS X (.Assign [.Tuple es kt pt] e pos) (tS X.K W (exS cf wf (cTupSet C (cE n C) es e))) := by
  unfold cTupSet
  cases q : namesOf C es with
  | none => exact ps_no
  | some is =>
    simp only
    split
    · exact ps_no
    · rename_i ht
      cases hb : isTup e with
      | false => exact namesB_ok c q hb
      | true =>
        rw [hb] at ht
        simp at ht
        obtain ⟨vs, k2, pt2, rfl⟩ := isTup_ok hb
        have tg : cT C (.Tuple es kt pt) = some (.tup is) := by
          show (namesOf C es).map T.tup = _
          rw [q]
          rfl
        exact s_asg (c.gn c.cold).1 (e_ok n c.toCOk (.Tuple vs k2 pt2)).1.v (target_ok c.toCOk c.cold tg) (tgOf_ok _) (sw_sole fun x p z => nomatch z) (noSwap_ok c ht) rfl
theorem assign_ok (c : SOk X W C cf k) {t e : Expr} {pos : Pos} {n : Nat} : PS X (.Assign [t] e pos) (tS X.K W (exS cf wf (cAssign C (cE n C) t e))) := by
  unfold cAssign
  split
  · rename_i x px
    cases q : C.slot x with
    | none => exact ps_no
    | some i =>
      simp only
      split
      · exact ps_no
      · rename_i hc
        exact set_ok c q hc
  · rename_i x px y py kt pt
    split
    · rename_i e1 e2 k2 pt2
      split
      · rename_i i j q1 q2
        split
        · rename_i q
          simp only [Bool.and_eq_true, bne_iff_ne, ne_eq] at q
          obtain ⟨q3, q4⟩ := q
          obtain ⟨h1, h2, h3, h4, h5⟩ := par_sw c (kt := kt) (k2 := k2) (pt := pt) (pt2 := pt2) q3
          exact s_par (c.gn c.cold).1 (c.calm c.cold) c.nd (by rw [c.N]; exact CC.at_ok q1) (by rw [c.N]; exact CC.at_ok q2) q4 h2 h3 h4 h5 (e_ok n c.toCOk e1).1.v (e_ok n c.toCOk e2).1.v h1 rfl
        · exact tupSet_ok c
      · exact tupSet_ok c
    · exact tupSet_ok c
  · rename_i x px y py z pz kt pt
    split
    · rename_i e1 e2 e3 k2 pt2
      split
      · rename_i i j l q1 q2 q3
        split
        · rename_i q
          simp only [Bool.and_eq_true, bne_iff_ne, ne_eq] at q
          obtain ⟨⟨⟨q4, q5⟩, q6⟩, q7⟩ := q
          obtain ⟨h1, h2, h3, h4, h5, h6, h7⟩ := par3_sw c (kt := kt) (k2 := k2) (pt := pt) (pt2 := pt2) q4
          exact s_par3 (c.gn c.cold).1 (c.calm c.cold) c.nd (by rw [c.N]; exact CC.at_ok q1) (by rw [c.N]; exact CC.at_ok q2) (by rw [c.N]; exact CC.at_ok q3) q5 q6 q7 h2 h3 h4 h5 h6 h7 (e_ok n c.toCOk e1).1.v (e_ok n c.toCOk e2).1.v (e_ok n c.toCOk e3).1.v h1 rfl
        · exact tupSet_ok c
      · exact tupSet_ok c
    · exact tupSet_ok c
  · exact tupSet_ok c
  · rename_i o i p2
    split
    · exact ps_no
    · rename_i hs
      have ns : NotSlice i := by
        unfold isSlice at hs
        cases i <;> first | trivial | exact absurd rfl hs
      exact s_setix c.un ns (sw_sole fun x p z => nomatch z) (e_ok n c.toCOk e).1.v (e_ok n c.toCOk o).1.v (e_ok n c.toCOk i).1.v
  · exact ps_no
theorem ss_ok {f : Stmt → S} : ∀ {sts : List Stmt}, (∀ s ∈ sts, PS X s (tS X.K W (exS cf wf (f s)))) → PSs X sts (tS X.K W (exS cf wf (cSs f sts)))
  | [], _ => s_nil
  | [s], h => s_one (h s List.mem_cons_self)
  | s :: t :: r, h => s_cons (h s List.mem_cons_self) (ss_ok fun x hx => h x (List.mem_cons_of_mem _ hx))
/-- the same, for a suite -/
theorem h_ok : ∀ (n : Nat) {X : Cx} {W : WG} {C : CC} (c : COk X W C cf k) (st : Stmt), PS X st (tS X.K W (exS cf wf (cH n C st))) := by
  intro n
  induction n with
  | zero => exact fun c st => ps_no
  | succ n ihg =>
    intro X W C c st
    have e := fun x => (e_ok n c x).1
    have sss : ∀ sts, PSs X sts (tS X.K W (exS cf wf (cSs (cH n C) sts))) := fun sts => ss_ok fun s _ => ihg c s
    cases st with
    | Assign ts v pos =>
      show PS X _ (tS X.K W (exS cf wf (match ts with
        | [.Name x _] => (match C.slot x with
          | some i => if isComp v || decide (C.exn = some x) then .never else .set (.name i) (cE n C v)
          | none => .never)
        | _ => .never)))
      split
      · rename_i x px
        cases q : C.slot x with
        | none => exact ps_no
        | some i =>
          simp only
          split
          · exact ps_no
          · rename_i hb
            simp only [Bool.or_eq_true, not_or, decide_eq_true_eq, Bool.not_eq_true] at hb
            obtain ⟨s1, s2, s3⟩ := c.slot q
            refine s_set (fun z hz ez => ?_) c.nd s1 s2 (e v).v (sw_other hb.1) s3
            obtain ⟨y, h1, h2, _⟩ := c.gx z hz
            rw [← ez, ← c.N, s1] at h2
            cases h2
            exact hb.2 h1
      · exact ps_no
    | Return v pos =>
      cases v with
      | none => exact s_retN
      | some v => exact s_ret (e v).v
    | If t a b pos => exact s_if (e t).t (sss a) (sss b)
    | Pass pos => exact s_pass
    | _ => exact ps_no
theorem raise_ok (c : SOk X W C cf k) {n : Nat} {e : Expr} {pos : Pos} : PS X (.Raise (some e) none pos) (tS X.K W (exS cf wf (cRaise C (cE n C) e))) := by
  unfold cRaise
  split
  · rename_i x p a args p2
    split
    · rename_i hb
      simp only [Bool.and_eq_true, Bool.not_eq_true'] at hb
      obtain ⟨⟨h1, h2⟩, h3⟩ := hb
      obtain ⟨o1, o2, o3⟩ := odd_no (x := x) (by rw [h1]; exact Bool.false_ne_true)
      split
      · rename_i fs q
        have ns := stars_iff h3
        exact s_raise (c.calm c.cold) c.tk (c.exc x fs q) ((c.room c.cold).mono (show 1 + 1 ≤ k from c.k2)) (c.gl h2) o1 ns (es_ok (n := n) ns fun y _ => (e_ok n c.toCOk y).1).1
      · exact ps_no
    · exact ps_no
  · exact ps_no
/-- the context of a suite -/
theorem COk.suite (c : SOk X W C cf k) {a : Addr} {oe : Obj} {z : Str} {dd : Addr} {pn : List (Addr × Obj)} (hz : z ∈ C.all) (zc : Zc (.ref (He.ga X.K z)) (some dd) oe) (hf : ∃ vs, oe.data = .fields vs) {nm : Option Str} {i : Option Nat} (hi : (nm = none ∧ i = none) ∨ ∃ x j, nm = some x ∧ i = some j ∧ C.N[j]? = some x) :
    COk (X.suite a ((a, oe) :: pn)) (hotW a dd z i) { C with hot := true, exn := nm } cf k :=
  { N := c.N, sc := c.sc, calm := (fun h => nomatch h), gn := (fun h => nomatch h), hw := (fun _ _ _ _ _ h => h), k2 := c.k2
    gx := fun q hq => by
      rcases hi with ⟨rfl, rfl⟩ | ⟨x, j, rfl, rfl, hj⟩
      · cases hq
      · cases hq
        exact ⟨x, rfl, hj, ⟨oe, List.mem_cons_self, zc, hf⟩, hz⟩
    xg := fun x hx => by
      rcases hi with ⟨rfl, rfl⟩ | ⟨x, j, rfl, rfl, hj⟩
      · cases hx
      · exact ⟨_, rfl⟩
    xc := c.xc, cl := c.cl, exc := fun x fs h => let R := c.exc x fs h; ⟨R.ex, R.few, R.nd, R.ne⟩
    hfun := fun x ps h => let ⟨f, F, e⟩ := c.hfun x ps h; ⟨f, ⟨F.ex⟩, e⟩
    nd := c.nd, un := c.un, gu := c.gu, tk := takes0, room := (fun h => nomatch h), roomH := ⟨c.roomH.dp, c.roomH.un⟩, fn := c.fn
    func := fun x ps dfl h => by
      obtain ⟨f, F, e⟩ := c.func x ps dfl h
      exact ⟨f, ⟨F.ex⟩, e⟩
    const := c.const, free := c.free }
theorem suite_ok (c : SOk X W C cf k) {n : Nat} {nm : Option Str} {i : Option Nat} {st : List Stmt} (hi : (nm = none ∧ i = none) ∨ ∃ x j, nm = some x ∧ i = some j ∧ C.N[j]? = some x) : SuiteOk X cf wf C.all i st (cSs (cH n { C with hot := true, exn := nm }) st) := fun a oe z dd pn hz zc hf =>
  ss_ok fun s _ => h_ok n (COk.suite c hz zc hf hi) s
theorem names_of (c : COk X W C cf k) {y : Str} {p : Pos} (h : clsB C (.Name y p) = true) : ∃ cv, Names X y cv ∧ ∀ z ∈ C.all, PySem.W.exmOne X.K (.ref (He.ga X.K z)) cv = some (decide (z ∈ C.under y)) := by
  have h : (C.glob y && C.cls.contains y && !odd y) = true := h
  simp only [Bool.and_eq_true, List.contains_iff_mem, Bool.not_eq_true'] at h
  obtain ⟨⟨h1, h2⟩, h3⟩ := h
  obtain ⟨o1, o2, o3⟩ := odd_no (x := y) (by rw [h3]; exact Bool.false_ne_true)
  obtain ⟨v, cv, hc, _, hk⟩ := c.cl y h2
  refine ⟨cv, ⟨c.gl h1, o1, ?_⟩, hk⟩
  rcases hc with ⟨m1, _⟩ | ⟨m1, m2, _⟩
  · exact .inl m1
  · exact .inr ⟨m1, m2, o3⟩
theorem cTest_ok (c : COk X W C cf k) {t : Expr} {cs : List Str} (h : cTest C t = some cs) : TestOk X t C.all cs := by
  unfold cTest at h
  split at h
  · split at h
    · rename_i hb
      cases h
      obtain ⟨cv, h1, h2⟩ := names_of c hb
      exact test_one h1 h2
    · cases h
  · split at h
    · rename_i hb
      cases h
      rw [Bool.and_eq_true] at hb
      obtain ⟨c1, g1, g2⟩ := names_of c hb.1
      obtain ⟨c2, k1, k2⟩ := names_of c hb.2
      refine test_two g1 k1 fun z hz => ?_
      have a1 := g2 z hz
      have a2 := k2 z hz
      unfold PySem.W.exmAny PySem.W.exmAny PySem.W.exmAny
      rw [a1, a2]
      simp only [Bool.or_false]
      congr 1
      simp
    · cases h
  · cases h
theorem cHs_ok (c : SOk X W C cf k) {n : Nat} : ∀ {hds : List ExceptHandler} {h : Hs}, cHs n C hds = some h → HsOk X cf wf hds h
  | [], h, q => by cases q; exact .nil
  | d :: hds, h, q => by
    unfold cHs at q
    split at q
    · rename_i e; cases e
    · rename_i t nm b suite p2 hds' e
      cases e
      split at q
      · rename_i cs h' q1 q2
        have ih := cHs_ok c q2
        have tt := cTest_ok c.toCOk q1
        split at q
        · cases q
          exact .only tt (suite_ok c (.inl ⟨rfl, rfl⟩)) ih
        · rename_i x
          split at q
          · rename_i i k1 k2
            cases q
            have hn : C.N[i]? = some x := CC.at_ok k2
            exact .as_ tt (by rw [c.N]; exact hn) (by rw [show X.env.kindOf x = X.env.scope.names.lookup x from rfl, c.sc]; exact k1) (suite_ok c (.inr ⟨x, i, rfl, rfl, hn⟩)) ih
          · cases q
      · cases q
    · cases q
/-- the context of a try's body -/
theorem SOk.tr (c : SOk X W C cf k) (w' : WX) (pn : List (Addr × Obj)) (xe : Value → Shared → Prop) (tk : Takes (X.tr pn xe) w') (hp : PassesOwn (model X.prog X.w) X.A X.env xe) : SOk (X.tr pn xe) (⟨w', none⟩ : WG) C cf k :=
  { N := c.N, sc := c.sc, calm := c.calm, gn := fun h => ⟨rfl, (c.gn h).2⟩, hw := (fun h => by rw [c.cold] at h; cases h), k2 := c.k2, gx := (fun q hq => nomatch hq), xg := fun x hx => by
      rw [(c.gn c.cold).2] at hx
      cases hx
    xc := c.xc, cl := c.cl, exc := fun x fs h => let R := c.exc x fs h; ⟨R.ex, R.few, R.nd, R.ne⟩
    hfun := fun x ps h => let ⟨f, F, e⟩ := c.hfun x ps h; ⟨f, ⟨F.ex⟩, e⟩
    nd := c.nd, un := c.un, gu := c.gu, tk := tk, room := c.room, roomH := c.roomH, fn := c.fn
    func := fun x ps dfl h => by
      obtain ⟨f, F, e⟩ := c.func x ps dfl h
      exact ⟨f, ⟨F.ex⟩, e⟩
    const := c.const, free := c.free, kind := c.kind, cold := c.cold, hst := c.hst, hfr := c.hfr, hp := hp }
theorem try_ok (c : SOk X W C cf k) {n : Nat} {body : List Stmt} {b : S} {h₀ : ExceptHandler} {hds : List ExceptHandler} {h : Hs} {pos : Pos} (hb : ∀ {X' : Cx} {W' : WG}, SOk X' W' C cf k → PSs X' body (tS X'.K W' (exS cf wf b))) (q : cHs n C (h₀ :: hds) = some h) :
    PS X (.Try body (h₀ :: hds) [] [] pos) (tS X.K W (exS cf wf (.try_ b h))) := by
  obtain ⟨w, g⟩ := W
  have e : g = none := (c.gn c.cold).1
  subst e
  exact s_try c.nd c.hst c.hfr c.tk (fun w' pn xe tk hp => hb (c.tr w' pn xe tk hp)) (cHs_ok c q)
/-- THE THEOREM for statements -/
theorem s_ok : ∀ (n : Nat) {X : Cx} {W : WG} {C : CC} (c : SOk X W C cf k) (st : Stmt), PS X st (tS X.K W (exS cf wf (cS n C st))) := by
  intro n
  induction n with
  | zero => exact fun c st => ps_no
  | succ n ihg =>
    intro X W C c st
    have ih := fun st => ihg c st
    have e := fun x => (e_ok n c.toCOk x).1
    have sss : ∀ sts, PSs X sts (tS X.K W (exS cf wf (cSs (cS n C) sts))) := fun sts => ss_ok fun s _ => ih s
    cases st with
    | Assign ts v pos =>
      cases ts with
      | nil => exact ps_no
      | cons t r =>
        cases r with
        | nil => exact assign_ok c
        | cons _ _ => exact ps_no
    | Expr v pos =>
      show PS X _ (tS X.K W (exS cf wf (if isStr v then .skip else if isComp v then .never else .expr (cE n C v))))
      split
      · rename_i q
        unfold isStr at q
        split at q
        · exact s_doc
        · cases q
      · split
        · exact ps_no
        · rename_i q
          exact s_expr (e v).v (sw_other (by simpa using q))
    | Return v pos =>
      cases v with
      | none => exact s_retN
      | some v => exact s_ret (e v).v
    | If t a b pos => exact s_if (e t).t (sss a) (sss b)
    | For tg it body orelse pos =>
      show PS X _ (tS X.K W (exS cf wf (match orelse, cT C tg with
        | [], some t => if isSet it then .never else .for_ t (cI C (cE n C) tg it) (cSs (cS n C) body)
        | _, _ => .never)))
      split
      · rename_i t q
        split
        · exact ps_no
        · rename_i hs
          exact s_for (c.gn c.cold).1 c.hp (c.calm c.cold) (iter_ok c.toCOk e) (target_ok c.toCOk c.cold q) (tgOf_ok t) (sss body) (notSet_ok (by simpa using hs))
      · exact ps_no
    | While t body orelse pos =>
      cases orelse with
      | nil => exact s_while wf c.hp (e t).t (sss body)
      | cons _ _ => exact ps_no
    | Raise e cause pos =>
      cases e with
      | none => cases cause <;> exact ps_no
      | some e =>
        cases cause with
        | some _ => exact ps_no
        | none => exact raise_ok c
    | Try body hds orelse fin pos =>
      cases orelse with
      | cons _ _ => exact ps_no
      | nil =>
        cases fin with
        | cons _ _ => exact ps_no
        | nil =>
          show PS X _ (tS X.K W (exS cf wf (match hds, cHs n C hds with
            | _ :: _, some h => .try_ (cSs (cS n C) body) h
            | _, _ => .never)))
          split
          · rename_i h0 hr h q
            exact try_ok c (fun c' => ss_ok fun st _ => ihg c' st) q
          · exact ps_no
    | Pass pos => exact s_pass
    | Break pos => exact s_brk
    | Continue pos => exact s_cont
    | _ => exact ps_no
end
end Pf

/-! Pf14: the defs of a text. -/
namespace Pf
open PySem L2 PyProof.Rows
/-! ### how arguments bind -/
/-- plain parameters alone -/
def plainP (p : Arguments) (ps : List Str) : Bool := p.posonlyargs.isEmpty && decide (p.args.map (·.arg) = ps) && p.vararg.isNone && p.kwonlyargs.isEmpty && p.kwarg.isNone
theorem look_zip : ∀ {ps : List Str} {us : List Value}, ps.Nodup → ps.length ≤ us.length → (ps.filterMap fun n => ((ps.zip us).lookup n).map (n, ·)) = ps.zip us := by
  intro ps
  have go : ∀ (qs : List Str) (ps : List Str) (us : List Value) (acc : List (Str × Value)), ps.Nodup → ps.length ≤ us.length → (∀ n ∈ ps, acc.lookup n = none) → (ps.filterMap fun n => ((acc ++ ps.zip us).lookup n).map (n, ·)) = ps.zip us := by
    intro _ ps
    induction ps with
    | nil => intro us acc _ _ _; rfl
    | cons p ps ih =>
      intro us acc nd hl ha
      cases us with
      | nil => simp at hl
      | cons u us =>
        have hn := (List.nodup_cons.mp nd)
        have e1 : (acc ++ (p :: ps).zip (u :: us)).lookup p = some u := by
          rw [List.zip_cons_cons, List.lookup_append, ha p List.mem_cons_self]
          simp [List.lookup_cons]
        have ih' := ih us (acc ++ [(p, u)]) hn.2 (by simpa using hl) fun n hm => by
          rw [List.lookup_append, ha n (List.mem_cons_of_mem _ hm)]
          have hne : (n == p) = false := by
            simp only [beq_eq_false_iff_ne, ne_eq]
            rintro rfl
            exact hn.1 hm
          simp [List.lookup_cons, hne]
        rw [List.filterMap_cons, e1]
        simp only [Option.map_some]
        rw [List.zip_cons_cons] at *
        have e2 : acc ++ (p, u) :: ps.zip us = (acc ++ [(p, u)]) ++ ps.zip us := by simp
        rw [e2, ih']
  intro us nd hl
  have := go [] ps us [] nd hl fun _ _ => rfl
  simpa using this
theorem look_some : ∀ {ps : List Str} {us : List Value} {n : Str}, n ∈ ps → ps.length ≤ us.length → ((ps.zip us).lookup n).isNone = false := by
  intro ps
  induction ps with
  | nil => intro us n h _; simp at h
  | cons p ps ih =>
    intro us n h hl
    cases us with
    | nil => simp at hl
    | cons u us =>
      rw [List.zip_cons_cons, List.lookup_cons]
      cases e : n == p with
      | true => rfl
      | false =>
        refine ih ?_ (by simpa using hl)
        rcases List.mem_cons.mp h with z | z
        · rw [z] at e; simp at e
        · exact z
theorem bind_plain {x qual : Str} {params : Arguments} {body : List Stmt} {scope : Scope} {kV doc pm cdv ct : Value} {an : Option Addr} {ps : List Str} {us : List Value} (hp : plainP params ps = true) (nd : ps.Nodup) (hl : us.length = ps.length) :
    bindArgs (PySem.W.fnOf x qual params body scope .none kV doc pm an cdv ct) ⟨us, []⟩ = pure (ps.zip us) := by
  obtain ⟨po, as, va, ko, kd, kw, ds⟩ := params
  unfold plainP at hp
  simp only [Bool.and_eq_true, List.isEmpty_iff, decide_eq_true_eq, Option.isNone_iff_eq_none] at hp
  obtain ⟨⟨⟨⟨h1, h2⟩, h3⟩, h4⟩, h5⟩ := hp
  subst h1 h2 h3 h4 h5
  have m1 : (List.take (as.map (·.arg)).length (as.map (·.arg))).filter (fun n => (((as.map (·.arg)).zip us).lookup n).isNone) = [] := by
    rw [List.filter_eq_nil_iff]
    intro n hn
    rw [look_some (List.mem_of_mem_take hn) (by omega)]
    exact Bool.false_ne_true
  have m2 := look_zip (ps := as.map (·.arg)) (us := us) nd (by omega)
  have m3 : ¬ us.length > (as.map (·.arg)).length := by omega
  have hs0 : seqItems? .none = (pure none : Sem (Option (Array Value))) := rfl
  unfold bindArgs PySem.W.fnOf
  simp only [List.map_nil, List.nil_append, List.forIn_nil, List.append_nil, hs0, pure_bind, Option.getD_none, Option.isNone_none, Bool.and_true, decide_eq_true_eq, m3, if_false, Bool.false_eq_true, List.drop_nil, List.length_nil, Nat.sub_zero, Nat.zero_sub, m1, List.isEmpty_nil, Bool.not_true, List.zip_nil_right, List.drop_length, Array.toList_empty, Nat.sub_self]
  rw [m2]
/-! ### defaults -/
def fillS (slots : List (Str × Value)) (q : Str × Value) : List (Str × Value) := if (slots.lookup q.1).isNone = true then slots ++ [(q.1, q.2)] else slots
theorem fill_loop : ∀ (l : List (Str × Value)) (s : List (Str × Value)), (forIn l s fun x s => if (List.lookup x.fst s).isNone = true then (pure (ForInStep.yield (s ++ [(x.fst, x.snd)])) : Sem _) else pure (ForInStep.yield s)) = (pure (l.foldl fillS s) : Sem _)
  | [], s => by simp
  | q :: l, s => by
    rw [List.forIn_cons]
    by_cases h : (List.lookup q.fst s).isNone = true
    · rw [if_pos h, pure_bind]
      show (forIn l _ _ : Sem _) = _
      rw [fill_loop l, List.foldl_cons]
      unfold fillS
      rw [if_pos h]
    · rw [if_neg h, pure_bind]
      show (forIn l _ _ : Sem _) = _
      rw [fill_loop l, List.foldl_cons]
      conv => rhs; unfold fillS
      rw [if_neg h]
      rfl
theorem fill_had : ∀ (l : List (Str × Value)) (s : List (Str × Value)), (∀ q ∈ l, (s.lookup q.1).isNone = false) → l.foldl fillS s = s
  | [], s, _ => rfl
  | q :: l, s, h => by
    rw [List.foldl_cons]
    have e : fillS s q = s := by
      unfold fillS
      rw [h q List.mem_cons_self]
      rfl
    rw [e]
    exact fill_had l s fun x hx => h x (List.mem_cons_of_mem _ hx)
theorem fill_new : ∀ (ps : List Str) (ds : List Value) (s : List (Str × Value)), ps.Nodup → (∀ n ∈ ps, s.lookup n = none) → (ps.zip ds).foldl fillS s = s ++ ps.zip ds
  | [], ds, s, _, _ => by simp
  | p :: ps, [], s, _, _ => by simp
  | p :: ps, d :: ds, s, nd, h => by
    rw [List.zip_cons_cons, List.foldl_cons]
    have hn := List.nodup_cons.mp nd
    have e : fillS s (p, d) = s ++ [(p, d)] := by
      unfold fillS
      rw [h p List.mem_cons_self]
      rfl
    rw [e, fill_new ps ds _ hn.2 fun n hm => ?_]
    · simp
    · rw [List.lookup_append, h n (List.mem_cons_of_mem _ hm)]
      have hne : (n == p) = false := by
        simp only [beq_eq_false_iff_ne, ne_eq]
        rintro rfl
        exact hn.1 hm
      simp [List.lookup_cons, hne]
theorem look_take : ∀ {ps : List Str} {us : List Value} {n : Str}, n ∈ ps.take us.length → ((ps.zip us).lookup n).isNone = false := by
  intro ps
  induction ps with
  | nil => intro us n h; simp at h
  | cons p ps ih =>
    intro us n h
    cases us with
    | nil => simp at h
    | cons u us =>
      rw [List.zip_cons_cons, List.lookup_cons]
      cases e : n == p with
      | true => rfl
      | false =>
        refine ih ?_
        rw [List.length_cons, List.take_succ_cons] at h
        rcases List.mem_cons.mp h with z | z
        · rw [z] at e; simp at e
        · exact z
theorem look_out : ∀ {ps : List Str} {us : List Value} {n : Str}, n ∉ ps.take us.length → (ps.zip us).lookup n = none := by
  intro ps
  induction ps with
  | nil => intro us n h; rfl
  | cons p ps ih =>
    intro us n h
    cases us with
    | nil => rfl
    | cons u us =>
      rw [List.length_cons, List.take_succ_cons] at h
      rw [List.zip_cons_cons, List.lookup_cons]
      have hne : (n == p) = false := by
        simp only [beq_eq_false_iff_ne, ne_eq]
        rintro rfl
        exact h List.mem_cons_self
      rw [hne]
      exact ih fun z => h (List.mem_cons_of_mem _ z)
theorem fill_all {ps : List Str} {us its : List Value} (nd : ps.Nodup) (h1 : us.length ≤ ps.length) (h2 : ps.length ≤ us.length + its.length) (h3 : its.length ≤ ps.length) :
    ((ps.drop (ps.length - its.length)).zip its).foldl fillS (ps.zip us) = ps.zip (us ++ its.drop (its.length - (ps.length - us.length))) := by
  obtain ⟨a, ha⟩ : ∃ a, a = ps.length - its.length := ⟨_, rfl⟩
  obtain ⟨c, hc⟩ : ∃ c, c = us.length - a := ⟨_, rfl⟩
  have e1 : its.length - (ps.length - us.length) = c := by omega
  rw [e1, ← ha]
  have e2 : (ps.drop a).zip its = ((ps.drop a).take c).zip (its.take c) ++ (ps.drop us.length).zip (its.drop c) := by
    rw [show ps.drop us.length = (ps.drop a).drop c by rw [List.drop_drop]; congr 1; omega]
    conv => lhs; rw [← List.take_append_drop c (ps.drop a), ← List.take_append_drop c its]
    rw [List.zip_append]
    rw [List.length_take, List.length_take, List.length_drop]
    congr 1
    omega
  have p1 : (((ps.drop a).take c).zip (its.take c)).foldl fillS (ps.zip us) = ps.zip us := by
    refine fill_had _ _ fun q hq => look_take ?_
    have hm := (List.of_mem_zip hq).1
    have : (ps.drop a).take c = (ps.take us.length).drop a := by
      rw [List.drop_take]
      congr 1
    rw [this] at hm
    exact List.mem_of_mem_drop hm
  have p2 : ((ps.drop us.length).zip (its.drop c)).foldl fillS (ps.zip us) = ps.zip us ++ (ps.drop us.length).zip (its.drop c) := by
    refine fill_new _ _ _ (nd.sublist (List.drop_sublist _ _)) fun n hn => look_out fun z => ?_
    rw [← List.take_append_drop us.length ps, List.nodup_append] at nd
    exact nd.2.2 n z n hn rfl
  rw [e2, List.foldl_append, p1, p2]
  have e3 : ps.zip us = (ps.take us.length).zip us := by
    conv => lhs; rw [← List.take_append_drop us.length ps]
    have hu : us = us ++ [] := by simp
    conv => lhs; rw [hu]
    rw [List.zip_append (by rw [List.length_take]; simp; omega)]
    simp
  rw [e3]
  conv => rhs; rw [← List.take_append_drop us.length ps]
  rw [List.zip_append (by rw [List.length_take]; omega)]
theorem look_zip2 {ps : List Str} {us : List Value} (nd : ps.Nodup) (h : us.length = ps.length) : (ps.filterMap fun n => ((ps.zip us).lookup n).map (n, ·)) = ps.zip us := look_zip nd (by omega)
theorem bind_dfl {x qual : Str} {params : Arguments} {body : List Stmt} {scope : Scope} {kV doc pm cdv ct : Value} {an : Option Addr} {ps : List Str} {us its : List Value} {T : Addr} (hp : plainP params ps = true) (nd : ps.Nodup) (h1 : us.length ≤ ps.length) (h2 : ps.length ≤ us.length + its.length) (h3 : its.length ≤ ps.length) :
    ∃ k, bindArgs (PySem.W.fnOf x qual params body scope (.ref T) kV doc pm an cdv ct) ⟨us, []⟩ = seqItems? (.ref T) >>= k ∧ k (some its.toArray) = pure (ps.zip (us ++ its.drop (its.length - (ps.length - us.length)))) := by
  obtain ⟨po, as, va, ko, kd, kw, ds⟩ := params
  unfold plainP at hp
  simp only [Bool.and_eq_true, List.isEmpty_iff, decide_eq_true_eq, Option.isNone_iff_eq_none] at hp
  obtain ⟨⟨⟨⟨h1', h2'⟩, h3'⟩, h4'⟩, h5'⟩ := hp
  subst h1' h3' h4' h5'
  have m3 : ¬ us.length > ps.length := by omega
  unfold bindArgs PySem.W.fnOf
  simp only [List.map_nil, List.nil_append, List.forIn_nil, List.append_nil, pure_bind, Option.isNone_none, Bool.and_true, decide_eq_true_eq, h2', m3, if_false, Bool.false_eq_true, List.length_nil]
  refine ⟨_, rfl, ?_⟩
  simp only [Option.getD_some, List.toList_toArray]
  have e0 : its.length - ps.length = 0 := by omega
  have m1 : (List.filter (fun n => (List.lookup n (ps.zip us)).isNone) (List.take (ps.length - its.length) ps)) = [] := by
    rw [List.filter_eq_nil_iff]
    intro n hn
    have hs : n ∈ ps.take us.length := by
      have : ps.take (ps.length - its.length) = (ps.take us.length).take (ps.length - its.length) := by
        rw [List.take_take]
        congr 1
        omega
      rw [this] at hn
      exact List.mem_of_mem_take hn
    rw [look_take hs]
    exact Bool.false_ne_true
  rw [e0, List.drop_zero, m1]
  simp only [List.isEmpty_nil, Bool.not_true, Bool.false_eq_true, if_false]
  rw [fill_loop, pure_bind, fill_all nd h1 h2 h3, look_zip2 nd]
  rw [List.length_append, List.length_drop]
  omega
end Pf

/-! Pf15: a text of defs, constants and built-ins; every def means its meaning. -/
namespace Pf
open PySem L2 PyProof.Rows
/-! ### a def's names -/
def parsOf (p : Arguments) : List Str := p.args.map (·.arg)
def ownNames (sc : Scope) : List Str := sc.names.filterMap fun y => match y.2 with
  | .local | .cell => some y.1
  | _ => none
def nmO (f : Expr → List Str) : Option Expr → List Str
  | none => []
  | some e => f e
def nmE : Nat → Expr → List Str
  | 0, _ => []
  | n + 1, e => match e with
    | .BinOp a _ b _ => nmE n a ++ nmE n b
    | .UnaryOp _ a _ => nmE n a
    | .Compare a _ bs _ => nmE n a ++ bs.flatMap (nmE n)
    | .BoolOp _ vs _ => vs.flatMap (nmE n)
    | .IfExp c a b _ => nmE n c ++ (nmE n a ++ nmE n b)
    | .Tuple es _ _ => es.flatMap (nmE n)
    | .List es _ => es.flatMap (nmE n)
    | .Dict _ es _ => es.flatMap (nmE n)
    | .Subscript a s _ => nmE n a ++ nmE n s
    | .Slice lo hi st _ => nmO (nmE n) lo ++ (nmO (nmE n) hi ++ nmO (nmE n) st)
    | .Call f args _ _ => nmE n f ++ args.flatMap (nmE n)
    | .Attribute o _ _ => nmE n o
    | .ListComp elt gens scope _ => ownNames scope ++ (nmE n elt ++ gens.flatMap fun g => nmE n g.iter ++ g.ifs.flatMap (nmE n))
    | _ => []
def nmS : Nat → Stmt → List Str
  | 0, _ => []
  | n + 1, st => match st with
    | .Assign ts e _ => ts.flatMap (nmE n) ++ nmE n e
    | .Expr e _ => nmE n e
    | .Return v _ => nmO (nmE n) v
    | .If c a b _ => nmE n c ++ (a.flatMap (nmS n) ++ b.flatMap (nmS n))
    | .For _ it body _ _ => nmE n it ++ body.flatMap (nmS n)
    | .While c body _ _ => nmE n c ++ body.flatMap (nmS n)
    | _ => []
def fuel : Nat := 40
def slotsOf (d : He.DefD) : List Str := (parsOf d.params ++ (ownNames d.scope ++ d.body.flatMap (nmS fuel))).eraseDups
def isFnKind : ScopeKind → Bool
  | .function => true
  | _ => false
def scopeB (N ps : List Str) (sc : Scope) : Bool := isFnKind sc.kind && !sc.isCoroutine && !sc.isGenerator && decide N.Nodup && decide (N.take ps.length = ps) &&
  (ps.all fun x => decide (sc.names.lookup x = some .local) || decide (sc.names.lookup x = some .cell)) && sc.names.all fun y => decide (y.2 ≠ .free)
theorem scopeB_ok {N ps : List Str} {sc : Scope} (h : scopeB N ps sc = true) : FnScope N ps sc := by
  unfold scopeB at h
  simp only [Bool.and_eq_true, Bool.not_eq_true', decide_eq_true_eq, List.all_eq_true, Bool.or_eq_true] at h
  obtain ⟨⟨⟨⟨⟨⟨h1, h2⟩, h3⟩, h4⟩, h5⟩, h6⟩, h7⟩ := h
  refine ⟨?_, h2, h3, h4, h5, h6, h7⟩
  cases q : sc.kind <;> first | rfl | (rw [q] at h1; cases h1)
/-! ### defaults -/
def dvD : He.Dv → D
  | .bl b => .bl b
  | .int i => .int i
  | .str x => .str x
  | _ => .non
def dvB : He.Dv → Bool
  | .non | .bl _ | .int _ | .str _ => true
  | _ => false
theorem dvs_rel {K : Fg} {g : List Addr} {H : Hp} : ∀ {ds : List He.Dv}, ds.all dvB = true → RDs K g H (ds.map dvD) (ds.map (He.Dv.v K))
  | [], _ => .nil
  | d :: ds, h => by
    rw [List.all_cons, Bool.and_eq_true] at h
    refine .cons ?_ (dvs_rel h.2)
    cases d <;> first | (cases h.1; done) | constructor
/-! ### the text -/
structure Txt where
  defs : List He.DefD
  consts : List (Str × D)
  frees : List Str
  xs : List XDef := []
  hots : List Str := []
  cls : List Str := []
def Txt.anc (T : Txt) : List (Str × List Str) := T.xs.map fun x => (x.name, x.anc)
def Txt.xflds (T : Txt) : List Str := (T.xs.flatMap (·.flds)).eraseDups
def findX : List XDef → Str → Option XDef
  | [], _ => none
  | d :: ds, x => if d.name = x then some d else findX ds x
def findD : List He.DefD → Str → Option He.DefD
  | [], _ => none
  | d :: ds, x => if d.name = x then some d else findD ds x
def Txt.top (T : Txt) (x : Str) : Option Gn := match findD T.defs x with
  | some d => if x ∈ T.hots then some (.hot (parsOf d.params)) else some (.fn (parsOf d.params) (d.dfl.map dvD))
  | none => match findX T.xs x with
    | some c => some (.exc c.flds)
    | none => match T.consts.lookup x with
      | some c => some (.const c)
      | none => if x ∈ T.frees then some .free else none
def Txt.cc (T : Txt) (d : He.DefD) : CC := { N := slotsOf d, sc := d.scope, fb := fun _ => true, top := T.top, anc := T.anc, cls := T.cls, xflds := T.xflds }
def Txt.ccH (T : Txt) (d : He.DefD) : CC := { T.cc d with hot := true, exn := (parsOf d.params).head? }
def Txt.fnOf (T : Txt) (d : He.DefD) : Fn := ⟨d.name, (parsOf d.params).length, (slotsOf d).length, d.dfl.map dvD, if d.name ∈ T.hots then cSs (cH fuel (T.ccH d)) d.body else cSs (cS fuel (T.cc d)) d.body⟩
def Txt.fns (T : Txt) : List Fn := T.defs.map T.fnOf
def defB (d : He.DefD) : Bool := decide (d.at_ = (d.name, none)) && plainP d.params (parsOf d.params) && scopeB (slotsOf d) (parsOf d.params) d.scope && (d.dfl.all dvB && decide (d.dfl.length ≤ (parsOf d.params).length)) && d.kwd.isEmpty
/-- a def that is handed an exception: one parameter at least, no defaults -/
def hotB (T : Txt) (d : He.DefD) : Bool := decide (d.name ∉ T.hots) || (!(parsOf d.params).isEmpty && d.dfl.isEmpty && decide (d.scope.names.lookup ((parsOf d.params).headD "") = some .local))
def Txt.inis (T : Txt) : List He.DefD := T.xs.map (·.ini)
def xdefB (x : XDef) : Bool := decide (x.ini.at_ = (x.name, some ("__init__" : Str))) && plainP x.ini.params (("self" : Str) :: x.flds) && scopeB (("self" : Str) :: x.flds) (("self" : Str) :: x.flds) x.ini.scope && (x.ini.dfl.isEmpty && x.ini.kwd.isEmpty && iniB x.base x.flds x.ini.body) &&
  (decide (x.ini.scope.names.lookup x.base = some .globalImplicit) && !odd x.base && (("self" : Str) :: x.flds).all fun f => decide (x.ini.scope.names.lookup f = some .local) && !odd f) && (decide (x.flds.length ≤ 100) && !x.flds.isEmpty)
def Txt.ok (T : Txt) : Bool := T.defs.all defB && (T.defs.all (hotB T) && T.xs.all xdefB)
def factC : Str × D → List He.Fa
  | (x, .int i) => [.int x i]
  | (x, .str z) => [.str x z]
  | _ => []
def constB : Str × D → Bool
  | (_, .int _) => true
  | (_, .str _) => true
  | _ => false
def Txt.fa (T : Txt) : List He.Fa := T.defs.map (fun d => .glo d.name) ++ (T.consts.flatMap factC ++ T.frees.map .free)
def Txt.fn (T : Txt) : List He.DefD := T.defs ++ T.inis
/-! ### the classes of exceptions, by the written part -/
def XDef.B (x : XDef) : String := if x.ve then "ValueError" else "LookupError"
def XDef.nw (x : XDef) : String := if x.ve then "ValueError.__new__" else "LookupError.__new__"
def XDef.iniB (x : XDef) : String := if x.ve then "ValueError.__init__" else "LookupError.__init__"
theorem XDef.base_ok (x : XDef) : BaseT x.B x.nw x.iniB := by
  unfold XDef.B XDef.nw XDef.iniB
  cases x.ve
  · exact base_le
  · exact base_ve
def isInit (K : Fg) (B0 : Addr) (i : String) : Bool := match PySem.W.findCls K (.ref B0) (.type "type") "__init__" with
  | some (.val (.builtin j)) => decide (j = i)
  | _ => false
def xB (K : Fg) (x : XDef) : Bool :=
  (He.eqO (PySem.W.nsIn K mainGlobals x.name) (some (some (.ref (He.ga K x.name)))) && PySem.W.excInitIn K (He.ga K x.name) (tailOf x.B) x.nw && PySem.W.hasDictIn K (He.ga K x.name)) &&
  (He.eqO (PySem.W.findIn K (.ref (He.ga K x.name)) "__setattr__") (some (some (.builtin "object.__setattr__"))) && decide (PySem.W.subIn K (.ref (He.ga K x.name)) (.type "BaseException") = some true) && decide (PySem.W.typeIn K (.ref (He.ga K x.name)) = some (.type "type")) && PySem.W.keepIn K (.ref (He.ga K x.name))) &&
  (He.eqO (PySem.W.nsIn K mainGlobals x.base) (some (some (.ref (He.ga K x.base)))) && He.eqO (PySem.W.specialIn K (.ref (He.ga K x.base)) "__getattribute__") (some (some (.builtin "type.__getattribute__"))) && decide (PySem.W.typeIn K (.ref (He.ga K x.base)) = some (.type "type")) && PySem.W.readsIn K (He.ga K x.base) (.type "type") && isInit K (He.ga K x.base) x.iniB) &&
  (He.eqO (PySem.W.findIn K (.ref (He.ga K x.name)) "__init__") (some (some (.ref (He.fAd K x.ini.at_)))) && decide (PySem.W.typeIn K (.ref (He.fAd K x.ini.at_)) = some (.type "function")) && x.flds.all fun f => He.eqO (PySem.W.findIn K (.ref (He.ga K x.name)) f) (some none))
def xcB (K : Fg) (fs : List Str) (C : Addr) : Bool :=
  (He.eqO (PySem.W.findIn K (.ref C) "__getattribute__") (some (some (.builtin "BaseException.__getattribute__"))) && He.eqO (PySem.W.findIn K (.ref C) "__getattr__") (some none) && decide (PySem.W.subIn K (.ref C) (.type "BaseException") = some true) && PySem.W.hasDictIn K C && (PySem.W.clsIn K C).isSome) &&
  (He.eqO (PySem.W.findIn K (.ref C) "__class__") (some (some (.builtin "object.__class__"))) && He.eqO (PySem.W.specialIn K (.builtin "object.__class__") "__get__") (some (some (.builtin "getset_descriptor.__get__"))) && decide (PySem.W.takesIn K (.builtin "object.__class__") = some true) && decide (PySem.W.mroIn K C (.type "object") = some true)) &&
  fs.all fun f => He.eqO (PySem.W.findIn K (.ref C) f) (some none)
def clV (K : Fg) (y : Str) : Value := match PySem.W.nsIn K mainGlobals y with
  | some (some v) => v
  | _ => if y = "ValueError" then .type "ValueError" else .type "LookupError"
def clB (K : Fg) (anc : List (Str × List Str)) (y : Str) : Bool :=
  (He.eqO (PySem.W.nsIn K mainGlobals y) (some (some (.ref (He.ga K y)))) || (He.eqO (PySem.W.nsIn K mainGlobals y) (some none) && (decide (y = "ValueError") || decide (y = "LookupError")))) &&
  anc.all fun p => decide (PySem.W.kitOne K (.ref (He.ga K p.1)) (clV K y) = some (decide (p.1 ∈ (anc.filter fun p => decide (y ∈ p.2)).map (·.1)))) && decide (PySem.W.exmOne K (.ref (He.ga K p.1)) (clV K y) = some (decide (p.1 ∈ (anc.filter fun p => decide (y ∈ p.2)).map (·.1))))
def Txt.xok (T : Txt) (K : Fg) : Bool := T.xs.all (xB K) && T.anc.all (fun p => xcB K T.xflds (He.ga K p.1)) && T.cls.all (clB K T.anc)
theorem findD_some {x : Str} {d : He.DefD} : ∀ {ds : List He.DefD}, findD ds x = some d → d ∈ ds ∧ d.name = x
  | [], h => nomatch h
  | e :: ds, h => by
    unfold findD at h
    split at h
    · cases h
      exact ⟨List.mem_cons_self, by assumption⟩
    · exact ⟨List.mem_cons_of_mem _ (findD_some h).1, (findD_some h).2⟩
theorem findFn_map {T : Txt} {x : Str} {d : He.DefD} : ∀ {ds : List He.DefD}, findD ds x = some d → findFn (ds.map T.fnOf) x = some (T.fnOf d)
  | [], h => nomatch h
  | e :: ds, h => by
    unfold findD at h
    rw [List.map_cons]
    unfold findFn
    split at h
    · rename_i q
      cases h
      exact if_pos q
    · rename_i q
      rw [if_neg (show ¬ (T.fnOf e).name = x from q)]
      exact findFn_map h
theorem says_fact {fa : List He.Fa} {fn : List He.DefD} {K : Fg} (c : He.SaysD fa fn K) {f : He.Fa} (h : f ∈ fa) : f.ok K = true := by
  obtain ⟨i, e⟩ := List.mem_iff_getElem?.mp h
  exact c.fact i e
theorem says_def {fa : List He.Fa} {fn : List He.DefD} {K : Fg} (c : He.SaysD fa fn K) {d : He.DefD} (h : d ∈ fn) : ∃ fd, FunD K d.name d.qual d.params d.body d.scope (d.dvs K) (d.kws K) (He.fAd K d.at_) fd := by
  obtain ⟨i, e⟩ := List.mem_iff_getElem?.mp h
  exact c.def_ i e
/-- what the heap says of the text -/
structure Txt.In (T : Txt) (K : Fg) (mg : Str → Option Value) : Prop where
  def_ : ∀ d ∈ T.defs, ∃ fd, FunD K d.name d.qual d.params d.body d.scope (d.dvs K) (d.kws K) (He.fAd K d.at_) fd
  glo : ∀ d ∈ T.defs, mg d.name = some (.ref (He.fAd K d.at_))
  const : ∀ x c, T.consts.lookup x = some c → ∃ v u, mg x = some u ∧ RelV v u ∧ ∀ g H, RD K g H c v
  free : ∀ x ∈ T.frees, mg x = none
  xini : ∀ x ∈ T.xs, ∃ fd, FunD K x.ini.name x.ini.qual x.ini.params x.ini.body x.ini.scope (x.ini.dvs K) (x.ini.kws K) (He.fAd K x.ini.at_) fd
  xok : T.xok K = true
  mgs : ∀ y v, PySem.W.nsIn K mainGlobals y = some (some v) → mg y = some v
  mgn : ∀ y, PySem.W.nsIn K mainGlobals y = some none → mg y = none
theorem lookup_mem {α : Type} {x : Str} {c : α} : ∀ {l : List (Str × α)}, l.lookup x = some c → (x, c) ∈ l := fun h => PySem.mem_of_lookup h
theorem Txt.in_ {T : Txt} {K : Fg} {h : Heap} {mg : Str → Option Value} (ok : T.ok = true) (okc : T.consts.all constB = true) (X : K.In h) (G : h.Ns mainGlobals mg) (c : He.SaysD T.fa T.fn K) (xk : T.xok K = true) : T.In K mg := by
  have ok : T.defs.all defB = true := (Bool.and_eq_true_iff.mp ok).1
  have at_ : ∀ d ∈ T.defs, d.at_ = (d.name, none) := fun d hd => by
    have := List.all_eq_true.mp ok d hd
    unfold defB at this
    simp only [Bool.and_eq_true, decide_eq_true_eq] at this
    exact this.1.1.1.1
  refine ⟨fun d hd => says_def c (List.mem_append_left _ hd), fun d hd => ?_, fun x k hk => ?_, fun x hx => ?_, fun x hx => says_def c (List.mem_append_right _ (List.mem_map.mpr ⟨x, hx, rfl⟩)), xk, fun y v e => PySem.W.mg_of X G e, fun y e => PySem.W.mg_none_of X G e⟩
  · have := He.glo_ok X G (says_fact c (f := .glo d.name) (List.mem_append_left _ (List.mem_map.mpr ⟨d, hd, rfl⟩)))
    rw [at_ d hd]
    exact this
  · have hm := lookup_mem hk
    have hc := List.all_eq_true.mp okc _ hm
    have hf : ∀ f ∈ factC (x, k), f.ok K = true := fun f hf => says_fact c (List.mem_append_right _ (List.mem_append_left _ (List.mem_flatMap.mpr ⟨_, hm, hf⟩)))
    cases k with
    | int i =>
      obtain ⟨t, e⟩ := He.int_ok X G (hf (.int x i) (List.mem_singleton.mpr rfl))
      exact ⟨.int i, _, e, ⟨t, rfl⟩, fun _ _ => .int i⟩
    | str z =>
      obtain ⟨t, e⟩ := He.str_ok X G (hf (.str x z) (List.mem_singleton.mpr rfl))
      exact ⟨.str z, _, e, ⟨t, rfl⟩, fun _ _ => .str z⟩
    | _ => cases hc
  · exact He.free_ok X G (says_fact c (List.mem_append_right _ (List.mem_append_right _ (List.mem_map.mpr ⟨x, hx, rfl⟩))))
/-! ### every def keeps its promise -/
theorem rs_start {K : Fg} {g : List Addr} {H : Hp} {xs : List D} {vs : List V} {n : Nat} {N : List Str} {f : Fn} (hf : f.slots = N.length) (h : RDs K g H xs vs) : RS K none g H (startE f xs) (L2.start N vs) := by
  unfold startE L2.start
  rw [hf, h.length]
  refine ⟨by simp [h.length], fun i x q _ => ?_, fun q hq => nomatch hq⟩
  by_cases hi : i < xs.length
  · rw [List.getElem?_append_left (by simpa using hi), List.getElem?_map] at q
    cases e : xs[i]? with
    | none => rw [e] at q; cases q
    | some y =>
      rw [e] at q
      cases q
      obtain ⟨v, h1, h2⟩ := h.get e
      have hv : i < vs.length := (List.getElem?_eq_some_iff.mp h1).1
      exact ⟨v, by rw [List.getElem?_append_left (by simpa using hv), List.getElem?_map, h1]; rfl, h2⟩
  · rw [List.getElem?_append_right (by simpa using hi), List.getElem?_replicate] at q
    split at q <;> cases q
theorem pos_of {K : Fg} {E : XK} {g : List Addr} {H : Hp} {Q : VK} {x : SR} (h : Po K (⟨fun c d _ H' => E c d H', none⟩ : WG) [] (repD K) H g H x.out Q) : PoS K (⟨fun c d _ H' => E c d H', none⟩ : WG) g H x { nx := fun _ H' => Q .non H', rt := Q } := by
  cases x with
  | ok f r m =>
    cases f with
    | nx => exact fun g' H' σ' e rl _ => h g' H' .non e rl .non
    | brk => exact (show False from h).elim
    | cont => exact (show False from h).elim
    | ret d => exact fun g' H' v e rl rp => h g' H' v e rl rp
  | err y r m => exact fun g' H' σ' c d e rl _ ea nw => h g' H' c d e rl ea nw
  | stuck => exact h
/-! ### the classes -/
section
variable {K : Fg}
theorem excIn_cls {C : Addr} {bmB : List Value} {nw : String} (q : PySem.W.excInitIn K C bmB nw = true) (hd : PySem.W.hasDictIn K C = true) : ∃ nm q N bs bm sn sub ab col dd k0 k1 k2 k3 k5, K.lookup C = some (excClassObj nm q C N bs bm true sn sub ab col dd k0 k1 k2 k3 k5 nw) ∧ PySem.W.excTail bmB bm = true := by
  unfold PySem.W.excInitIn at q
  split at q
  · rename_i dd cd sl ho
    split at q
    · rename_i C2 bm k0 k1 k2 k3 n k5 hm hs
      simp only [Bool.and_eq_true, beq_iff_eq, Bool.not_eq_true'] at q
      obtain ⟨⟨⟨rfl, rfl⟩, dl⟩, tl⟩ := q
      obtain ⟨nm, bs, mro, ns, qn, hdc, sn, sub, ab, col, del⟩ := cd
      dsimp only at hm dl
      subst hm dl
      have e : sl = #[k0, k1, k2, k3, some (.builtin n), k5] := by
        obtain ⟨l⟩ := sl
        simp only at hs
        rw [hs]
      subst e
      have e2 : hdc = true := by
        unfold PySem.W.hasDictIn PySem.W.clsIn at hd
        rw [ho] at hd
        exact hd
      subst e2
      exact ⟨nm, qn, ns, bs, bm, sn, sub, ab, col, dd, k0, k1, k2, k3, k5, ho, tl⟩
    · cases q
  · cases q
theorem isInit_ok {B0 : Addr} {i : String} (h : isInit K B0 i = true) : PySem.W.findCls K (.ref B0) (.type "type") "__init__" = some (.val (.builtin i)) := by
  unfold isInit at h
  split at h
  · rename_i j e
    rw [e, of_decide_eq_true h]
  · cases h
/-- what xB says -/
structure XB (K : Fg) (x : XDef) : Prop where
  glo : PySem.W.nsIn K mainGlobals x.name = some (some (.ref (He.ga K x.name)))
  ox : OxC K (He.ga K x.name) x.B x.nw x.iniB
  bglo : PySem.W.nsIn K mainGlobals x.base = some (some (.ref (He.ga K x.base)))
  base : BaseI K (He.ga K x.base) x.iniB
  iC : PySem.W.findIn K (.ref (He.ga K x.name)) "__init__" = some (some (.ref (He.fAd K x.ini.at_)))
  tI : PySem.W.typeIn K (.ref (He.fAd K x.ini.at_)) = some (.type "function")
  noat : ∀ f ∈ x.flds, PySem.W.findIn K (.ref (He.ga K x.name)) f = some none
theorem xB_ok {x : XDef} (h : xB K x = true) : XB K x := by
  unfold xB at h
  simp only [Bool.and_eq_true, decide_eq_true_eq, List.all_eq_true] at h
  obtain ⟨⟨⟨⟨⟨a1, a2⟩, a3⟩, ⟨⟨b1, b2⟩, b3⟩, b4⟩, ⟨⟨⟨c1, c2⟩, c3⟩, c4⟩, c5⟩, ⟨d1, d2⟩, d3⟩ := h
  exact ⟨He.eqO_ok a1, ⟨x.base_ok, excIn_cls a2 a3, He.eqO_ok b1, b2, b3, b4⟩, He.eqO_ok c1, ⟨He.eqO_ok c2, c3, c4, isInit_ok c5⟩, He.eqO_ok d1, d2, fun f hf => He.eqO_ok (d3 f hf)⟩
theorem xcB_ok {fs : List Str} {C : Addr} (h : xcB K fs C = true) : XcC K C ∧ ∀ f ∈ fs, PySem.W.findIn K (.ref C) f = some none := by
  unfold xcB at h
  simp only [Bool.and_eq_true, decide_eq_true_eq, List.all_eq_true] at h
  obtain ⟨⟨⟨⟨⟨⟨a1, a2⟩, a3⟩, a4⟩, a5⟩, ⟨⟨b1, b2⟩, b3⟩, b4⟩, c⟩ := h
  exact ⟨⟨He.eqO_ok a1, He.eqO_ok a2, a3, a4, a5, He.eqO_ok b1, He.eqO_ok b2, b3, b4⟩, fun f hf => He.eqO_ok (c f hf)⟩
theorem clB_ok {mg : Str → Option Value} (mgs : ∀ y v, PySem.W.nsIn K mainGlobals y = some (some v) → mg y = some v) (mgn : ∀ y, PySem.W.nsIn K mainGlobals y = some none → mg y = none) {anc : List (Str × List Str)} {y : Str} (h : clB K anc y = true) :
    ∃ (v : V) (cv : Value), ((mg y = some cv ∧ ∃ a, v = .ref a ∧ cv = .ref a) ∨ (mg y = none ∧ bootBuiltins y = some cv ∧ ∃ z : String, v = .ty z ∧ cv = .type z)) ∧ (∀ c ∈ anc.map (·.1), PySem.W.kitOne K (.ref (He.ga K c)) cv = some (decide (c ∈ (anc.filter fun p => decide (y ∈ p.2)).map (·.1)))) ∧
      ∀ c ∈ anc.map (·.1), PySem.W.exmOne K (.ref (He.ga K c)) cv = some (decide (c ∈ (anc.filter fun p => decide (y ∈ p.2)).map (·.1))) := by
  unfold clB at h
  simp only [Bool.and_eq_true, Bool.or_eq_true, decide_eq_true_eq, List.all_eq_true] at h
  obtain ⟨h1, h2⟩ := h
  have facts : (∀ c ∈ anc.map (·.1), PySem.W.kitOne K (.ref (He.ga K c)) (clV K y) = some (decide (c ∈ (anc.filter fun p => decide (y ∈ p.2)).map (·.1)))) ∧ ∀ c ∈ anc.map (·.1), PySem.W.exmOne K (.ref (He.ga K c)) (clV K y) = some (decide (c ∈ (anc.filter fun p => decide (y ∈ p.2)).map (·.1))) := by
    refine ⟨fun c hc => ?_, fun c hc => ?_⟩
    · obtain ⟨p, hp, rfl⟩ := List.mem_map.mp hc
      exact (h2 p hp).1
    · obtain ⟨p, hp, rfl⟩ := List.mem_map.mp hc
      exact (h2 p hp).2
  rcases h1 with h1 | ⟨h1, h3⟩
  · have e := He.eqO_ok h1
    have ev : clV K y = .ref (He.ga K y) := by unfold clV; rw [e]
    rw [ev] at facts
    exact ⟨.ref (He.ga K y), .ref (He.ga K y), .inl ⟨mgs _ _ e, _, rfl, rfl⟩, facts⟩
  · have e := He.eqO_ok h1
    rcases h3 with rfl | rfl
    · have ev : clV K "ValueError" = .type "ValueError" := by unfold clV; rw [e]; rfl
      rw [ev] at facts
      exact ⟨.ty "ValueError", .type "ValueError", .inr ⟨mgn _ e, by decide +kernel, _, rfl, rfl⟩, facts⟩
    · have ev : clV K "LookupError" = .type "LookupError" := by unfold clV; rw [e]; rfl
      rw [ev] at facts
      exact ⟨.ty "LookupError", .type "LookupError", .inr ⟨mgn _ e, by decide +kernel, _, rfl, rfl⟩, facts⟩
theorem findX_some {x : Str} {d : XDef} : ∀ {ds : List XDef}, findX ds x = some d → d ∈ ds ∧ d.name = x
  | [], h => nomatch h
  | e :: ds, h => by
    unfold findX at h
    split at h
    · cases h
      exact ⟨List.mem_cons_self, by assumption⟩
    · exact ⟨List.mem_cons_of_mem _ (findX_some h).1, (findX_some h).2⟩
theorem hand_ini (x : XDef) : PySem.W.handedIn (.builtin x.iniB) = true := by
  unfold XDef.iniB
  cases x.ve
  · exact (by decide +kernel : PySem.W.handedIn (.builtin "LookupError.__init__") = true)
  · exact (by decide +kernel : PySem.W.handedIn (.builtin "ValueError.__init__") = true)
/-- an __init__ keeps its promise -/
theorem ini_ok {P : Program} {w : World} {mg : Str → Option Value} {base : Heap} {x : XDef} (hx : xdefB x = true) (B : XB K x) (mgs : ∀ y v, PySem.W.nsIn K mainGlobals y = some (some v) → mg y = some v) {fd : FuncData} (F : FunD K x.ini.name x.ini.qual x.ini.params x.ini.body x.ini.scope (x.ini.dvs K) (x.ini.kws K) (He.fAd K x.ini.at_) fd) :
    FnOk P w K mg base (L2.CX P w) 1 (He.fAd K x.ini.at_) fd (("self" : Str) :: x.flds) (spI K (He.ga K x.name) x.B x.nw x.iniB x.flds) := by
  unfold xdefB at hx
  simp only [Bool.and_eq_true, decide_eq_true_eq, List.all_eq_true, Bool.not_eq_true'] at hx
  obtain ⟨⟨⟨⟨⟨h1, h2⟩, h3⟩, ⟨h4, h5⟩, h6⟩, ⟨h7, h8⟩, h9⟩, h10, h11⟩ := hx
  have S := scopeB_ok h3
  refine F.ok (k := 0) S (fun vs H Q E ⟨a, ys, ev, hy, _⟩ => by rw [ev]; simp [hy]) fun cdv A outer s H vs Q E room ⟨a, ys, ev, hy, ha, hst⟩ => ?_
  subst ev
  let X := cxOf (L2.CX P w) P w K mg base (("self" : Str) :: x.flds) x.ini.qual x.ini.scope (He.fAd K x.ini.at_) cdv A outer s H E
  cases hb : x.ini.body with
  | nil => rw [hb] at h6; cases h6
  | cons st rest =>
    rw [hb] at h6
    unfold iniB at h6
    split at h6
    · rename_i b pb m p2 z pz cst j pc pos pe rest' eq
      cases eq
      simp only [Bool.and_eq_true, decide_eq_true_eq] at h6
      obtain ⟨⟨⟨⟨rfl, rfl⟩, rfl⟩, hl⟩, hs⟩ := h6
      have o8 := odd_no (x := x.base) (by rw [h8]; exact Bool.false_ne_true)
      have hself := h9 "self" List.mem_cons_self
      have n0 : X.N[0]? = some ("self" : Str) := rfl
      have l0 : X.env.scope.names.lookup ("self" : Str) = some .local := hself.1
      have args : PA X [.Name "self" pz, .Constant (.str cst) j pc] (tCons (tVar 0) (tCons (tC (.str cst)) tNil)) := pa_cons (pe_var n0 (.inl l0)) (pa_cons pe_str pa_nil)
      have p1 : PE X (.Call (.Attribute (.Name x.base pb) "__init__" p2) [.Name "self" pz, .Constant (.str cst) j pc] [] pos) (tBI X.K x.B x.nw x.iniB _) :=
        pe_bi (X := X) B.base (hand_ini x) h7 (mgs _ _ B.bglo) args hl (fun y hy => by
          rcases List.mem_cons.mp hy with e | e
          · rw [e]; trivial
          · cases List.mem_singleton.mp e; trivial) (by simp) o8.1
      have p3 := stores_ok (X := X) (B := x.B) (nw := x.nw) (ini := x.iniB) n0 l0 x.flds rest 1 hs fun k f hk => by
        have hm : f ∈ ("self" : Str) :: x.flds := List.mem_cons_of_mem _ (List.mem_of_getElem? hk)
        obtain ⟨q1, q2⟩ := h9 f hm
        obtain ⟨o1, o2, _⟩ := odd_no (x := f) (by rw [q2]; exact Bool.false_ne_true)
        exact ⟨by show (("self" : Str) :: x.flds)[1 + k]? = _; rw [Nat.add_comm, List.getElem?_cons_succ]; exact hk, q1, o1, o2⟩
      refine ⟨_, pss_cons (ps_expr p1 (sw_other rfl)) p3, ?_⟩
      have s0 : (L2.start (("self" : Str) :: x.flds) (V.ref a :: ys))[0]? = some (some (.ref a)) := by
        unfold L2.start
        rfl
      refine ⟨.ref a, s0, a, He.ga K x.name, [.str cst], rfl, by simp, B.ox, ha, a, He.ga K x.name, ys, none, s0, hy, fun k y hk => ?_, B.ox, B.noat, h10, ha, hst⟩
      have hk' : k < ys.length := (List.getElem?_eq_some_iff.mp hk).1
      unfold L2.start
      rw [Nat.add_comm, List.getElem?_append_left (by simp; omega), List.getElem?_map, List.getElem?_cons_succ, hk]
      rfl
    · cases h6
end
/-- how a def of the text binds -/
theorem binds_of {K : Fg} {d2 : He.DefD} (hd2 : defB d2 = true) {fd2 : FuncData} (F2 : FunD K d2.name d2.qual d2.params d2.body d2.scope (d2.dvs K) (d2.kws K) (He.fAd K d2.at_) fd2) (j : Nat) (hj1 : j ≤ (parsOf d2.params).length) (hj2 : (parsOf d2.params).length ≤ j + (d2.dfl.map dvD).length) : BindN K fd2 (parsOf d2.params) (d2.dfl.map dvD) j := by
  unfold defB at hd2
  simp only [Bool.and_eq_true, decide_eq_true_eq, List.isEmpty_iff] at hd2
  obtain ⟨⟨⟨⟨k1, k2⟩, k3⟩, k4, k6⟩, k5⟩ := hd2
  have S2 := scopeB_ok k3
  have nd2 : (parsOf d2.params).Nodup := by rw [← S2.pre]; exact S2.nd.sublist (List.take_sublist _ _)
  rw [List.length_map] at hj2
  by_cases hz : d2.dfl = []
  · have hj : j = (parsOf d2.params).length := by rw [hz] at hj2; simp at hj2; omega
    subst hj
    have F3 : FunD K d2.name d2.qual d2.params d2.body d2.scope [] (d2.kws K) (He.fAd K d2.at_) fd2 := by
      have e : d2.dvs K = [] := by unfold He.DefD.dvs; rw [hz]; rfl
      rw [e] at F2
      exact F2
    refine ⟨[], [], fun s us _ hl => ?_, .nil, rfl, fun g H => ?_⟩
    · rw [List.append_nil]
      exact F3.bindsA (ps := parsOf d2.params) (fun kV doc pm an cdv ct us hl => bind_plain k2 nd2 hl) s us hl
    · rw [hz]
      simpa using RDs.nil
  · have hv : (d2.dvs K).length = d2.dfl.length := by unfold He.DefD.dvs; rw [List.length_map]
    have hd : d2.dvs K ≠ [] := fun e => hz (by
      rw [e] at hv
      exact List.eq_nil_of_length_eq_zero hv.symm)
    obtain ⟨ds, r1, r2⟩ := F2.binds1 (ps := parsOf d2.params) j (d2.dfl.length - ((parsOf d2.params).length - j)) hd (by rw [hv]; omega) fun T kV doc pm an cdv ct us its hu hi => by
      rw [hv] at hi
      obtain ⟨k, e1, e2⟩ := bind_dfl (x := d2.name) (qual := d2.qual) (params := d2.params) (body := d2.body) (scope := d2.scope) (kV := kV) (doc := doc) (pm := pm) (cdv := cdv) (ct := ct) (an := an) (T := T) (us := us) (its := its) k2 nd2 (by omega) (by omega) (by omega)
      refine ⟨k, e1, ?_⟩
      rw [e2, hi, hu]
    refine ⟨ds, _, fun s us hK hl => r2 s us hK ?_, r1, ?_, fun g H => ?_⟩
    · have := r1.length
      rw [List.length_drop, hv] at this
      rw [List.length_append, hl]
      omega
    · have := r1.length
      rw [List.length_drop, hv] at this
      omega
    · rw [List.length_map]
      exact (dvs_rel k4).drop _
/-- what a def's context has of the text, whatever the def -/
structure TxtAt (T : Txt) (X : Cx) (cf : CF) (k : Nat) : Prop where
  func : ∀ x ps dfl, T.top x = some (.fn ps dfl) → ∃ f, Callee X k x ps dfl f ∧ cf x = fun xs => (do
    chk (xs.length ≤ ps.length ∧ ps.length ≤ xs.length + dfl.length)
    f (filled ps.length dfl xs) : M D)
  hfun : ∀ x ps, T.top x = some (.hot ps) → ∃ f, CalleeH X k x ps (T.anc.map (·.1)) f ∧ cf x = fun xs => (do
    chk (xs.length ≤ ps.length ∧ ps.length ≤ xs.length)
    f xs : M D)
  const : ∀ x d, T.top x = some (.const d) → ∃ v u, X.mg x = some u ∧ RelV v u ∧ ∀ g H, RD X.K g H d v
  free : ∀ x, T.top x = some .free → X.mg x = none
  exc : ∀ x fs, T.top x = some (.exc fs) → RaiseOk X 1 x fs
  xc : ∀ c ∈ T.anc.map (·.1), XcC X.K (He.ga X.K c) ∧ ∀ f ∈ T.xflds, PySem.W.findIn X.K (.ref (He.ga X.K c)) f = some none
  cl : ∀ y ∈ T.cls, ∃ (v : V) (cv : Value), ((X.mg y = some cv ∧ ∃ a, v = .ref a ∧ cv = .ref a) ∨ (X.mg y = none ∧ bootBuiltins y = some cv ∧ ∃ z : String, v = .ty z ∧ cv = .type z)) ∧ (∀ c ∈ T.anc.map (·.1), PySem.W.kitOne X.K (.ref (He.ga X.K c)) cv = some (decide (c ∈ (T.anc.filter fun p => decide (y ∈ p.2)).map (·.1)))) ∧
    ∀ c ∈ T.anc.map (·.1), PySem.W.exmOne X.K (.ref (He.ga X.K c)) cv = some (decide (c ∈ (T.anc.filter fun p => decide (y ∈ p.2)).map (·.1)))
theorem txtAt {T : Txt} (ok : T.ok = true) (wf n k : Nat) {X : Cx} (I : T.In X.K X.mg)
    (h1 : ∀ d ∈ T.defs, d.name ∉ T.hots → ∀ fd, FunD X.K d.name d.qual d.params d.body d.scope (d.dvs X.K) (d.kws X.K) (He.fAd X.K d.at_) fd → FnG X.prog X.w X.K X.mg X.base k (He.fAd X.K d.at_) fd (parsOf d.params) (spOf X.K (parsOf d.params).length (bodyN T.fns wf n (T.fnOf d))))
    (h2 : ∀ d ∈ T.defs, d.name ∈ T.hots → ∀ fd, FunD X.K d.name d.qual d.params d.body d.scope (d.dvs X.K) (d.kws X.K) (He.fAd X.K d.at_) fd → FnHot X.prog X.w X.K X.mg X.base k (He.fAd X.K d.at_) fd (parsOf d.params) (T.anc.map (·.1)) (bodyN T.fns wf n (T.fnOf d))) :
    TxtAt T X (callOf T.fns (bodyN T.fns wf n)) k := by
  unfold Txt.ok at ok
  simp only [Bool.and_eq_true] at ok
  obtain ⟨ok1, ok2, ok3⟩ := ok
  have xk := I.xok
  unfold Txt.xok at xk
  simp only [Bool.and_eq_true, List.all_eq_true] at xk
  obtain ⟨⟨xk1, xk2⟩, xk3⟩ := xk
  refine { func := ?_, hfun := ?_, const := ?_, free := ?_, exc := ?_, xc := fun c hc => ?_, cl := fun y hy => clB_ok I.mgs I.mgn (xk3 y hy) }
  · intro x ps dfl ht
    unfold Txt.top at ht
    split at ht
    · rename_i d2 q2
      split at ht
      · cases ht
      · rename_i nh
        cases ht
        obtain ⟨hm, hn⟩ := findD_some q2
        have hd2 := List.all_eq_true.mp ok1 d2 hm
        obtain ⟨fd2, F2⟩ := I.def_ d2 hm
        refine ⟨bodyN T.fns wf n (T.fnOf d2), ⟨_, fd2, by rw [← hn]; exact I.glo d2 hm, F2.kp, h1 d2 hm (by rw [hn]; exact nh) fd2 F2, fun j hj1 hj2 => binds_of hd2 F2 j hj1 hj2⟩, ?_⟩
        show callOf T.fns (bodyN T.fns wf n) x = _
        unfold callOf Txt.fns
        rw [findFn_map q2]
        rfl
    · split at ht
      · cases ht
      · split at ht
        · cases ht
        · split at ht <;> cases ht
  · intro x ps ht
    unfold Txt.top at ht
    split at ht
    · rename_i d2 q2
      split at ht
      · rename_i ih
        cases ht
        obtain ⟨hm, hn⟩ := findD_some q2
        have hd2 := List.all_eq_true.mp ok1 d2 hm
        have hh2 := List.all_eq_true.mp ok2 d2 hm
        have e : d2.dfl = [] := by
          unfold hotB at hh2
          rw [hn] at hh2
          simp only [Bool.or_eq_true, decide_eq_true_eq, Bool.and_eq_true, List.isEmpty_iff] at hh2
          rcases hh2 with z | z
          · exact absurd ih z
          · exact z.1.2
        obtain ⟨fd2, F2⟩ := I.def_ d2 hm
        refine ⟨bodyN T.fns wf n (T.fnOf d2), ⟨_, fd2, by rw [← hn]; exact I.glo d2 hm, F2.kp, h2 d2 hm (by rw [hn]; exact ih) fd2 F2, fun s us hK hl => ?_⟩, ?_⟩
        · obtain ⟨ds, dvs, b1, b2, b3, _⟩ := (binds_of hd2 F2 (parsOf d2.params).length (Nat.le_refl _) (by omega)).ex
          have : ds = [] := List.eq_nil_of_length_eq_zero (by omega)
          subst this
          have := b1 s us hK hl
          rw [List.append_nil] at this
          exact this
        · show callOf T.fns (bodyN T.fns wf n) x = _
          unfold callOf Txt.fns
          rw [findFn_map q2]
          funext xs
          show (chk (xs.length ≤ (parsOf d2.params).length ∧ (parsOf d2.params).length ≤ xs.length + (d2.dfl.map dvD).length) >>= fun _ => bodyN T.fns wf n (T.fnOf d2) (filled (parsOf d2.params).length (d2.dfl.map dvD) xs)) = _
          rw [e]
          simp [filled]
          rfl
      · cases ht
    · split at ht
      · cases ht
      · split at ht
        · cases ht
        · split at ht <;> cases ht
  · intro x c ht
    unfold Txt.top at ht
    split at ht
    · split at ht <;> cases ht
    · split at ht
      · cases ht
      · split at ht
        · rename_i q
          cases ht
          exact I.const x _ q
        · split at ht <;> cases ht
  · intro x ht
    unfold Txt.top at ht
    split at ht
    · split at ht <;> cases ht
    · split at ht
      · cases ht
      · split at ht
        · cases ht
        · split at ht
          · rename_i q
            exact I.free x q
          · cases ht
  · intro x fs ht
    unfold Txt.top at ht
    split at ht
    · split at ht <;> cases ht
    · split at ht
      · rename_i d2 q2
        cases ht
        obtain ⟨hm, hn⟩ := findX_some q2
        subst hn
        have hx := List.all_eq_true.mp ok3 d2 hm
        have B := xB_ok (xk1 d2 hm)
        obtain ⟨fd, F⟩ := I.xini d2 hm
        have hx' := hx
        unfold xdefB at hx
        simp only [Bool.and_eq_true, decide_eq_true_eq, List.all_eq_true, Bool.not_eq_true', List.isEmpty_iff] at hx
        obtain ⟨⟨⟨⟨⟨g1, g2⟩, g3⟩, ⟨g4, g5⟩, g6⟩, ⟨g7, g8⟩, g9⟩, g10, g11⟩ := hx
        have S := scopeB_ok g3
        have nd := S.nd
        refine ⟨⟨_, _, fd, d2.B, d2.nw, d2.iniB, rfl, I.mgs _ _ B.glo, B.ox, B.iC, B.tI, ini_ok hx' B I.mgs F, ?_⟩, g10, (List.nodup_cons.mp nd).2, fun z => by rw [z] at g11; cases g11⟩
        have F3 : FunD X.K d2.ini.name d2.ini.qual d2.ini.params d2.ini.body d2.ini.scope [] (d2.ini.kws X.K) (He.fAd X.K d2.ini.at_) fd := by
          have e : d2.ini.dvs X.K = [] := by unfold He.DefD.dvs; rw [g4]; rfl
          rw [e] at F
          exact F
        exact F3.bindsN fun kV doc pm an cdv ct us hl => bind_plain g2 nd hl
      · split at ht
        · cases ht
        · split at ht <;> cases ht
  · obtain ⟨p, hp, rfl⟩ := List.mem_map.mp hc
    exact xcB_ok (xk2 p hp)
theorem Txt.runs {T : Txt} (ok : T.ok = true) (wf : Nat) {P : Program} {w : World} {K : Fg} {mg : Str → Option Value} (I : T.In K mg) (base : Heap) : ∀ (n : Nat),
    (∀ d ∈ T.defs, d.name ∉ T.hots → ∀ fd, FunD K d.name d.qual d.params d.body d.scope (d.dvs K) (d.kws K) (He.fAd K d.at_) fd → FnG P w K mg base (n + 2) (He.fAd K d.at_) fd (parsOf d.params) (spOf K (parsOf d.params).length (bodyN T.fns wf n (T.fnOf d)))) ∧
    ∀ d ∈ T.defs, d.name ∈ T.hots → ∀ fd, FunD K d.name d.qual d.params d.body d.scope (d.dvs K) (d.kws K) (He.fAd K d.at_) fd → FnHot P w K mg base (n + 2) (He.fAd K d.at_) fd (parsOf d.params) (T.anc.map (·.1)) (bodyN T.fns wf n (T.fnOf d)) := by
  have okd : T.defs.all defB = true := by
    unfold Txt.ok at ok
    exact (Bool.and_eq_true_iff.mp ok).1
  have okh : T.defs.all (hotB T) = true := by
    unfold Txt.ok at ok
    exact (Bool.and_eq_true_iff.mp (Bool.and_eq_true_iff.mp ok).2).1
  intro n
  induction n with
  | zero =>
    refine ⟨fun d hd _ fd F => ⟨fun vs H Q E h => h.1, fun A outer s H args us vs Q E _ _ _ _ _ h => ?_⟩, fun d hd _ fd F => ⟨fun A outer s H args us vs Q p _ _ _ _ _ _ h => ?_⟩⟩
    · obtain ⟨_, xs, m, g, _, _, po⟩ := h
      rw [bodyN_zero] at po
      exact (show False from po).elim
    · obtain ⟨_, c, dd, j, ys, xs, m, g, _, _, _, _, _, _, _, po⟩ := h
      rw [bodyN_zero] at po
      exact (show False from po).elim
  | succ n ih =>
    obtain ⟨ih1, ih2⟩ := ih
    refine ⟨fun d hd nh fd F => ?_, fun d hd hh fd F => ?_⟩
    · have hd' := List.all_eq_true.mp okd d hd
      unfold defB at hd'
      simp only [Bool.and_eq_true, decide_eq_true_eq] at hd'
      obtain ⟨⟨⟨⟨h1, h2⟩, h3⟩, h4, _⟩, h5⟩ := hd'
      have S := scopeB_ok h3
      refine fnG_of (k := n + 2) F S (fun vs H Q E h => h.1) fun cdv A outer s H vs Q E room gu sp => ?_
      obtain ⟨hl, xs, m, g, rx, rl, po⟩ := sp
      rw [bodyN_succ] at po
      let X := cxOf (L2.CX P w) P w K mg base (slotsOf d) d.qual d.scope (He.fAd K d.at_) cdv A outer s H E
      let cf : CF := callOf T.fns (bodyN T.fns wf n)
      have t : TxtAt T X cf (n + 2) := txtAt (X := X) ok wf n (n + 2) I ih1 ih2
      have c : SOk X (⟨fun cls d _ H' => E cls d H', none⟩ : WG) (T.cc d) cf (n + 2) :=
        { N := rfl, sc := rfl, calm := fun _ => rfl, gn := fun _ => ⟨rfl, rfl⟩, hw := (fun h => nomatch h), k2 := by omega, gx := (fun q hq => nomatch hq), xg := (fun x hx => nomatch hx), xc := t.xc, cl := t.cl, exc := t.exc, hfun := t.hfun, nd := S.nd, un := room.units, gu := gu
          tk := takes_of (X := X) rfl rfl rfl rfl, room := fun _ => room, roomH := L2H.roomH_of room, fn := fun _ _ _ => rfl, func := t.func, const := t.const, free := t.free, kind := S.kind, cold := rfl, hst := rfl, hfr := rfl
          hp := passes_of (X := X) (K := fun e s'' => L2.CX P w outer H s E e s'') (E₁ := fun e' s'' => L2.CX P w outer H s E e' s'') rfl }
      refine ⟨_, ss_ok fun st _ => s_ok (wf := wf) fuel c st, ?_⟩
      have eb : (T.fnOf d).body = cSs (cS fuel (T.cc d)) d.body := if_neg nh
      refine ⟨startE (T.fnOf d) xs, m, g, rs_start (n := 0) rfl rx, rl, ?_⟩
      rw [← eb]
      exact pos_of po
    · have hd' := List.all_eq_true.mp okd d hd
      unfold defB at hd'
      simp only [Bool.and_eq_true, decide_eq_true_eq] at hd'
      obtain ⟨⟨⟨⟨h1, h2⟩, h3⟩, h4, _⟩, h5⟩ := hd'
      have S := scopeB_ok h3
      have hb := List.all_eq_true.mp okh d hd
      unfold hotB at hb
      simp only [Bool.or_eq_true, decide_eq_true_eq, Bool.and_eq_true, Bool.not_eq_true'] at hb
      rcases hb with hb | hb
      · exact absurd hh hb
      · obtain ⟨⟨hb1, hb2⟩, hb3⟩ := hb
        obtain ⟨x0, r0, e0⟩ : ∃ x0 r0, parsOf d.params = x0 :: r0 := by
          cases e : parsOf d.params with
          | nil => rw [e] at hb1; cases hb1
          | cons x r => exact ⟨x, r, rfl⟩
        refine fnHot_of (k := n + 2) F S fun cdv A outer s H vs Q p room gu sp => ?_
        obtain ⟨hl, cN, dd, j, ys, xs, m, g, ev, hz, hf, hc, ej, rx, rl, po⟩ := sp
        subst ev
        rw [bodyN_succ] at po
        let X := L2H.cxH (L2.CX P w) P w K mg base (slotsOf d) d.qual d.scope (He.fAd K d.at_) cdv A outer s H (fun _ _ _ => False) p
        let cf : CF := callOf T.fns (bodyN T.fns wf n)
        have t : TxtAt T X cf (n + 2) := txtAt (X := X) ok wf n (n + 2) I ih1 ih2
        have N0 : (slotsOf d)[0]? = some x0 := by
          have z := S.pre
          rw [e0] at z
          have := congrArg (·[0]?) z
          simp only [List.length_cons, List.getElem?_take] at this
          simpa using this
        have c : COk X (⟨fun _ _ _ _ => False, some ⟨p.1, dd, cN, 0⟩⟩ : WG) (T.ccH d) cf (n + 2) :=
          { N := rfl, sc := rfl, calm := (fun h => nomatch h), gn := (fun h => nomatch h), hw := (fun _ _ _ _ _ h => h), k2 := by omega
            gx := fun q hq => by
              cases hq
              refine ⟨x0, ?_, N0, ⟨p.2, List.mem_cons_self, hz, hf⟩, hc⟩
              show (parsOf d.params).head? = _
              rw [e0]
              rfl
            xg := fun x hx => ⟨_, rfl⟩, xc := t.xc, cl := t.cl, exc := t.exc, hfun := t.hfun, nd := S.nd, un := Nat.lt_of_le_of_lt (Nat.add_le_add_left (show 64 ≤ 16 * (n + 2) + 200 by omega) _) (by have := room.un; rw [Nat.add_assoc] at this; exact this), gu := gu
            tk := takes0, room := (fun h => nomatch h), roomH := room, fn := fun _ _ _ => rfl, func := t.func, const := t.const, free := t.free }
        refine ⟨_, ss_ok fun st _ => h_ok (wf := wf) fuel c st, ?_⟩
        have eb : (T.fnOf d).body = cSs (cH fuel (T.ccH d)) d.body := if_pos hh
        refine ⟨startE (T.fnOf d) (.tup [.str cN, .ref j] :: xs), m, g, ?_, rl, ?_⟩
        · have rr : RDs K g H xs ys := rx
          unfold startE L2.start
          rw [show (T.fnOf d).slots = (slotsOf d).length from rfl]
          refine ⟨by simp [rr.length], fun i x q nq => ?_, fun q hq x hx => ?_⟩
          · cases i with
            | zero => exact absurd rfl (nq _ rfl)
            | succ i =>
              simp only [List.map_cons, List.cons_append, List.getElem?_cons_succ] at q ⊢
              by_cases hi : i < xs.length
              · rw [List.getElem?_append_left (by simpa using hi), List.getElem?_map] at q
                cases e : xs[i]? with
                | none => rw [e] at q; cases q
                | some y =>
                  rw [e] at q
                  cases q
                  obtain ⟨v, k1, k2⟩ := rr.get e
                  have hv : i < ys.length := (List.getElem?_eq_some_iff.mp k1).1
                  exact ⟨v, by rw [List.getElem?_append_left (by simpa using hv), List.getElem?_map, k1]; rfl, k2⟩
              · rw [List.getElem?_append_right (by simpa using hi), List.getElem?_replicate] at q
                split at q <;> cases q
          · cases hq
            simp at hx
            subst hx
            exact ⟨rfl, j, rfl, ej⟩
        · rw [← eb]
          have po' : Po K (⟨fun _ _ _ _ => False, none⟩ : WG) [] (repD K) H g H (exS (callOf T.fns (bodyN T.fns wf n)) wf (T.fnOf d).body (startE (T.fnOf d) (.tup [.str cN, .ref j] :: xs)) m).out Q := po
          cases hx : exS (callOf T.fns (bodyN T.fns wf n)) wf (T.fnOf d).body (startE (T.fnOf d) (.tup [.str cN, .ref j] :: xs)) m with
          | ok f r m =>
            rw [hx] at po'
            cases f with
            | nx => exact fun g' H' σ' e rl _ => po' g' H' .non e rl .non
            | brk => exact (show False from po').elim
            | cont => exact (show False from po').elim
            | ret d => exact fun g' H' v e rl rp => po' g' H' v e rl rp
          | err y r m =>
            rw [hx] at po'
            exact fun g' H' σ' c d e rl _ ea nw => po' g' H' c d e rl ea nw
          | stuck => rw [hx] at po'; exact po'
end Pf

/-! Pf16: the end of a law's row. -/
namespace Pf
open PySem L2 PyProof.Rows
/-! ### the Hook: no list stands in the module -/
def noListB (K : Fg) : Bool := K.all fun p => match p.2.cls with
  | .type c => decide (c ≠ "list")
  | _ => true
theorem look_mem {β : Type} {a : Addr} {o : β} : ∀ {l : List (Addr × β)}, l.lookup a = some o → (a, o) ∈ l
  | [], h => nomatch h
  | (b, u) :: l, h => by
    rw [List.lookup_cons] at h
    split at h
    · rename_i q
      cases h
      rw [beq_iff_eq.mp q]
      exact List.mem_cons_self
    · exact List.mem_cons_of_mem _ (look_mem h)
theorem noListB_ok {K : Fg} (h : noListB K = true) {a : Addr} {o : Obj} (e : K.lookup a = some o) : o.cls ≠ .type "list" := fun z => by
  have := List.all_eq_true.mp h (a, o) (look_mem e)
  simp only [z] at this
  revert this
  decide
abbrev AlL : Type := He.AlD × Bool
def obsL (T : Txt) (K : Fg) : AlL := (He.obsD T.fa T.fn K, noListB K && T.xok K)
def obsLG (n : Nat) (T : Txt) (g : Addr → Option Obj) : AlL := obsL T (He.frG g (cStatics :: He.asD g n))
def hookL (n : Nat) (T : Txt) : PySem.W.Hook where
  α := AlL
  obs := fun s => obsLG n T s.heap.get?
  val := fun _ => (He.valD T.fn, true)
  says := fun _ h => ∃ K : Fg, K.In h ∧ He.SaysD T.fa T.fn K ∧ (noListB K && T.xok K) = true
  of := fun _ _ e => ⟨_, He.frG_in, congrArg (fun z : AlL => z.1) e, congrArg (fun z : AlL => z.2) e⟩
  keeps := fun _ _ _ ⟨K, hK, c⟩ k => ⟨K, PySem.W.Frag.In.keeps hK k, c⟩
theorem obsLG_eq {n : Nat} {T : Txt} {g : Addr → Option Obj} {s : Shared} (h : ∀ a, g a = s.heap.get? a) : obsLG n T g = (hookL n T).obs s := by
  have e : g = s.heap.get? := funext h
  rw [e] <;> rfl
/-! ### the law's call, at the heap behind the top -/
theorem top_call {P : Program} {w : World} {K : Fg} {mg mb : Str → Option Value} {k : Nat} {fa a : Addr} {fd : FuncData} {x : Str} {sp : Sp} {s₁ : Shared} {vs : List Value} {ns : List Int}
    (KX : K.In s₁.heap) (hns : s₁.heap.Ns mainGlobals mg) (hb : s₁.heap.Ns builtinsNs mb) (hbb : ∀ x : Str, x ≠ "__name__" → mb x = bootBuiltins x) (hlim : s₁.heap.NoLimit) (hg : s₁.gens = #[])
    (ha : s₁.heap.get? a = some { cls := .type "list", data := .seq vs.toArray }) (hi : IntsAre vs ns) (hl : ns.length ≤ sizeLine) (hr : Room k callerA) (hk : K.lookup a = none)
    (F : ∀ base : Heap, FnG P w K mg base k fa fd [x] sp) (hbind : ∀ (s : Shared) (u : Value), BindsTo s fd ⟨[u], []⟩ [(x, u)])
    (hsp : ∀ (H : Hp) (o : Obj), (∀ b, b ≠ a → H b = none) → H a = some (.frz o (.lst (ns.map V.int))) → sp [.ref a] H (fun v _ => v = .bl true) fun _ _ _ => False) :
    codeAny (model P w) callerA (.call (.ref fa) ⟨[.ref a], []⟩) (fun r s' => r = .ok (.ret (.bool true)) ∧ OldK s₁.heap s'.heap ∧ s'.os = s₁.os ∧ AllBare s'.gens) s₁ := by
  have rv := vals_ints hi
  have lenV := hi.length
  obtain ⟨H, hH⟩ : ∃ H : Hp, H = fun b => if b = a then some (.frz { cls := .type "list", data := .seq vs.toArray } (.lst (ns.map V.int))) else none := ⟨_, rfl⟩
  have Ha : H a = some (.frz { cls := .type "list", data := .seq vs.toArray } (.lst (ns.map V.int))) := by rw [hH]; exact if_pos rfl
  have Hn : ∀ b, b ≠ a → H b = none := fun b hb => by rw [hH]; exact if_neg hb
  have hok : HOk P w H s₁.heap := fun b u z => by
    by_cases hb : b = a
    · subst hb
      rw [Ha] at z
      cases z
      exact ⟨ha, by rw [List.length_map]; exact hl, vs, _, rv, ha⟩
    · rw [Hn b hb] at z
      cases z
  have base_of : ∀ {b : Addr} {o : Obj}, s₁.heap.get? b = some o → H b = none → (hidT s₁.heap H).get? b = some o := fun e n => hidT_get e n
  have noA : ∀ {b : Addr} {o : Obj} {es : Array DictEntry} {ep : Nat}, s₁.heap.get? b = some o → o.data = .dict es ep → H b = none := fun {b o es ep} e d => by
    by_cases hb : b = a
    · subst hb
      rw [ha] at e
      cases e
      have d' : Data.seq vs.toArray _ = Data.dict es ep := d
      cases d'
    · exact Hn b hb
  have nsK : ∀ {b : Addr} {m : Str → Option Value}, s₁.heap.Ns b m → (hidT s₁.heap H).Ns b m := fun {b m} ⟨o, es, ep, e, d, r⟩ => ⟨o, es, ep, base_of e (noA e d), d, r⟩
  have hKb : K.In (hidT s₁.heap H) := fun b o e => base_of (KX b o e) (Hn b fun z => by rw [z, hk] at e; cases e)
  have hM : Mod K mg (hidT s₁.heap H) := ⟨hKb, nsK hns, ⟨mb, nsK hb, hbb⟩, let ⟨mc, h1, h2⟩ := hlim; ⟨mc, nsK h1, h2⟩⟩
  have e0 : Env0 P w K mg (hidT s₁.heap H) callerA [] s₁ H := ⟨rfl, hM, fun b o e => of_hidT e, Nat.le_of_eq (hidT_size _ _), trivial, fun b hb => absurd (show b ∈ ([] : List Addr) from hb) (by simp), hok, .of_eq hg⟩
  refine codeAny_mono ((F _).run callerA [] s₁ H ⟨[.ref a], []⟩ [.ref a] [.ref a] _ _ hr rfl e0 (hbind s₁ (.ref a)) (.cons rfl .nil) (hsp H _ Hn Ha)) fun r s' h => ?_
  cases r with
  | error e =>
    obtain ⟨_, _, _, _, _, _, _, _, _, _, _, _, z⟩ := (show L2.CX P w [] H s₁ (fun _ _ _ => False) e s' from h)
    exact z.elim
  | ok fl =>
    cases fl with
    | next => exact False.elim h
    | brk => exact False.elim h
    | cont => exact False.elim h
    | ret u =>
      obtain ⟨v, H', os, bare, un, hok', r', q⟩ := h
      have q' : v = .bl true := q
      subst q'
      obtain rfl : u = Value.bool true := r'
      refine ⟨rfl, OldK.of_keep fun b o e => ?_, os, bare⟩
      by_cases hb : b = a
      · subst hb
        have z2 := un.frzs b _ _ Ha
        obtain ⟨e1, _⟩ := hok b _ Ha
        obtain ⟨e2, _⟩ := hok' b _ z2
        rw [e] at e1
        cases e1
        exact e2
      · exact un.keep b o e (Hn b hb) (fun z => absurd (show b ∈ ([] : List Addr) from z) (by simp)) (by simp)
/-- a law's promise, in plain data -/
def Txt.Law (T : Txt) (law : He.DefD) (wf N n : Nat) : Prop := ∀ ns : List Int, ns.length ≤ n → ∃ m, bodyN T.fns wf N (T.fnOf law) [.ref 0] [.frz (ns.map .int)] = .ok (.bl true) m
/-- the goal that the head leaves -/
theorem Txt.walk {T : Txt} {law : He.DefD} {l : PySem.W.OpenLaw} {n N wf j : Nat} {x : Str} {q : Program} {loose : List Str} {XP : (Str → Option Value) → Heap → Prop} {d : DefRec} (ok : T.ok = true) (okc : T.consts.all constB = true) (hl : T.defs[j]? = some law) (hp : parsOf law.params = [x])
    (hn : l.most = some n) (hn2 : n ≤ sizeLine) (hld : law.dfl = []) (hdf : d.params.defaults = []) (hr : Room (N + 2) callerA) (hd : d.name = law.name) (hh : law.name ∉ T.hots) (plain : T.Law law wf N n) :
    PySem.W.WalkO q loose XP (hookL 4 T).says l.row.toRowW d [] (fun f vs => PySem.call f vs) := by
  refine Att.attach_call hn hdf fun w s₀ s₁ mg mb fa o pm cd doc a vs ns G Y ho hd' hcd hmg hobj hints hlen hg => ?_
  obtain ⟨K, KX, c, nlx⟩ := Y
  obtain ⟨nl, xk⟩ := Bool.and_eq_true_iff.mp nlx
  have hm := List.mem_of_getElem? hl
  have I := T.in_ ok okc KX G.T.g c xk
  obtain ⟨fd, F⟩ := I.def_ law hm
  have e : fa = He.fAd K law.at_ := by
    have h1 := I.glo law hm
    rw [← hd, hmg] at h1
    cases h1
    rfl
  subst e
  have k1 := List.all_eq_true.mp (Bool.and_eq_true_iff.mp ok).1 law hm
  unfold defB at k1
  simp only [Bool.and_eq_true, decide_eq_true_eq, List.isEmpty_iff] at k1
  obtain ⟨⟨⟨⟨k1, k2⟩, k3⟩, k4, _⟩, k5⟩ := k1
  have S := scopeB_ok k3
  have nd : (parsOf law.params).Nodup := by rw [← S.pre]; exact S.nd.sublist (List.take_sublist _ _)
  have R := T.runs ok wf (P := l.prog) (w := w) I
  rw [hp] at k2 nd
  have F3 : FunD K law.name law.qual law.params law.body law.scope [] (law.kws K) (He.fAd K law.at_) fd := by
    have e : law.dvs K = [] := by unfold He.DefD.dvs; rw [hld]; rfl
    rw [e] at F
    exact F
  have b := F3.bindsA (ps := [x]) fun kV doc pm an cdv ct us hl => bind_plain k2 nd hl
  refine top_call (K := K) (mg := mg) (mb := mb) (k := N + 2) (x := x) (sp := spOf K 1 (bodyN T.fns wf N (T.fnOf law))) KX G.T.g G.T.b G.T.builtins G.T.nolimit hg hobj hints (Nat.le_trans hlen hn2) hr ?_ (fun base => ?_) (fun s v => b s [v] rfl) fun H o Hn Ha => ?_
  · cases q : K.lookup a with
    | none => rfl
    | some o =>
      have e := KX a o q
      rw [hobj] at e
      cases e
      exact absurd rfl (noListB_ok nl q)
  · have := (R base N).1 law hm hh fd F
    rw [hp] at this
    exact this
  · obtain ⟨m, hm⟩ := plain ns hlen
    have rint : ∀ (ns : List Int) (g : List Addr), RDs K g H (ns.map .int) (ns.map V.int) := fun ns g => by
      induction ns with
      | nil => exact .nil
      | cons i r ih => exact .cons (.int i) ih
    refine ⟨rfl, [.ref 0], [.frz (ns.map .int)], [a], .cons (.ref rfl) .nil, ⟨rfl, by simp, fun h c b h1 h2 => ?_⟩, ?_⟩
    · cases h with
      | zero =>
        simp at h1 h2
        subst h1 h2
        exact ⟨o, _, Ha, rint ns _⟩
      | succ h => simp at h1
    · rw [hm]
      intro g' H' v _ _ rp
      cases rp
      rfl
end Pf

/-! Pf17: the text of a program. -/
namespace Pf
open PySem L2
def dvOf : Expr → Option He.Dv
  | .Constant (.int i) _ _ => some (.int i)
  | .Constant (.str x) _ _ => some (.str x)
  | .Constant (.bool b) _ _ => some (.bl b)
  | .Constant .none _ _ => some .non
  | _ => none
def dvsOf : List Expr → Option (List He.Dv)
  | [] => some []
  | e :: es => match dvOf e, dvsOf es with
    | some d, some ds => some (d :: ds)
    | _, _ => none
def defOfS : Stmt → Option He.DefD
  | .FunctionDef x a b _ _ _ sc _ _ _ => (dvsOf a.defaults).map fun ds => ⟨(x, none), x, x, a, b, sc, ds, []⟩
  | _ => none
def constOfS : Stmt → Option (Str × D)
  | .Assign [.Name x _] (.Constant (.int i) _ _) _ => some (x, .int i)
  | .Assign [.Name x _] (.Constant (.str z) _ _) _ => if x = "__name__" then none else some (x, .str z)
  | _ => none
def bins : List Str := ["len", "max", "min", "sum", "all", "any", "tuple", "list", "repr", "int", "range", "enumerate", "zip", "sorted", "isinstance", "bool", "str", "dict", "set", "reversed"]
/-! ### classes of exceptions -/
def iniOf (c : Str) : Stmt → Option He.DefD
  | .FunctionDef x a b _ _ _ sc _ _ _ => if x = "__init__" then (dvsOf a.defaults).map fun ds => ⟨(c, some ("__init__" : Str)), "__init__", c ++ ".__init__", a, b, sc, ds, []⟩ else none
  | _ => none
def baseOf : Stmt → Option (Str × Str)
  | .ClassDef x [.Name b _] [] _ _ _ _ _ _ _ _ => some (x, b)
  | _ => none
def chainOf (t : List (Str × Str)) : Nat → Str → List Str
  | 0, x => [x]
  | n + 1, x => x :: (match t.lookup x with
    | some b => chainOf t n b
    | none => [])
def xdefOf (t : List (Str × Str)) : Stmt → Option XDef
  | .ClassDef x [.Name b _] [] [s] _ _ _ _ _ _ _ => (iniOf x s).bind fun d =>
    let anc := chainOf t 6 x
    if anc.contains "ValueError" then some ⟨x, b, true, anc, (parsOf d.params).tail, d⟩ else if anc.contains "LookupError" then some ⟨x, b, false, anc, (parsOf d.params).tail, d⟩ else none
  | _ => none
/-- a def that is handed a caught exception -/
def isHot (d : He.DefD) : Bool := decide ((parsOf d.params).head? = some "_law_e")
def Txt.of (p : Program) : Txt :=
  let ds := p.main.body.filterMap defOfS
  let cs := p.main.body.filterMap constOfS
  ⟨ds, cs, bins.filter fun x => !(ds.any fun d => decide (d.name = x)) && !(cs.any fun c => decide (c.1 = x)), p.main.body.filterMap (xdefOf (p.main.body.filterMap baseOf)), (ds.filter isHot).map (·.name),
    (p.main.body.filterMap baseOf).filterMap (fun q => if (chainOf (p.main.body.filterMap baseOf) 6 q.1).any (fun y => decide (y = "ValueError") || decide (y = "LookupError")) then some q.1 else none) ++ [("ValueError" : Str), "LookupError"]⟩
end Pf

/-! Pf18: what a run ends in: rules for the small language. -/
namespace Pf
open PySem
/-! ### ends -/
class Cont (α : Type) where
  k : α → Store → Prop
class Cont4 where
  N : Env → Store → Prop
  R : D → Store → Prop
  B : Env → Store → Prop
  C : Env → Store → Prop
/-- what is wished of exceptions: none may come, where nothing is told -/
class ErrK where
  e : Exc → Store → Prop
class ErrS where
  e : Exc → Env → Store → Prop
instance noErrK : ErrK := ⟨fun _ _ => False⟩
/-- a def's wish, a statement's wish -/
abbrev ErrK.up (E : ErrK) : ErrS := ⟨fun e _ m => E.e e m⟩
instance noErrS : ErrS := noErrK.up
@[simp ↓] theorem up_e {E : ErrK} {e : Exc} {r : Env} {m : Store} : ErrS.e (self := E.up) e r m ↔ E.e e m := Iff.rfl
abbrev ErrS.at (E : ErrS) (r : Env) : ErrK := ⟨fun e m => E.e e r m⟩
@[simp ↓] theorem at_e {E : ErrS} {e : Exc} {r : Env} {m : Store} : ErrK.e (self := E.at r) e m ↔ E.e e r m := Iff.rfl
@[simp ↓] theorem mkS_e {f : Exc → Env → Store → Prop} {e : Exc} {r : Env} {m : Store} : ErrS.e (self := ⟨f⟩) e r m ↔ f e r m := Iff.rfl
@[simp ↓] theorem mkK_e {f : Exc → Store → Prop} {e : Exc} {m : Store} : ErrK.e (self := ⟨f⟩) e m ↔ f e m := Iff.rfl
@[simp] theorem at_up {E : ErrK} {r : Env} : E.up.at r = E := rfl
@[simp] theorem at_no {r : Env} : noErrS.at r = noErrK := rfl
@[irreducible] def wp {α : Type} [E : ErrK] (x : Res α) [k : Cont α] : Prop := match x with
  | .ok a m => k.k a m
  | .err e m => E.e e m
  | .stuck => False
@[irreducible] def ws [E : ErrS] (x : SR) [k : Cont4] : Prop := match x with
  | .ok .nx r m => k.N r m
  | .ok .brk r m => k.B r m
  | .ok .cont r m => k.C r m
  | .ok (.ret d) r m => k.R d m
  | .err e r m => E.e e r m
  | .stuck => False
section
variable {α β : Type} {m : Store} {Q : α → Store → Prop} {Ek : ErrK} {Ks : ErrS}
theorem wp.imp {x : Res α} {Q' : α → Store → Prop} (h : wp x (k := ⟨Q⟩)) (k : ∀ a m', Q a m' → Q' a m') : wp x (k := ⟨Q'⟩) := by
  cases x with
  | ok a m => with_unfolding_all exact k a m h
  | err e m => with_unfolding_all exact h
  | stuck => with_unfolding_all exact h.elim
/-- nothing is raised: whatever is wished of exceptions -/
theorem wp.mono {x : Res α} {Q' : α → Store → Prop} (h : wp (E := noErrK) x (k := ⟨Q⟩)) (k : ∀ a m', Q a m' → Q' a m') : wp x (k := ⟨Q'⟩) := by
  cases x with
  | ok a m => with_unfolding_all exact k a m h
  | err e m => with_unfolding_all exact h.elim
  | stuck => with_unfolding_all exact h.elim
/-- something may be raised -/
theorem wp.monoE {Ek' : ErrK} {x : Res α} {Q' : α → Store → Prop} (h : wp (E := Ek') x (k := ⟨Q⟩)) (k : ∀ a m', Q a m' → Q' a m') (ke : ∀ e m', Ek'.e e m' → Ek.e e m') : wp (E := Ek) x (k := ⟨Q'⟩) := by
  cases x with
  | ok a m => with_unfolding_all exact k a m h
  | err e m => with_unfolding_all exact ke e m h
  | stuck => with_unfolding_all exact h.elim
theorem wp_iff {x : Res α} {Q' : α → Store → Prop} (h : ∀ a m', Q a m' ↔ Q' a m') : wp x (k := ⟨Q⟩) ↔ wp x (k := ⟨Q'⟩) := ⟨fun z => z.imp fun a m' => (h a m').mp, fun z => z.imp fun a m' => (h a m').mpr⟩
theorem ws.mono {x : SR} {N N' : Env → Store → Prop} {R R' : D → Store → Prop} {B C B' C' : Env → Store → Prop} (h : ws x (k := ⟨N, R, B, C⟩)) (kN : ∀ a m', N a m' → N' a m') (kR : ∀ a m', R a m' → R' a m') (kB : ∀ a m', B a m' → B' a m') (kC : ∀ a m', C a m' → C' a m') : ws x (k := ⟨N', R', B', C'⟩) := by
  cases x with
  | ok f r m => cases f <;> with_unfolding_all first | exact kN _ _ h | exact kR _ _ h | exact kB _ _ h | exact kC _ _ h
  | err e r m => with_unfolding_all exact h
  | stuck => with_unfolding_all exact h.elim
theorem wpM_bnd {x : M β} {f : β → M α} : wp (M.bnd x f m) (k := ⟨Q⟩) ↔ wp (x m) (k := ⟨fun a m1 => wp (f a m1) (k := ⟨Q⟩)⟩) := by
  unfold M.bnd
  cases x m <;> with_unfolding_all exact Iff.rfl
@[simp ↓] theorem wpM_bind {x : M β} {f : β → M α} : wp ((x >>= f) m) (k := ⟨Q⟩) ↔ wp (x m) (k := ⟨fun a m1 => wp (f a m1) (k := ⟨Q⟩)⟩) := wpM_bnd
@[simp ↓] theorem wpM_pure {a : α} : wp ((pure a : M α) m) (k := ⟨Q⟩) ↔ Q a m := by with_unfolding_all exact Iff.rfl
@[simp ↓] theorem wpM_ok {a : α} : wp (.ok a m) (k := ⟨Q⟩) ↔ Q a m := by with_unfolding_all exact Iff.rfl
@[simp ↓] theorem wpM_stuck : wp ((stuck : M α) m) (k := ⟨Q⟩) ↔ False := by with_unfolding_all exact Iff.rfl
@[simp ↓] theorem wpM_chk {p : Prop} [Decidable p] {Q : Unit → Store → Prop} : wp (chk p m) (k := ⟨Q⟩) ↔ p ∧ Q () m := by
  unfold chk
  split
  · rename_i h; with_unfolding_all exact ⟨fun z => ⟨h, z⟩, fun z => z.2⟩
  · rename_i h; with_unfolding_all exact ⟨fun z => z.elim, fun z => h z.1⟩
@[simp ↓] theorem wpM_getC {h : Nat} {Q : Cell → Store → Prop} : wp (getC h m) (k := ⟨Q⟩) ↔ ∃ c, m[h]? = some c ∧ c.isL = true ∧ Q c m := by
  unfold getC
  cases e : m[h]? with
  | none => with_unfolding_all exact ⟨fun z => z.elim, fun ⟨c, z, _⟩ => nomatch z⟩
  | some c =>
    cases hl : c.isL with
    | true =>
      simp only [hl, if_true]
      with_unfolding_all exact ⟨fun z => ⟨c, rfl, hl, z⟩, fun ⟨c, z, _, q⟩ => by cases z; exact q⟩
    | false =>
      simp only [hl]
      with_unfolding_all exact ⟨fun z => z.elim, fun ⟨c, z, q, _⟩ => by cases z; rw [hl] at q; cases q⟩
@[simp ↓] theorem wpM_getA {h : Nat} {Q : Cell → Store → Prop} : wp (getA h m) (k := ⟨Q⟩) ↔ ∃ c, m[h]? = some c ∧ Q c m := by
  unfold getA
  cases e : m[h]? with
  | none => with_unfolding_all exact ⟨fun z => z.elim, fun ⟨c, z, _⟩ => nomatch z⟩
  | some c => with_unfolding_all exact ⟨fun z => ⟨c, rfl, z⟩, fun ⟨c, z, q⟩ => by cases z; exact q⟩
@[simp ↓] theorem wpM_getT {h : Nat} {Q : List (Key × D) → Store → Prop} : wp (getT h m) (k := ⟨Q⟩) ↔ ∃ ks, m[h]? = some (.dct ks) ∧ Q ks m := by
  unfold getT
  cases e : m[h]? with
  | none => with_unfolding_all exact ⟨fun z => z.elim, fun ⟨c, z, _⟩ => nomatch z⟩
  | some c =>
    cases c with
    | dct ks => with_unfolding_all exact ⟨fun z => ⟨ks, rfl, z⟩, fun ⟨c, z, q⟩ => by cases z; exact q⟩
    | lst xs => with_unfolding_all exact ⟨fun z => z.elim, fun ⟨c, z, q⟩ => by cases z⟩
    | frz xs => with_unfolding_all exact ⟨fun z => z.elim, fun ⟨c, z, q⟩ => by cases z⟩
    | exc xs => with_unfolding_all exact ⟨fun z => z.elim, fun ⟨c, z, q⟩ => by cases z⟩
@[simp ↓] theorem wpM_putT {h : Nat} {ks : List (Key × D)} {Q : Unit → Store → Prop} : wp (putT h ks m) (k := ⟨Q⟩) ↔ Q () (m.set h (.dct ks)) := by with_unfolding_all exact Iff.rfl
@[simp ↓] theorem wpM_newT {ks : List (Key × D)} {Q : Nat → Store → Prop} : wp (newT ks m) (k := ⟨Q⟩) ↔ Q m.length (m ++ [.dct ks]) := by with_unfolding_all exact Iff.rfl
@[simp ↓] theorem wpM_getL {h : Nat} {Q : List D → Store → Prop} : wp (getL h m) (k := ⟨Q⟩) ↔ ∃ xs, m[h]? = some (.lst xs) ∧ Q xs m := by
  unfold getL
  cases e : m[h]? with
  | none => with_unfolding_all exact ⟨fun z => z.elim, fun ⟨c, z, _⟩ => nomatch z⟩
  | some c =>
    cases c with
    | lst xs => with_unfolding_all exact ⟨fun z => ⟨xs, rfl, z⟩, fun ⟨c, z, q⟩ => by cases z; exact q⟩
    | frz xs => with_unfolding_all exact ⟨fun z => z.elim, fun ⟨c, z, q⟩ => by cases z⟩
    | dct xs => with_unfolding_all exact ⟨fun z => z.elim, fun ⟨c, z, q⟩ => by cases z⟩
    | exc xs => with_unfolding_all exact ⟨fun z => z.elim, fun ⟨c, z, q⟩ => by cases z⟩
@[simp ↓] theorem wpM_putL {h : Nat} {xs : List D} {Q : Unit → Store → Prop} : wp (putL h xs m) (k := ⟨Q⟩) ↔ Q () (m.set h (.lst xs)) := by with_unfolding_all exact Iff.rfl
@[simp ↓] theorem wpM_newL {xs : List D} {Q : Nat → Store → Prop} : wp (newL xs m) (k := ⟨Q⟩) ↔ Q m.length (m ++ [.lst xs]) := by with_unfolding_all exact Iff.rfl
@[simp ↓] theorem wpM_optM {o : Option α} : wp (optM o m) (k := ⟨Q⟩) ↔ ∃ a, o = some a ∧ Q a m := by
  cases o with
  | none => with_unfolding_all exact ⟨fun z => z.elim, fun ⟨a, z, _⟩ => nomatch z⟩
  | some a => with_unfolding_all exact ⟨fun z => ⟨a, rfl, z⟩, fun ⟨c, z, q⟩ => by cases z; exact q⟩
@[simp ↓] theorem wpM_getV {r : Env} {i : Nat} {Q : D → Store → Prop} : wp (getV r i m) (k := ⟨Q⟩) ↔ ∃ d, r[i]? = some (some d) ∧ Q d m := by
  unfold getV
  cases e : r[i]? with
  | none => with_unfolding_all exact ⟨fun z => z.elim, fun ⟨c, z, _⟩ => nomatch z⟩
  | some c =>
    cases c with
    | none => with_unfolding_all exact ⟨fun z => z.elim, fun ⟨c, z, _⟩ => nomatch z⟩
    | some d => with_unfolding_all exact ⟨fun z => ⟨d, rfl, z⟩, fun ⟨c, z, q⟩ => by cases z; exact q⟩
@[simp ↓] theorem wpM_ite {p : Prop} [Decidable p] {x y : M α} : wp ((if p then x else y) m) (k := ⟨Q⟩) ↔ (p → wp (x m) (k := ⟨Q⟩)) ∧ (¬ p → wp (y m) (k := ⟨Q⟩)) := by
  split
  · rename_i h; with_unfolding_all exact ⟨fun z => ⟨fun _ => z, fun k => absurd h k⟩, fun z => z.1 h⟩
  · rename_i h; with_unfolding_all exact ⟨fun z => ⟨fun k => absurd k h, fun _ => z⟩, fun z => z.2 h⟩
theorem wpM_noErr {x : M α} : wp (noErr x m) (k := ⟨Q⟩) ↔ wp (E := noErrK) (x m) (k := ⟨Q⟩) := by
  unfold noErr
  cases x m <;> with_unfolding_all exact Iff.rfl
@[simp ↓] theorem wpM_getY {h : Nat} {Q : Cell → Store → Prop} : wp (getY h m) (k := ⟨Q⟩) ↔ ∃ c, m[h]? = some c ∧ c.isX = false ∧ Q c m := by
  unfold getY
  cases e : m[h]? with
  | none => with_unfolding_all exact ⟨fun z => z.elim, fun ⟨c, z, _⟩ => nomatch z⟩
  | some c =>
    cases hl : c.isX with
    | false =>
      simp only [hl]
      with_unfolding_all exact ⟨fun z => ⟨c, rfl, hl, z⟩, fun ⟨c, z, _, q⟩ => by cases z; exact q⟩
    | true =>
      simp only [hl, if_true]
      with_unfolding_all exact ⟨fun z => z.elim, fun ⟨c, z, q, _⟩ => by cases z; rw [hl] at q; cases q⟩
@[simp ↓] theorem wpM_getX {h : Nat} {Q : List (Str × D) → Store → Prop} : wp (getX h m) (k := ⟨Q⟩) ↔ ∃ fs, m[h]? = some (.exc fs) ∧ Q fs m := by
  unfold getX
  cases e : m[h]? with
  | none => with_unfolding_all exact ⟨fun z => z.elim, fun ⟨c, z, _⟩ => nomatch z⟩
  | some c =>
    cases c with
    | exc fs => with_unfolding_all exact ⟨fun z => ⟨fs, rfl, z⟩, fun ⟨c, z, q⟩ => by cases z; exact q⟩
    | lst xs => with_unfolding_all exact ⟨fun z => z.elim, fun ⟨c, z, q⟩ => by cases z⟩
    | frz xs => with_unfolding_all exact ⟨fun z => z.elim, fun ⟨c, z, q⟩ => by cases z⟩
    | dct xs => with_unfolding_all exact ⟨fun z => z.elim, fun ⟨c, z, q⟩ => by cases z⟩
@[simp ↓] theorem wpM_excV {r : Env} {i : Nat} {Q : Str × Nat → Store → Prop} : wp (excV r i m) (k := ⟨Q⟩) ↔ ∃ c h, r[i]? = some (some (.tup [.str c, .ref h])) ∧ Q (c, h) m := by
  unfold excV
  rw [wpM_bind, wpM_getV]
  refine ⟨fun ⟨d, e, h⟩ => ?_, fun ⟨c, h, e, q⟩ => ⟨_, e, by with_unfolding_all exact q⟩⟩
  split at h
  · rename_i c j
    exact ⟨c, j, e, by with_unfolding_all exact h⟩
  · with_unfolding_all exact h.elim
end
/-! ### values -/
section
variable {Ek : ErrK} {m : Store} {Q : R → Store → Prop} {Qb : Bool → Store → Prop} {Ql : List D → Store → Prop} {Qi : Int → Store → Prop} {Qd : D → Store → Prop} {i j : Int} {x y : Str} {xs ys : List D} {h : Nat}
@[simp ↓] theorem intR_i : wp (intR (.d (.int i)) m) (k := ⟨Qi⟩) ↔ Qi i m := by with_unfolding_all exact Iff.rfl
@[simp ↓] theorem seqR_tl : wp (seqR (.tl xs) m) (k := ⟨Ql⟩) ↔ Ql xs m := by with_unfolding_all exact Iff.rfl
@[simp ↓] theorem seqR_tup : wp (seqR (.d (.tup xs)) m) (k := ⟨Ql⟩) ↔ Ql xs m := by with_unfolding_all exact Iff.rfl
@[simp ↓] theorem seqR_ref : wp (seqR (.d (.ref h)) m) (k := ⟨Ql⟩) ↔ ∃ c, m[h]? = some c ∧ c.isL = true ∧ Ql c.items m := by
  unfold seqR
  simp
@[simp ↓] theorem listR_tl : wp (listR (.tl xs) m) (k := ⟨Ql⟩) ↔ Ql xs m := by with_unfolding_all exact Iff.rfl
@[simp ↓] theorem listR_ref : wp (listR (.d (.ref h)) m) (k := ⟨Ql⟩) ↔ ∃ c, m[h]? = some c ∧ c.isL = true ∧ Ql c.items m := by
  unfold listR
  simp
@[simp ↓] theorem ownR_tl : wp (ownR (.tl xs) m) (k := ⟨Ql⟩) ↔ Ql xs m := by with_unfolding_all exact Iff.rfl
@[simp ↓] theorem ownR_ref : wp (ownR (.d (.ref h)) m) (k := ⟨Ql⟩) ↔ ∃ xs, m[h]? = some (.lst xs) ∧ Ql xs m := by
  unfold ownR
  simp
@[simp] theorem isL_lst : (Cell.lst xs).isL = true := rfl
@[simp] theorem isL_frz : (Cell.frz xs).isL = true := rfl
@[simp] theorem isL_exc {fs : List (Str × D)} : (Cell.exc fs).isL = false := rfl
@[simp] theorem isX_lst : (Cell.lst xs).isX = false := rfl
@[simp] theorem isX_frz : (Cell.frz xs).isX = false := rfl
@[simp] theorem isX_dct {ks : List (Key × D)} : (Cell.dct ks).isX = false := rfl
theorem isX_L {c : Cell} (h : c.isL = true) : c.isX = false := by cases c <;> first | rfl | cases h
@[simp] theorem isL_dct {ks : List (Key × D)} : (Cell.dct ks).isL = false := rfl
@[simp] theorem items_lst : (Cell.lst xs).items = xs := rfl
@[simp] theorem items_frz : (Cell.frz xs).items = xs := rfl
@[simp ↓] theorem tru_non : wp (tru (.d .non) m) (k := ⟨Qb⟩) ↔ Qb false m := by with_unfolding_all exact Iff.rfl
@[simp ↓] theorem tru_bl {b : Bool} : wp (tru (.d (.bl b)) m) (k := ⟨Qb⟩) ↔ Qb b m := by with_unfolding_all exact Iff.rfl
@[simp ↓] theorem tru_int : wp (tru (.d (.int i)) m) (k := ⟨Qb⟩) ↔ Qb (i != 0) m := by with_unfolding_all exact Iff.rfl
@[simp ↓] theorem tru_str : wp (tru (.d (.str x)) m) (k := ⟨Qb⟩) ↔ x.length ≤ sizeLine ∧ Qb ((x.length : Int) != 0) m := by
  unfold tru
  simp
@[simp ↓] theorem tru_tup : wp (tru (.d (.tup xs)) m) (k := ⟨Qb⟩) ↔ Qb (!xs.isEmpty) m := by with_unfolding_all exact Iff.rfl
@[simp ↓] theorem tru_tl : wp (tru (.tl xs) m) (k := ⟨Qb⟩) ↔ Qb (!xs.isEmpty) m := by with_unfolding_all exact Iff.rfl
@[simp ↓] theorem tru_ref : wp (tru (.d (.ref h)) m) (k := ⟨Qb⟩) ↔ ∃ c, m[h]? = some c ∧ c.isL = true ∧ Qb (!c.items.isEmpty) m := by
  unfold tru
  simp
@[simp ↓] theorem up_d {d : D} : wp ((R.d d).up m) (k := ⟨Qd⟩) ↔ Qd d m := by with_unfolding_all exact Iff.rfl
@[simp ↓] theorem up_tl : wp ((R.tl xs).up m) (k := ⟨Qd⟩) ↔ Qd (.ref m.length) (m ++ [.lst xs]) := by with_unfolding_all exact Iff.rfl
-- operations
@[simp ↓] theorem add_int : wp (binR .Add (.d (.int i)) (.d (.int j)) m) (k := ⟨Q⟩) ↔ Q (.d (.int (i + j))) m := by with_unfolding_all exact Iff.rfl
@[simp ↓] theorem add_str : wp (binR .Add (.d (.str x)) (.d (.str y)) m) (k := ⟨Q⟩) ↔ x.length + y.length ≤ sizeLine ∧ Q (.d (.str (x ++ y))) m := by
  unfold binR addR
  simp
@[simp ↓] theorem add_tup : wp (binR .Add (.d (.tup xs)) (.d (.tup ys)) m) (k := ⟨Q⟩) ↔ xs.length + ys.length ≤ sizeLine ∧ Q (.d (.tup (xs ++ ys))) m := by
  unfold binR addR
  simp
theorem add_list {a b : R} (ha : (∃ xs, a = .tl xs) ∨ ∃ h, a = .d (.ref h)) : wp (binR .Add a b m) (k := ⟨Q⟩) ↔ wp (ownR a m) (k := ⟨fun xs m1 => wp (ownR b m1) (k := ⟨fun ys m2 => xs.length + ys.length ≤ sizeLine ∧ Q (.tl (xs ++ ys)) m2⟩)⟩) := by
  have e : wp (binR .Add a b m) (k := ⟨Q⟩) ↔ wp ((do
    let xs ← ownR a
    let ys ← ownR b
    chk (xs.length + ys.length ≤ sizeLine)
    return R.tl (xs ++ ys) : M R) m) (k := ⟨Q⟩) := by
    rcases ha with ⟨xs, rfl⟩ | ⟨h, rfl⟩ <;> with_unfolding_all exact Iff.rfl
  rw [e, wpM_bind]
  with_unfolding_all exact wp_iff fun _ _ => by rw [wpM_bind]; exact wp_iff fun _ _ => by simp
@[simp ↓] theorem add_tl : wp (binR .Add (.tl xs) b m) (k := ⟨Q⟩) ↔ wp (ownR b m) (k := ⟨fun ys m2 => xs.length + ys.length ≤ sizeLine ∧ Q (.tl (xs ++ ys)) m2⟩) := by
  rw [add_list (.inl ⟨_, rfl⟩)]
  simp
@[simp ↓] theorem add_ref : wp (binR .Add (.d (.ref h)) b m) (k := ⟨Q⟩) ↔ ∃ xs, m[h]? = some (.lst xs) ∧ wp (ownR b m) (k := ⟨fun ys m2 => xs.length + ys.length ≤ sizeLine ∧ Q (.tl (xs ++ ys)) m2⟩) := by
  rw [add_list (.inr ⟨_, rfl⟩)]
  simp
@[simp ↓] theorem sub_int : wp (binR .Sub (.d (.int i)) (.d (.int j)) m) (k := ⟨Q⟩) ↔ Q (.d (.int (i - j))) m := by with_unfolding_all exact Iff.rfl
@[simp ↓] theorem mul_int : wp (binR .Mult (.d (.int i)) (.d (.int j)) m) (k := ⟨Q⟩) ↔ bigMul i j ∧ Q (.d (.int (i * j))) m := by
  unfold binR mulR
  simp
@[simp ↓] theorem mul_tl : wp (binR .Mult (.tl xs) (.d (.int j)) m) (k := ⟨Q⟩) ↔ (-(2 ^ 63) ≤ j ∧ j < 2 ^ 63 ∧ xs.length * j.toNat ≤ sizeLine) ∧ Q (.tl (List.replicate j.toNat xs).flatten) m := by
  unfold binR mulR
  simp
@[simp ↓] theorem mul_tup : wp (binR .Mult (.d (.tup xs)) (.d (.int j)) m) (k := ⟨Q⟩) ↔ (-(2 ^ 63) ≤ j ∧ j < 2 ^ 63 ∧ xs.length * j.toNat ≤ 1000000) ∧ Q (.d (.tup (List.replicate j.toNat xs).flatten)) m := by
  unfold binR mulR
  simp
@[simp ↓] theorem mul_str : wp (binR .Mult (.d (.str x)) (.d (.int j)) m) (k := ⟨Q⟩) ↔ (-(2 ^ 63) ≤ j ∧ j < 2 ^ 63 ∧ x.length * j.toNat ≤ sizeLine) ∧ Q (.d (.str (repS x j.toNat))) m := by
  unfold binR mulR
  simp
@[simp ↓] theorem fdiv_int : wp (binR .FloorDiv (.d (.int i)) (.d (.int j)) m) (k := ⟨Q⟩) ↔ (j ≠ 0 ∧ j.natAbs < 1073741824) ∧ Q (.d (.int (i.fdiv j))) m := by
  unfold binR
  simp
@[simp ↓] theorem fmod_int : wp (binR .Mod (.d (.int i)) (.d (.int j)) m) (k := ⟨Q⟩) ↔ j ≠ 0 ∧ Q (.d (.int (i.fmod j))) m := by
  unfold binR
  simp
@[simp ↓] theorem pow_int : wp (binR .Pow (.d (.int i)) (.d (.int j)) m) (k := ⟨Q⟩) ↔ (0 ≤ j ∧ j ≤ 1000000 ∧ i.natAbs < 2 ^ 64) ∧ Q (.d (.int (i ^ j.toNat))) m := by
  unfold binR
  simp
@[simp ↓] theorem eq_int : wp (cmpR .Eq (.d (.int i)) (.d (.int j)) m) (k := ⟨Q⟩) ↔ Q (.d (.bl (decide (i = j)))) m := by with_unfolding_all exact Iff.rfl
@[simp ↓] theorem eq_str : wp (cmpR .Eq (.d (.str x)) (.d (.str y)) m) (k := ⟨Q⟩) ↔ Q (.d (.bl (decide (x = y)))) m := by with_unfolding_all exact Iff.rfl
@[simp ↓] theorem ne_int : wp (cmpR .NotEq (.d (.int i)) (.d (.int j)) m) (k := ⟨Q⟩) ↔ Q (.d (.bl (!decide (i = j)))) m := by with_unfolding_all exact Iff.rfl
@[simp ↓] theorem ne_str : wp (cmpR .NotEq (.d (.str x)) (.d (.str y)) m) (k := ⟨Q⟩) ↔ Q (.d (.bl (!decide (x = y)))) m := by with_unfolding_all exact Iff.rfl
@[simp ↓] theorem lt_int : wp (cmpR .Lt (.d (.int i)) (.d (.int j)) m) (k := ⟨Q⟩) ↔ Q (.d (.bl (decide (i < j)))) m := by with_unfolding_all exact Iff.rfl
@[simp ↓] theorem le_int : wp (cmpR .LtE (.d (.int i)) (.d (.int j)) m) (k := ⟨Q⟩) ↔ Q (.d (.bl (decide (i ≤ j)))) m := by with_unfolding_all exact Iff.rfl
@[simp ↓] theorem gt_int : wp (cmpR .Gt (.d (.int i)) (.d (.int j)) m) (k := ⟨Q⟩) ↔ Q (.d (.bl (decide (j < i)))) m := by with_unfolding_all exact Iff.rfl
@[simp ↓] theorem ge_int : wp (cmpR .GtE (.d (.int i)) (.d (.int j)) m) (k := ⟨Q⟩) ↔ Q (.d (.bl (decide (j ≤ i)))) m := by with_unfolding_all exact Iff.rfl
@[simp ↓] theorem is_non {a : R} : wp (cmpR .Is a (.d .non) m) (k := ⟨Q⟩) ↔ Q (.d (.bl (isN a))) m := by with_unfolding_all exact Iff.rfl
@[simp ↓] theorem isnot_non {a : R} : wp (cmpR .IsNot a (.d .non) m) (k := ⟨Q⟩) ↔ Q (.d (.bl (!isN a))) m := by with_unfolding_all exact Iff.rfl
@[simp ↓] theorem is_bl {a b : Bool} : wp (cmpR .Is (.d (.bl a)) (.d (.bl b)) m) (k := ⟨Q⟩) ↔ Q (.d (.bl (decide (a = b)))) m := by with_unfolding_all exact Iff.rfl
@[simp ↓] theorem isnot_bl {a b : Bool} : wp (cmpR .IsNot (.d (.bl a)) (.d (.bl b)) m) (k := ⟨Q⟩) ↔ Q (.d (.bl (!decide (a = b)))) m := by with_unfolding_all exact Iff.rfl
@[simp ↓] theorem ix_tup : wp (ixR (.d (.tup xs)) (.d (.int i)) m) (k := ⟨Q⟩) ↔ ∃ d, L2.atI xs i = some d ∧ Q (.d d) m := by
  unfold ixR
  simp
@[simp ↓] theorem ix_tl : wp (ixR (.tl xs) (.d (.int i)) m) (k := ⟨Q⟩) ↔ ∃ d, L2.atI xs i = some d ∧ Q (.d d) m := by
  unfold ixR
  simp
@[simp ↓] theorem key_int {Qk : Key → Store → Prop} : wp (keyR (.d (.int i)) m) (k := ⟨Qk⟩) ↔ Qk (.inl i) m := by
  unfold keyR
  simp [keyOf]
@[simp ↓] theorem key_str {Qk : Key → Store → Prop} : wp (keyR (.d (.str x)) m) (k := ⟨Qk⟩) ↔ Qk (.inr x) m := by
  unfold keyR
  simp [keyOf]
@[simp ↓] theorem ix_ref {a : R} : wp (ixR (.d (.ref h)) a m) (k := ⟨Q⟩) ↔ ∃ c, m[h]? = some c ∧ wp (ixC c a m) (k := ⟨Q⟩) := by
  unfold ixR
  simp
@[simp ↓] theorem ixC_lst : wp (ixC (.lst xs) (.d (.int i)) m) (k := ⟨Q⟩) ↔ ∃ d, L2.atI xs i = some d ∧ Q (.d d) m := by
  unfold ixC
  simp
@[simp ↓] theorem ixC_frz : wp (ixC (.frz xs) (.d (.int i)) m) (k := ⟨Q⟩) ↔ ∃ d, L2.atI xs i = some d ∧ Q (.d d) m := by
  unfold ixC
  simp
@[simp ↓] theorem ixC_dct {ks : List (Key × D)} {a : R} : wp (ixC (.dct ks) a m) (k := ⟨Q⟩) ↔ wp (keyR a m) (k := ⟨fun k m1 => ∃ d, getK ks k = some d ∧ Q (.d d) m1⟩) := by
  unfold ixC
  simp
  exact wp_iff fun _ _ => by simp
theorem ixC_L {c : Cell} (hl : c.isL = true) : wp (ixC c (.d (.int i)) m) (k := ⟨Q⟩) ↔ ∃ d, L2.atI c.items i = some d ∧ Q (.d d) m := by
  cases c with
  | lst xs => simp
  | frz xs => simp
  | dct xs => cases hl
  | exc xs => cases hl
@[simp ↓] theorem cut_tup {lo hi : Option Int} : wp (cutR (.d (.tup xs)) lo hi m) (k := ⟨Q⟩) ↔ Q (.d (.tup (cut xs lo hi))) m := by with_unfolding_all exact Iff.rfl
@[simp ↓] theorem cut_tl {lo hi : Option Int} : wp (cutR (.tl xs) lo hi m) (k := ⟨Q⟩) ↔ Q (.tl (cut xs lo hi)) m := by with_unfolding_all exact Iff.rfl
@[simp ↓] theorem cut_ref {lo hi : Option Int} : wp (cutR (.d (.ref h)) lo hi m) (k := ⟨Q⟩) ↔ ∃ c, m[h]? = some c ∧ c.isL = true ∧ Q (.tl (cut c.items lo hi)) m := by
  unfold cutR
  simp
-- in
@[simp ↓] theorem cmp_in {a b : R} : wp (cmpR .In a b m) (k := ⟨Q⟩) ↔ wp (inR a b m) (k := ⟨fun t m1 => Q (.d (.bl t)) m1⟩) := by
  unfold cmpR
  simp
  exact wp_iff fun _ _ => by simp
@[simp ↓] theorem cmp_notIn {a b : R} : wp (cmpR .NotIn a b m) (k := ⟨Q⟩) ↔ wp (inR a b m) (k := ⟨fun t m1 => Q (.d (.bl (!t))) m1⟩) := by
  unfold cmpR
  simp
  exact wp_iff fun _ _ => by simp
@[simp ↓] theorem in_str : wp (inR (.d (.str x)) (.d (.str y)) m) (k := ⟨Qb⟩) ↔ Qb (inS x y) m := by with_unfolding_all exact Iff.rfl
theorem in_ref {a : R} : wp (inR a (.d (.ref h)) m) (k := ⟨Qb⟩) ↔ ∃ c, m[h]? = some c ∧ wp (inC c a (.d (.ref h)) m) (k := ⟨Qb⟩) := by
  unfold inR
  cases a with
  | tl xs => simp
  | d x => cases x <;> simp
theorem inC_dct {ks : List (Key × D)} {a b : R} : wp (inC (.dct ks) a b m) (k := ⟨Qb⟩) ↔ wp (keyR a m) (k := ⟨fun k m1 => Qb (getK ks k).isSome m1⟩) := by
  unfold inC
  simp
  exact wp_iff fun _ _ => by simp
-- isinstance
section
variable {ts : List Ty}
@[simp ↓] theorem isi_tl : wp (isiR ts (.tl xs) m) (k := ⟨Q⟩) ↔ Q (.d (.bl (ts.any fun t => decide (t = .list)))) m := by with_unfolding_all exact Iff.rfl
@[simp ↓] theorem isi_non : wp (isiR ts (.d .non) m) (k := ⟨Q⟩) ↔ Q (.d (.bl (ts.any (tyD .non)))) m := by with_unfolding_all exact Iff.rfl
@[simp ↓] theorem isi_bl {b : Bool} : wp (isiR ts (.d (.bl b)) m) (k := ⟨Q⟩) ↔ Q (.d (.bl (ts.any (tyD (.bl b))))) m := by with_unfolding_all exact Iff.rfl
@[simp ↓] theorem isi_int : wp (isiR ts (.d (.int i)) m) (k := ⟨Q⟩) ↔ Q (.d (.bl (ts.any (tyD (.int i))))) m := by with_unfolding_all exact Iff.rfl
@[simp ↓] theorem isi_str : wp (isiR ts (.d (.str x)) m) (k := ⟨Q⟩) ↔ Q (.d (.bl (ts.any (tyD (.str x))))) m := by with_unfolding_all exact Iff.rfl
@[simp ↓] theorem isi_tup : wp (isiR ts (.d (.tup xs)) m) (k := ⟨Q⟩) ↔ Q (.d (.bl (ts.any (tyD (.tup xs))))) m := by with_unfolding_all exact Iff.rfl
@[simp ↓] theorem isi_ref : wp (isiR ts (.d (.ref h)) m) (k := ⟨Q⟩) ↔ ∃ c, m[h]? = some c ∧ c.isX = false ∧ Q (.d (.bl (ts.any (tyC c)))) m := by
  unfold isiR
  simp
end
@[simp] theorem tyD_non {t : Ty} : tyD .non t = false := rfl
@[simp] theorem tyD_bl {t : Ty} {b : Bool} : tyD (.bl b) t = decide (t = .bool ∨ t = .int) := rfl
@[simp] theorem tyD_int {t : Ty} {j : Int} : tyD (.int j) t = decide (t = .int) := rfl
@[simp] theorem tyD_str {t : Ty} {x : Str} : tyD (.str x) t = decide (t = .str) := rfl
@[simp] theorem tyD_tup {t : Ty} {xs : List D} : tyD (.tup xs) t = decide (t = .tuple) := rfl
@[simp] theorem tyC_lst {t : Ty} : tyC (.lst xs) t = decide (t = .list) := rfl
@[simp] theorem tyC_frz {t : Ty} : tyC (.frz xs) t = decide (t = .list) := rfl
@[simp] theorem tyC_dct {t : Ty} {ks : List (Key × D)} : tyC (.dct ks) t = decide (t = .dict) := rfl
@[simp ↓] theorem rev_tup : wp (revR (.d (.tup xs)) m) (k := ⟨Q⟩) ↔ Q (.d (.tup xs.reverse)) m := by with_unfolding_all exact Iff.rfl
@[simp ↓] theorem rev_tl : wp (revR (.tl xs) m) (k := ⟨Q⟩) ↔ Q (.tl xs.reverse) m := by
  unfold revR
  simp
@[simp ↓] theorem rev_ref : wp (revR (.d (.ref h)) m) (k := ⟨Q⟩) ↔ wp (listR (.d (.ref h)) m) (k := ⟨fun xs m1 => Q (.tl xs.reverse) m1⟩) := by
  show wp ((listR (.d (.ref h)) >>= fun xs => (pure (R.tl xs.reverse) : M R)) m) (k := ⟨Q⟩) ↔ _
  rw [wpM_bind]
  exact wp_iff fun _ _ => wpM_pure
-- built-ins
@[simp ↓] theorem len_tup : wp (bfR .len [.d (.tup xs)] m) (k := ⟨Q⟩) ↔ Q (.d (.int xs.length)) m := by with_unfolding_all exact Iff.rfl
@[simp ↓] theorem len_tl : wp (bfR .len [.tl xs] m) (k := ⟨Q⟩) ↔ Q (.d (.int xs.length)) m := by with_unfolding_all exact Iff.rfl
@[simp ↓] theorem len_ref : wp (bfR .len [.d (.ref h)] m) (k := ⟨Q⟩) ↔ ∃ c, m[h]? = some c ∧ c.isL = true ∧ Q (.d (.int c.items.length)) m := by
  unfold bfR lenR
  simp
@[simp ↓] theorem len_str : wp (bfR .len [.d (.str x)] m) (k := ⟨Q⟩) ↔ x.length ≤ sizeLine ∧ Q (.d (.int x.length)) m := by
  unfold bfR lenR
  simp
@[simp ↓] theorem tuple_any {a : R} : wp (bfR .tuple [a] m) (k := ⟨Q⟩) ↔ wp (seqR a m) (k := ⟨fun xs m1 => Q (.d (.tup xs)) m1⟩) := by
  unfold bfR
  simp
  with_unfolding_all exact wp_iff fun _ _ => by simp
@[simp ↓] theorem list_any {a : R} : wp (bfR .list [a] m) (k := ⟨Q⟩) ↔ wp (seqR a m) (k := ⟨fun xs m1 => Q (.tl xs) m1⟩) := by
  unfold bfR
  simp
  with_unfolding_all exact wp_iff fun _ _ => by simp
theorem intsR_iff {a : R} : wp (intsR a m) (k := ⟨Qis⟩) ↔ wp (listR a m) (k := ⟨fun xs m1 => ∃ is, optAll intOf xs = some is ∧ Qis is m1⟩) := by
  unfold intsR
  simp
  with_unfolding_all exact wp_iff fun _ _ => by simp
theorem intsS_iff {a : R} : wp (intsS a m) (k := ⟨Qis⟩) ↔ wp (seqR a m) (k := ⟨fun xs m1 => ∃ is, optAll intOf xs = some is ∧ Qis is m1⟩) := by
  unfold intsS
  simp
  with_unfolding_all exact wp_iff fun _ _ => by simp
@[simp] theorem optAll_ints {is : List Int} : optAll intOf (is.map D.int) = some is := by
  induction is with
  | nil => rfl
  | cons i r ih => simp only [List.map_cons, optAll, intOf, ih]
@[simp] theorem optAll_bls {is : List Bool} : optAll blOf (is.map D.bl) = some is := by
  induction is with
  | nil => rfl
  | cons i r ih => simp only [List.map_cons, optAll, blOf, ih]
@[simp ↓] theorem max1_any {a : R} : wp (bfR .max1 [a] m) (k := ⟨Q⟩) ↔ wp (seqR a m) (k := ⟨fun xs m1 => ∃ is, optAll intOf xs = some is ∧ 0 < is.length ∧ Q (.d (.int (maxI is))) m1⟩) := by
  unfold bfR
  simp [intsS_iff]
  with_unfolding_all exact wp_iff fun _ _ => by simp [intsS_iff]
@[simp ↓] theorem min1_any {a : R} : wp (bfR .min1 [a] m) (k := ⟨Q⟩) ↔ wp (seqR a m) (k := ⟨fun xs m1 => ∃ is, optAll intOf xs = some is ∧ 0 < is.length ∧ Q (.d (.int (minI is))) m1⟩) := by
  unfold bfR
  simp [intsS_iff]
  with_unfolding_all exact wp_iff fun _ _ => by simp [intsS_iff]
@[simp ↓] theorem sum_any {a : R} : wp (bfR .sum [a] m) (k := ⟨Q⟩) ↔ wp (seqR a m) (k := ⟨fun xs m1 => ∃ is, optAll intOf xs = some is ∧ Q (.d (.int is.sum)) m1⟩) := by
  unfold bfR
  simp [intsS_iff]
  with_unfolding_all exact wp_iff fun _ _ => by simp [intsS_iff]
@[simp ↓] theorem all_any {a : R} : wp (bfR .all [a] m) (k := ⟨Q⟩) ↔ wp (listR a m) (k := ⟨fun xs m1 => ∃ is, optAll blOf xs = some is ∧ Q (.d (.bl (is.all id))) m1⟩) := by
  unfold bfR
  simp
  with_unfolding_all exact wp_iff fun _ _ => by simp
@[simp ↓] theorem any_any {a : R} : wp (bfR .any [a] m) (k := ⟨Q⟩) ↔ wp (listR a m) (k := ⟨fun xs m1 => ∃ is, optAll blOf xs = some is ∧ Q (.d (.bl (is.any id))) m1⟩) := by
  unfold bfR
  simp
  with_unfolding_all exact wp_iff fun _ _ => by simp
@[simp ↓] theorem max2_int : wp (bfR .max2 [.d (.int i), .d (.int j)] m) (k := ⟨Q⟩) ↔ Q (.d (.int (if j > i then j else i))) m := by with_unfolding_all exact Iff.rfl
@[simp ↓] theorem min2_int : wp (bfR .min2 [.d (.int i), .d (.int j)] m) (k := ⟨Q⟩) ↔ Q (.d (.int (if j < i then j else i))) m := by with_unfolding_all exact Iff.rfl
@[simp ↓] theorem str1_int : wp (bfR .str1 [.d (.int i)] m) (k := ⟨Q⟩) ↔ i.natAbs.log2 < 1920 ∧ Q (.d (.str (toString i))) m := by
  unfold bfR
  simp
@[simp ↓] theorem str1_str : wp (bfR .str1 [.d (.str x)] m) (k := ⟨Q⟩) ↔ Q (.d (.str x)) m := by with_unfolding_all exact Iff.rfl
theorem mxd_any {k : Bool} {a : R} {y : D} : wp (mxdR k a y m) (k := ⟨Q⟩) ↔ wp (seqR a m) (k := ⟨fun xs m1 => ∃ is, optAll intOf xs = some is ∧ (is = [] → Q (.d y) m1) ∧ ∀ i r, is = i :: r → Q (.d (.int (if k then r.foldl max i else r.foldl min i))) m1⟩) := by
  unfold mxdR
  rw [wpM_bind, intsS_iff]
  refine wp_iff fun xs m1 => ?_
  constructor
  · rintro ⟨is, e, h⟩
    refine ⟨is, e, fun z => ?_, fun i r z => ?_⟩
    · subst z; exact wpM_pure.mp h
    · subst z; exact wpM_pure.mp h
  · rintro ⟨is, e, h0, h1⟩
    refine ⟨is, e, ?_⟩
    cases is with
    | nil => exact wpM_pure.mpr (h0 rfl)
    | cons i r => exact wpM_pure.mpr (h1 i r rfl)
@[simp ↓] theorem int1_int : wp (bfR .int1 [.d (.int i)] m) (k := ⟨Q⟩) ↔ Q (.d (.int i)) m := by with_unfolding_all exact Iff.rfl
@[simp ↓] theorem int1_bl {b : Bool} : wp (bfR .int1 [.d (.bl b)] m) (k := ⟨Q⟩) ↔ Q (.d (.int (if b then 1 else 0))) m := by with_unfolding_all exact Iff.rfl
@[simp ↓] theorem sorted_any {a : R} : wp (bfR .sorted [a] m) (k := ⟨Q⟩) ↔ wp (listR a m) (k := ⟨fun xs m1 => ∃ is, optAll intOf xs = some is ∧ Q (.tl ((sortI is).map .int)) m1⟩) := by
  unfold bfR
  simp [intsR_iff]
  exact wp_iff fun _ _ => by simp [intsR_iff]
/-- a datum that can be shown -/
def Shows (m : Store) (x : R) (p : PyData) : Prop := datR x m = .ok p m ∧ p.showable = true ∧ p.shown.length ≤ sizeLine
theorem repr_of {a : R} {p : PyData} (h : Shows m a p) : wp (bfR .repr [a] m) (k := ⟨Q⟩) ↔ Q (.d (.str p.shown)) m := by
  unfold bfR
  simp [wpM_bind, h.1, h.2.1, h.2.2]
-- methods
@[simp ↓] theorem strR_str {Qs : Str → Store → Prop} : wp (strR (.d (.str x)) m) (k := ⟨Qs⟩) ↔ Qs x m := by with_unfolding_all exact Iff.rfl
@[simp ↓] theorem dctR_ref {Qk : List (Key × D) → Store → Prop} : wp (dctR (.d (.ref h)) m) (k := ⟨Qk⟩) ↔ ∃ ks, m[h]? = some (.dct ks) ∧ Qk ks m := by
  unfold dctR
  simp
section
variable {a : R} {Qu : Unit → Store → Prop}
theorem okM_lst {f : MF} (hf : f.of = .list) : wp (okM f a m) (k := ⟨Qu⟩) ↔ wp (ownR a m) (k := ⟨fun _ m1 => Qu () m1⟩) := by
  unfold okM
  rw [hf]
  simp
  exact wp_iff fun _ _ => by simp
theorem okM_str {f : MF} (hf : f.of = .str) : wp (okM f a m) (k := ⟨Qu⟩) ↔ wp (strR a m) (k := ⟨fun _ m1 => Qu () m1⟩) := by
  unfold okM
  rw [hf]
  simp
  exact wp_iff fun _ _ => by simp
theorem okM_dct {f : MF} (hf : f.of = .dict) : wp (okM f a m) (k := ⟨Qu⟩) ↔ wp (dctR a m) (k := ⟨fun _ m1 => Qu () m1⟩) := by
  unfold okM
  rw [hf]
  simp
  exact wp_iff fun _ _ => by simp
@[simp ↓] theorem ok_append : wp (okM .append a m) (k := ⟨Qu⟩) ↔ wp (ownR a m) (k := ⟨fun _ m1 => Qu () m1⟩) := okM_lst rfl
@[simp ↓] theorem ok_extend : wp (okM .extend a m) (k := ⟨Qu⟩) ↔ wp (ownR a m) (k := ⟨fun _ m1 => Qu () m1⟩) := okM_lst rfl
@[simp ↓] theorem ok_pop : wp (okM .pop a m) (k := ⟨Qu⟩) ↔ wp (ownR a m) (k := ⟨fun _ m1 => Qu () m1⟩) := okM_lst rfl
@[simp ↓] theorem ok_count : wp (okM .count a m) (k := ⟨Qu⟩) ↔ wp (ownR a m) (k := ⟨fun _ m1 => Qu () m1⟩) := okM_lst rfl
@[simp ↓] theorem ok_popAt : wp (okM .popAt a m) (k := ⟨Qu⟩) ↔ wp (ownR a m) (k := ⟨fun _ m1 => Qu () m1⟩) := okM_lst rfl
@[simp ↓] theorem ok_insert : wp (okM .insert a m) (k := ⟨Qu⟩) ↔ wp (ownR a m) (k := ⟨fun _ m1 => Qu () m1⟩) := okM_lst rfl
@[simp ↓] theorem ok_index : wp (okM .index a m) (k := ⟨Qu⟩) ↔ wp (ownR a m) (k := ⟨fun _ m1 => Qu () m1⟩) := okM_lst rfl
@[simp ↓] theorem ok_join : wp (okM .join a m) (k := ⟨Qu⟩) ↔ wp (strR a m) (k := ⟨fun _ m1 => Qu () m1⟩) := okM_str rfl
@[simp ↓] theorem ok_upper : wp (okM .upper a m) (k := ⟨Qu⟩) ↔ wp (strR a m) (k := ⟨fun _ m1 => Qu () m1⟩) := okM_str rfl
@[simp ↓] theorem ok_get1 : wp (okM .get1 a m) (k := ⟨Qu⟩) ↔ wp (dctR a m) (k := ⟨fun _ m1 => Qu () m1⟩) := okM_dct rfl
@[simp ↓] theorem ok_get2 : wp (okM .get2 a m) (k := ⟨Qu⟩) ↔ wp (dctR a m) (k := ⟨fun _ m1 => Qu () m1⟩) := okM_dct rfl
@[simp ↓] theorem ok_pop2 : wp (okM .pop2 a m) (k := ⟨Qu⟩) ↔ wp (dctR a m) (k := ⟨fun _ m1 => Qu () m1⟩) := okM_dct rfl
end
@[simp ↓] theorem mf_count : wp (mfR .count (.d (.ref h)) [.d (.int i)] m) (k := ⟨Q⟩) ↔ ∃ xs, m[h]? = some (.lst xs) ∧ ∃ is, optAll intOf xs = some is ∧ Q (.d (.int (is.count i : Nat))) m := by
  unfold mfR
  simp
@[simp ↓] theorem mf_popAt : wp (mfR .popAt (.d (.ref h)) [.d (.int i)] m) (k := ⟨Q⟩) ↔ ∃ xs, m[h]? = some (.lst xs) ∧ (0 ≤ i ∧ i < 2 ^ 63) ∧ ∃ x, xs[i.toNat]? = some x ∧ Q (.d x) (m.set h (.lst (xs.eraseIdx i.toNat))) := by
  unfold mfR
  simp
@[simp ↓] theorem mf_insert {d : D} : wp (mfR .insert (.d (.ref h)) [.d (.int i), .d d] m) (k := ⟨Q⟩) ↔ ∃ xs, m[h]? = some (.lst xs) ∧ (xs.length < sizeLine ∧ 0 ≤ i ∧ i < 2 ^ 63) ∧ Q (.d .non) (m.set h (.lst (xs.take i.toNat ++ [d] ++ xs.drop i.toNat))) := by
  unfold mfR
  simp
@[simp ↓] theorem mf_join {a : R} : wp (mfR .join (.d (.str x)) [a] m) (k := ⟨Q⟩) ↔ wp (seqR a m) (k := ⟨fun xs m1 => ∃ ws, optAll strOf xs = some ws ∧ (ws.map (·.length)).sum + ws.length * x.length ≤ 16777216 ∧ Q (.d (.str (Txt.join x ws))) m1⟩) := by
  unfold mfR
  simp
  exact wp_iff fun _ _ => by simp
@[simp ↓] theorem mf_upper : wp (mfR .upper (.d (.str x)) [] m) (k := ⟨Q⟩) ↔ x.length ≤ 5592405 ∧ Q (.d (.str (Txt.upper x))) m := by
  unfold mfR
  simp
@[simp ↓] theorem mf_get1 {a : R} : wp (mfR .get1 (.d (.ref h)) [a] m) (k := ⟨Q⟩) ↔ ∃ ks, m[h]? = some (.dct ks) ∧ wp (keyR a m) (k := ⟨fun k m1 => Q (.d ((getK ks k).getD .non)) m1⟩) := by
  unfold mfR
  simp
  exact exists_congr fun _ => and_congr_right fun _ => wp_iff fun _ _ => by simp
@[simp ↓] theorem mf_get2 {a : R} {d : D} : wp (mfR .get2 (.d (.ref h)) [a, .d d] m) (k := ⟨Q⟩) ↔ ∃ ks, m[h]? = some (.dct ks) ∧ wp (keyR a m) (k := ⟨fun k m1 => Q (.d ((getK ks k).getD d)) m1⟩) := by
  unfold mfR
  simp
  exact exists_congr fun _ => and_congr_right fun _ => wp_iff fun _ _ => by simp
@[simp] theorem optAll_strs {is : List Str} : optAll strOf (is.map D.str) = some is := by
  induction is with
  | nil => rfl
  | cons i r ih => simp only [List.map_cons, optAll, strOf, ih]
@[simp ↓] theorem mf_append {d : D} : wp (mfR .append (.d (.ref h)) [.d d] m) (k := ⟨Q⟩) ↔ ∃ xs, m[h]? = some (.lst xs) ∧ xs.length < sizeLine ∧ Q (.d .non) (m.set h (.lst (xs ++ [d]))) := by
  unfold mfR
  simp
@[simp ↓] theorem mf_extend {a : R} : wp (mfR .extend (.d (.ref h)) [a] m) (k := ⟨Q⟩) ↔ wp (ownR a m) (k := ⟨fun ys m1 => ∃ xs, m1[h]? = some (.lst xs) ∧ xs.length + ys.length ≤ sizeLine ∧ Q (.d .non) (m1.set h (.lst (xs ++ ys)))⟩) := by
  unfold mfR
  simp
  with_unfolding_all exact wp_iff fun _ _ => by simp
@[simp ↓] theorem mf_pop : wp (mfR .pop (.d (.ref h)) [] m) (k := ⟨Q⟩) ↔ ∃ xs, m[h]? = some (.lst xs) ∧ ∃ x, xs[xs.length - 1]? = some x ∧ Q (.d x) (m.set h (.lst xs.dropLast)) := by
  unfold mfR
  simp
end
end Pf

/-! Pf19: rules for expressions, statements, loops. -/
namespace Pf
open PySem
section
variable {Ek : ErrK} {cf : CF} {r : Env} {m : Store} {Q : R → Store → Prop} {Qb : Bool → Store → Prop} {Qd : D → Store → Prop} {Qs : List D → Store → Prop} {Qr : List R → Store → Prop} {Qi : List D × List (Nat × List D) → Store → Prop} {a b c e : E} {es : Es} {d : D} {i : Nat}
def evDs (cf : CF) (es : Es) (r : Env) : M (List D) := denD cf es r
def evRs (cf : CF) (es : Es) (r : Env) : M (List R) := denR cf es r
def evI (cf : CF) (it : I) (r : Env) : M (List D × List (Nat × List D)) := denI cf it r
@[simp ↓] theorem evE_eq : wp (evE cf e r m) (k := ⟨Qd⟩) ↔ wp (evR cf e r m) (k := ⟨fun x m1 => wp (x.up m1) (k := ⟨Qd⟩)⟩) := wpM_bnd
@[simp ↓] theorem ev_cst : wp (evR cf (.cst d) r m) (k := ⟨Q⟩) ↔ Q (.d d) m := by
  unfold evR den
  with_unfolding_all exact Iff.rfl
@[simp ↓] theorem ev_var : wp (evR cf (.var i) r m) (k := ⟨Q⟩) ↔ ∃ d, r[i]? = some (some d) ∧ Q (.d d) m := by
  unfold evR den Dn.of
  simp
@[simp ↓] theorem ev_bin {o : Operator} : wp (evR cf (.bin o a b) r m) (k := ⟨Q⟩) ↔ wp (evR cf a r m) (k := ⟨fun x m1 => wp (evR cf b r m1) (k := ⟨fun y m2 => wp (binR o x y m2) (k := ⟨Q⟩)⟩)⟩) := by
  unfold evR
  rw [den]
  with_unfolding_all exact wpM_bnd.trans (wp_iff fun _ _ => wpM_bnd)
@[simp ↓] theorem ev_cmp {o : CmpOp} : wp (evR cf (.cmp o a b) r m) (k := ⟨Q⟩) ↔ wp (evR cf a r m) (k := ⟨fun x m1 => wp (evR cf b r m1) (k := ⟨fun y m2 => wp (cmpR o x y m2) (k := ⟨Q⟩)⟩)⟩) := by
  unfold evR
  rw [den]
  with_unfolding_all exact wpM_bnd.trans (wp_iff fun _ _ => wpM_bnd)
@[simp ↓] theorem ev_neg : wp (evR cf (.neg a) r m) (k := ⟨Q⟩) ↔ wp (evR cf a r m) (k := ⟨fun x m1 => wp (intR x m1) (k := ⟨fun i m2 => Q (.d (.int (-i))) m2⟩)⟩) := by
  unfold evR
  rw [den]
  with_unfolding_all exact wpM_bnd.trans (wp_iff fun _ _ => wpM_bnd)
@[simp ↓] theorem ev_not : wp (evR cf (.not a) r m) (k := ⟨Q⟩) ↔ wp (evR cf a r m) (k := ⟨fun x m1 => wp (tru x m1) (k := ⟨fun i m2 => Q (.d (.bl (!i))) m2⟩)⟩) := by
  unfold evR
  rw [den]
  with_unfolding_all exact wpM_bnd.trans (wp_iff fun _ _ => wpM_bnd)
@[simp ↓] theorem ev_and : wp (evR cf (.and a b) r m) (k := ⟨Q⟩) ↔ wp (evR cf a r m) (k := ⟨fun x m1 => wp (tru x m1) (k := ⟨fun i m2 => (i = true → wp (evR cf b r m2) (k := ⟨Q⟩)) ∧ (¬ i = true → Q x m2)⟩)⟩) := by
  unfold evR
  rw [den]
  with_unfolding_all exact wpM_bnd.trans (wp_iff fun _ _ => wpM_bnd.trans (wp_iff fun _ _ => wpM_ite))
@[simp ↓] theorem ev_or : wp (evR cf (.or a b) r m) (k := ⟨Q⟩) ↔ wp (evR cf a r m) (k := ⟨fun x m1 => wp (tru x m1) (k := ⟨fun i m2 => (i = true → Q x m2) ∧ (¬ i = true → wp (evR cf b r m2) (k := ⟨Q⟩))⟩)⟩) := by
  unfold evR
  rw [den]
  with_unfolding_all exact wpM_bnd.trans (wp_iff fun _ _ => wpM_bnd.trans (wp_iff fun _ _ => wpM_ite))
@[simp ↓] theorem ev_ite : wp (evR cf (.ite c a b) r m) (k := ⟨Q⟩) ↔ wp (tst cf c r m) (k := ⟨fun i m1 => (i = true → wp (evR cf a r m1) (k := ⟨Q⟩)) ∧ (¬ i = true → wp (evR cf b r m1) (k := ⟨Q⟩))⟩) := by
  unfold evR tst
  rw [den]
  with_unfolding_all exact wpM_bnd.trans (wp_iff fun _ _ => wpM_ite)
@[simp ↓] theorem ev_tup : wp (evR cf (.tup es) r m) (k := ⟨Q⟩) ↔ wp (evDs cf es r m) (k := ⟨fun xs m1 => xs.length ≤ sizeLine ∧ Q (.d (.tup xs)) m1⟩) := by
  unfold evR evDs
  rw [den]
  with_unfolding_all exact wpM_bnd.trans (wp_iff fun _ _ => by simp)
@[simp ↓] theorem ev_lst : wp (evR cf (.lst es) r m) (k := ⟨Q⟩) ↔ wp (evDs cf es r m) (k := ⟨fun xs m1 => xs.length ≤ sizeLine ∧ Q (.tl xs) m1⟩) := by
  unfold evR evDs
  rw [den]
  with_unfolding_all exact wpM_bnd.trans (wp_iff fun _ _ => by simp)
@[simp ↓] theorem ev_dct {ks : List Key} : wp (evR cf (.dct ks es) r m) (k := ⟨Q⟩) ↔ wp (evDs cf es r m) (k := ⟨fun xs m1 => (xs.length = ks.length ∧ ks.length ≤ 15 ∧ ks.Nodup) ∧ Q (.d (.ref m1.length)) (m1 ++ [.dct (ks.zip xs)])⟩) := by
  unfold evR evDs
  rw [den]
  with_unfolding_all exact wpM_bnd.trans (wp_iff fun _ _ => by simp)
/-- a name that holds a caught exception -/
def isExc (x : Option (Option D)) (k : Str → Nat → Prop) : Prop := ∃ c h, x = some (some (.tup [.str c, .ref h])) ∧ k c h
@[simp ↓] theorem isExc_mk {c : Str} {h : Nat} {k : Str → Nat → Prop} : isExc (some (some (.tup [.str c, .ref h]))) k ↔ k c h := ⟨fun ⟨_, _, e, q⟩ => by cases e; exact q, fun q => ⟨_, _, rfl, q⟩⟩
@[simp ↓] theorem ev_xf {f : Str} : wp (evR cf (.xf i f) r m) (k := ⟨Q⟩) ↔ isExc r[i]? fun c h => ∃ fs, m[h]? = some (.exc fs) ∧ ∃ d, fs.lookup f = some d ∧ Q (.d d) m := by
  unfold evR
  rw [den]
  with_unfolding_all exact wpM_bnd.trans (wpM_excV.trans (exists_congr fun c => exists_congr fun h => and_congr Iff.rfl (wpM_bnd.trans (wpM_getX.trans (exists_congr fun fs => and_congr Iff.rfl (wpM_bnd.trans wpM_optM))))))
@[simp ↓] theorem ev_ise {all cs : List Str} : wp (evR cf (.ise i all cs) r m) (k := ⟨Q⟩) ↔ isExc r[i]? fun c h => ∃ fs, m[h]? = some (.exc fs) ∧ c ∈ all ∧ Q (.d (.bl (decide (c ∈ cs)))) m := by
  unfold evR
  rw [den]
  with_unfolding_all exact wpM_bnd.trans (wpM_excV.trans (exists_congr fun c => exists_congr fun h => and_congr Iff.rfl (wpM_bnd.trans (wpM_getX.trans (exists_congr fun fs => and_congr Iff.rfl (wpM_bnd.trans wpM_chk))))))
@[simp ↓] theorem ev_hcall {f : Str} : wp (evR cf (.hcall f i es) r m) (k := ⟨Q⟩) ↔ isExc r[i]? fun c h => wp (evDs cf es r m) (k := ⟨fun xs m1 => wp (cf f (.tup [.str c, .ref h] :: xs) m1) (k := ⟨fun d m2 => Q (.d d) m2⟩)⟩) := by
  unfold evR evDs
  rw [den]
  with_unfolding_all exact wpM_bnd.trans (wpM_excV.trans (exists_congr fun c => exists_congr fun h => and_congr Iff.rfl (wpM_bnd.trans (wp_iff fun _ _ => wpM_bnd))))
@[simp ↓] theorem ev_isi {ts : List Ty} : wp (evR cf (.isi ts a) r m) (k := ⟨Q⟩) ↔ wp (evR cf a r m) (k := ⟨fun x m1 => wp (isiR ts x m1) (k := ⟨Q⟩)⟩) := by
  unfold evR
  rw [den]
  with_unfolding_all exact wpM_bnd
@[simp ↓] theorem ev_rev : wp (evR cf (.rev a) r m) (k := ⟨Q⟩) ↔ wp (evR cf a r m) (k := ⟨fun x m1 => wp (revR x m1) (k := ⟨Q⟩)⟩) := by
  unfold evR
  rw [den]
  with_unfolding_all exact wpM_bnd
@[simp ↓] theorem ev_lrg1 : wp (evR cf (.lrg1 a) r m) (k := ⟨Q⟩) ↔ wp (evR cf a r m) (k := ⟨fun x m1 => wp (intR x m1) (k := ⟨fun n m2 => (small62 n ∧ n.toNat ≤ 16777216) ∧ Q (.tl (upto 0 n.toNat)) m2⟩)⟩) := by
  unfold evR
  rw [den]
  with_unfolding_all exact wpM_bnd.trans (wp_iff fun _ _ => wpM_bnd.trans (wp_iff fun _ _ => by simp))
@[simp ↓] theorem ev_lrg2 : wp (evR cf (.lrg2 a b) r m) (k := ⟨Q⟩) ↔ wp (evR cf a r m) (k := ⟨fun x m1 => wp (intR x m1) (k := ⟨fun lo m2 => wp (evR cf b r m2) (k := ⟨fun y m3 => wp (intR y m3) (k := ⟨fun hi m4 => (small62 lo ∧ small62 hi ∧ (hi - lo).toNat ≤ 16777216) ∧ Q (.tl (upto lo (hi - lo).toNat)) m4⟩)⟩)⟩)⟩) := by
  unfold evR
  rw [den]
  with_unfolding_all exact wpM_bnd.trans (wp_iff fun _ _ => wpM_bnd.trans (wp_iff fun _ _ => wpM_bnd.trans (wp_iff fun _ _ => wpM_bnd.trans (wp_iff fun _ _ => by simp))))
@[simp ↓] theorem ev_mxd {k : Bool} : wp (evR cf (.mxd k a b) r m) (k := ⟨Q⟩) ↔ wp (evR cf a r m) (k := ⟨fun x m1 => wp (evE cf b r m1) (k := ⟨fun y m2 => wp (mxdR k x y m2) (k := ⟨Q⟩)⟩)⟩) := by
  unfold evR evE
  rw [den]
  with_unfolding_all exact wpM_bnd.trans (wp_iff fun _ _ => wpM_bnd)
@[simp ↓] theorem ev_ix : wp (evR cf (.ix a b) r m) (k := ⟨Q⟩) ↔ wp (evR cf a r m) (k := ⟨fun x m1 => wp (evR cf b r m1) (k := ⟨fun y m2 => wp (ixR x y m2) (k := ⟨Q⟩)⟩)⟩) := by
  unfold evR
  rw [den]
  with_unfolding_all exact wpM_bnd.trans (wp_iff fun _ _ => wpM_bnd)
def wpart (cf : CF) (b : Bool) (e : E) (r : Env) : M (Option Int) := partM b (den cf e).v r
@[simp ↓] theorem part_f {Q : Option Int → Store → Prop} : wp (wpart cf false e r m) (k := ⟨Q⟩) ↔ Q none m := by with_unfolding_all exact Iff.rfl
@[simp ↓] theorem part_t {Q : Option Int → Store → Prop} : wp (wpart cf true e r m) (k := ⟨Q⟩) ↔ wp (evR cf e r m) (k := ⟨fun x m1 => wp (intR x m1) (k := ⟨fun i m2 => Q (some i) m2⟩)⟩) := by
  with_unfolding_all exact wpM_bnd.trans (wp_iff fun _ _ => wpM_bnd)
@[simp ↓] theorem ev_sl {hl hh : Bool} : wp (evR cf (.sl a hl hh b c) r m) (k := ⟨Q⟩) ↔ wp (evR cf a r m) (k := ⟨fun x m1 => wp (wpart cf hl b r m1) (k := ⟨fun y m2 => wp (wpart cf hh c r m2) (k := ⟨fun z m3 => wp (cutR x y z m3) (k := ⟨Q⟩)⟩)⟩)⟩) := by
  unfold evR wpart
  rw [den]
  with_unfolding_all exact wpM_bnd.trans (wp_iff fun _ _ => wpM_bnd.trans (wp_iff fun _ _ => wpM_bnd))
@[simp ↓] theorem ev_call {f : Str} : wp (evR cf (.call f es) r m) (k := ⟨Q⟩) ↔ wp (evDs cf es r m) (k := ⟨fun xs m1 => wp (cf f xs m1) (k := ⟨fun x m2 => Q (.d x) m2⟩)⟩) := by
  unfold evR evDs
  rw [den]
  with_unfolding_all exact wpM_bnd.trans (wp_iff fun _ _ => wpM_bnd)
@[simp ↓] theorem ev_bif {f : BF} : wp (evR cf (.bif f es) r m) (k := ⟨Q⟩) ↔ wp (evRs cf es r m) (k := ⟨fun xs m1 => wp (bfR f xs m1) (k := ⟨Q⟩)⟩) := by
  unfold evR evRs
  rw [den]
  with_unfolding_all exact wpM_bnd
def evArg (cf : CF) (b : Bool) (es : Es) (r : Env) : M (List R) := argM b (denD cf es) (denR cf es) r
@[simp ↓] theorem arg_f {Q : List R → Store → Prop} : wp (evArg cf false es r m) (k := ⟨Q⟩) ↔ wp (evRs cf es r m) (k := ⟨Q⟩) := by with_unfolding_all exact Iff.rfl
@[simp ↓] theorem arg_t {Q : List R → Store → Prop} : wp (evArg cf true es r m) (k := ⟨Q⟩) ↔ wp (evDs cf es r m) (k := ⟨fun xs m1 => Q (xs.map R.d) m1⟩) := by with_unfolding_all exact wpM_bnd
@[simp ↓] theorem ev_meth {f : MF} : wp (evR cf (.meth f a es) r m) (k := ⟨Q⟩) ↔ wp (evR cf a r m) (k := ⟨fun x m1 => wp (okM f x m1) (k := ⟨fun _ m2 => wp (evArg cf f.names es r m2) (k := ⟨fun xs m3 => wp (mfR f x xs m3) (k := ⟨Q⟩)⟩)⟩)⟩) := by
  unfold evR evArg
  rw [den]
  with_unfolding_all exact wpM_bnd.trans (wp_iff fun _ _ => wpM_bnd.trans (wp_iff fun _ _ => wpM_bnd))
@[simp] theorem names_append : MF.append.names = true := rfl
@[simp] theorem names_extend : MF.extend.names = false := rfl
@[simp] theorem names_pop : MF.pop.names = false := rfl
@[simp] theorem names_count : MF.count.names = false := rfl
@[simp] theorem names_popAt : MF.popAt.names = false := rfl
@[simp] theorem names_insert : MF.insert.names = true := rfl
@[simp] theorem names_index : MF.index.names = false := rfl
@[simp] theorem names_join : MF.join.names = false := rfl
@[simp] theorem names_upper : MF.upper.names = false := rfl
@[simp] theorem names_get1 : MF.get1.names = false := rfl
@[simp] theorem names_get2 : MF.get2.names = true := rfl
@[simp] theorem names_pop2 : MF.pop2.names = true := rfl
@[simp ↓] theorem evDs_nil : wp (evDs cf .nil r m) (k := ⟨Qs⟩) ↔ Qs [] m := by
  unfold evDs denD
  with_unfolding_all exact Iff.rfl
@[simp ↓] theorem evDs_cons : wp (evDs cf (.cons e es) r m) (k := ⟨Qs⟩) ↔ wp (evE cf e r m) (k := ⟨fun x m1 => wp (evDs cf es r m1) (k := ⟨fun xs m2 => Qs (x :: xs) m2⟩)⟩) := by
  unfold evDs evE
  rw [denD]
  with_unfolding_all exact wpM_bnd.trans (wp_iff fun _ _ => wpM_bnd)
@[simp ↓] theorem evRs_nil : wp (evRs cf .nil r m) (k := ⟨Qr⟩) ↔ Qr [] m := by
  unfold evRs denR
  with_unfolding_all exact Iff.rfl
@[simp ↓] theorem evRs_cons : wp (evRs cf (.cons e es) r m) (k := ⟨Qr⟩) ↔ wp (evR cf e r m) (k := ⟨fun x m1 => wp (evRs cf es r m1) (k := ⟨fun xs m2 => Qr (x :: xs) m2⟩)⟩) := by
  unfold evRs evR
  rw [denR]
  with_unfolding_all exact wpM_bnd.trans (wp_iff fun _ _ => wpM_bnd)
-- tests
@[simp ↓] theorem tst_not : wp (tst cf (.not a) r m) (k := ⟨Qb⟩) ↔ wp (tst cf a r m) (k := ⟨fun i m2 => Qb (!i) m2⟩) := by
  unfold tst
  rw [den]
  with_unfolding_all exact wpM_bnd
@[simp ↓] theorem tst_and : wp (tst cf (.and a b) r m) (k := ⟨Qb⟩) ↔ wp (tst cf a r m) (k := ⟨fun i m2 => (i = true → wp (tst cf b r m2) (k := ⟨Qb⟩)) ∧ (¬ i = true → Qb false m2)⟩) := by
  unfold tst
  rw [den]
  with_unfolding_all exact wpM_bnd.trans (wp_iff fun _ _ => wpM_ite)
@[simp ↓] theorem tst_or : wp (tst cf (.or a b) r m) (k := ⟨Qb⟩) ↔ wp (tst cf a r m) (k := ⟨fun i m2 => (i = true → Qb true m2) ∧ (¬ i = true → wp (tst cf b r m2) (k := ⟨Qb⟩))⟩) := by
  unfold tst
  rw [den]
  with_unfolding_all exact wpM_bnd.trans (wp_iff fun _ _ => wpM_ite)
@[simp ↓] theorem tst_ite : wp (tst cf (.ite c a b) r m) (k := ⟨Qb⟩) ↔ wp (tst cf c r m) (k := ⟨fun i m2 => (i = true → wp (tst cf a r m2) (k := ⟨Qb⟩)) ∧ (¬ i = true → wp (tst cf b r m2) (k := ⟨Qb⟩))⟩) := by
  unfold tst
  rw [den]
  with_unfolding_all exact wpM_bnd.trans (wp_iff fun _ _ => wpM_ite)
theorem tst_val (h : den cf e = Dn.of (den cf e).v) : wp (tst cf e r m) (k := ⟨Qb⟩) ↔ wp (evR cf e r m) (k := ⟨fun x m1 => wp (tru x m1) (k := ⟨Qb⟩)⟩) := by
  unfold tst evR
  rw [h]
  with_unfolding_all exact wpM_bnd
@[simp ↓] theorem tst_cst : wp (tst cf (.cst d) r m) (k := ⟨Qb⟩) ↔ wp (tru (.d d) m) (k := ⟨Qb⟩) := (tst_val (by rw [den]; rfl)).trans ev_cst
@[simp ↓] theorem tst_var : wp (tst cf (.var i) r m) (k := ⟨Qb⟩) ↔ wp (evR cf (.var i) r m) (k := ⟨fun x m1 => wp (tru x m1) (k := ⟨Qb⟩)⟩) := tst_val (by rw [den]; rfl)
@[simp ↓] theorem tst_bin {o : Operator} : wp (tst cf (.bin o a b) r m) (k := ⟨Qb⟩) ↔ wp (evR cf (.bin o a b) r m) (k := ⟨fun x m1 => wp (tru x m1) (k := ⟨Qb⟩)⟩) := tst_val (by rw [den]; rfl)
@[simp ↓] theorem tst_cmp {o : CmpOp} : wp (tst cf (.cmp o a b) r m) (k := ⟨Qb⟩) ↔ wp (evR cf (.cmp o a b) r m) (k := ⟨fun x m1 => wp (tru x m1) (k := ⟨Qb⟩)⟩) := tst_val (by rw [den]; rfl)
@[simp ↓] theorem tst_cmp2 {o p : CmpOp} : wp (tst cf (.cmp2 o p a b c) r m) (k := ⟨Qb⟩) ↔ wp (evR cf (.cmp2 o p a b c) r m) (k := ⟨fun x m1 => wp (tru x m1) (k := ⟨Qb⟩)⟩) := tst_val (by rw [den]; rfl)
@[simp ↓] theorem tst_ix : wp (tst cf (.ix a b) r m) (k := ⟨Qb⟩) ↔ wp (evR cf (.ix a b) r m) (k := ⟨fun x m1 => wp (tru x m1) (k := ⟨Qb⟩)⟩) := tst_val (by rw [den]; rfl)
@[simp ↓] theorem tst_call {f : Str} : wp (tst cf (.call f es) r m) (k := ⟨Qb⟩) ↔ wp (evR cf (.call f es) r m) (k := ⟨fun x m1 => wp (tru x m1) (k := ⟨Qb⟩)⟩) := tst_val (by rw [den]; rfl)
@[simp ↓] theorem tst_bif {f : BF} : wp (tst cf (.bif f es) r m) (k := ⟨Qb⟩) ↔ wp (evR cf (.bif f es) r m) (k := ⟨fun x m1 => wp (tru x m1) (k := ⟨Qb⟩)⟩) := tst_val (by rw [den]; rfl)
@[simp ↓] theorem tst_lst : wp (tst cf (.lst es) r m) (k := ⟨Qb⟩) ↔ wp (evR cf (.lst es) r m) (k := ⟨fun x m1 => wp (tru x m1) (k := ⟨Qb⟩)⟩) := tst_val (by rw [den]; rfl)
@[simp ↓] theorem tst_tup : wp (tst cf (.tup es) r m) (k := ⟨Qb⟩) ↔ wp (evR cf (.tup es) r m) (k := ⟨fun x m1 => wp (tru x m1) (k := ⟨Qb⟩)⟩) := tst_val (by rw [den]; rfl)
@[simp ↓] theorem tst_meth {f : MF} : wp (tst cf (.meth f a es) r m) (k := ⟨Qb⟩) ↔ wp (evR cf (.meth f a es) r m) (k := ⟨fun x m1 => wp (tru x m1) (k := ⟨Qb⟩)⟩) := tst_val (by rw [den]; rfl)
@[simp ↓] theorem tst_isi {ts : List Ty} : wp (tst cf (.isi ts a) r m) (k := ⟨Qb⟩) ↔ wp (evR cf (.isi ts a) r m) (k := ⟨fun x m1 => wp (tru x m1) (k := ⟨Qb⟩)⟩) := tst_val (by rw [den]; rfl)
@[simp ↓] theorem tst_ise {i : Nat} {all cs : List Str} : wp (tst cf (.ise i all cs) r m) (k := ⟨Qb⟩) ↔ wp (evR cf (.ise i all cs) r m) (k := ⟨fun x m1 => wp (tru x m1) (k := ⟨Qb⟩)⟩) := tst_val (by rw [den]; rfl)
@[simp ↓] theorem tst_xf {i : Nat} {f : Str} : wp (tst cf (.xf i f) r m) (k := ⟨Qb⟩) ↔ wp (evR cf (.xf i f) r m) (k := ⟨fun x m1 => wp (tru x m1) (k := ⟨Qb⟩)⟩) := tst_val (by rw [den]; rfl)
@[simp ↓] theorem tst_hcall {i : Nat} {f : Str} : wp (tst cf (.hcall f i es) r m) (k := ⟨Qb⟩) ↔ wp (evR cf (.hcall f i es) r m) (k := ⟨fun x m1 => wp (tru x m1) (k := ⟨Qb⟩)⟩) := tst_val (by rw [den]; rfl)
@[simp ↓] theorem tst_lrg1 : wp (tst cf (.lrg1 a) r m) (k := ⟨Qb⟩) ↔ wp (evR cf (.lrg1 a) r m) (k := ⟨fun x m1 => wp (tru x m1) (k := ⟨Qb⟩)⟩) := tst_val (by rw [den]; rfl)
@[simp ↓] theorem tst_lrg2 : wp (tst cf (.lrg2 a b) r m) (k := ⟨Qb⟩) ↔ wp (evR cf (.lrg2 a b) r m) (k := ⟨fun x m1 => wp (tru x m1) (k := ⟨Qb⟩)⟩) := tst_val (by rw [den]; rfl)
@[simp ↓] theorem tst_mxd {k : Bool} : wp (tst cf (.mxd k a b) r m) (k := ⟨Qb⟩) ↔ wp (evR cf (.mxd k a b) r m) (k := ⟨fun x m1 => wp (tru x m1) (k := ⟨Qb⟩)⟩) := tst_val (by rw [den]; rfl)
@[simp ↓] theorem tst_rev : wp (tst cf (.rev a) r m) (k := ⟨Qb⟩) ↔ wp (evR cf (.rev a) r m) (k := ⟨fun x m1 => wp (tru x m1) (k := ⟨Qb⟩)⟩) := tst_val (by rw [den]; rfl)
@[simp ↓] theorem tst_sl {hl hh : Bool} : wp (tst cf (.sl a hl hh b c) r m) (k := ⟨Qb⟩) ↔ wp (evR cf (.sl a hl hh b c) r m) (k := ⟨fun x m1 => wp (tru x m1) (k := ⟨Qb⟩)⟩) := tst_val (by rw [den]; rfl)
@[simp ↓] theorem tst_comp {own : List Nat} {t : T} {it : I} : wp (tst cf (.comp own t it c e) r m) (k := ⟨Qb⟩) ↔ wp (evR cf (.comp own t it c e) r m) (k := ⟨fun x m1 => wp (tru x m1) (k := ⟨Qb⟩)⟩) := tst_val (by rw [den]; rfl)
@[simp ↓] theorem ev_cmp2 {o p : CmpOp} : wp (evR cf (.cmp2 o p a b c) r m) (k := ⟨Q⟩) ↔ wp (evR cf a r m) (k := ⟨fun x m1 => wp (evR cf b r m1) (k := ⟨fun y m2 => wp (cmpR o x y m2) (k := ⟨fun z m3 => ∃ t, z = .d (.bl t) ∧ (t = true → wp (evR cf c r m3) (k := ⟨fun w m4 => wp (cmpR p y w m4) (k := ⟨Q⟩)⟩)) ∧ (t = false → Q (.d (.bl false)) m3)⟩)⟩)⟩) := by
  unfold evR
  rw [den]
  refine wpM_bnd.trans (wp_iff fun _ _ => wpM_bnd.trans (wp_iff fun _ _ => wpM_bnd.trans (wp_iff fun z m3 => ?_)))
  split
  · refine wpM_bnd.trans ⟨fun h => ⟨true, rfl, fun _ => h, fun k => nomatch k⟩, fun ⟨t, e, h1, h2⟩ => ?_⟩
    cases e
    with_unfolding_all exact h1 rfl
  · refine ⟨fun h => ⟨false, rfl, fun k => (nomatch k), fun _ => by with_unfolding_all exact h⟩, fun ⟨t, e, h1, h2⟩ => ?_⟩
    cases e
    with_unfolding_all exact h2 rfl
  · rename_i n1 n2
    refine ⟨fun h => by (unfold wp at h; exact h.elim), fun ⟨t, e, h1, h2⟩ => ?_⟩
    cases t
    · with_unfolding_all exact (n2 e).elim
    · with_unfolding_all exact (n1 e).elim
-- iterables
@[simp ↓] theorem evI_seq : wp (evI cf (.seq e) r m) (k := ⟨Qi⟩) ↔ wp (evR cf e r m) (k := ⟨fun x m1 => wp (walkR x m1) (k := ⟨Qi⟩)⟩) := by
  unfold evI evR
  rw [denI]
  with_unfolding_all exact wpM_bnd
@[simp ↓] theorem evI_range1 : wp (evI cf (.range1 a) r m) (k := ⟨Qi⟩) ↔ wp (evR cf a r m) (k := ⟨fun x m1 => wp (intR x m1) (k := ⟨fun n m2 => small62 n ∧ Qi (upto 0 n.toNat, []) m2⟩)⟩) := by
  unfold evI evR
  rw [denI]
  with_unfolding_all exact wpM_bnd.trans (wp_iff fun _ _ => wpM_bnd.trans (wp_iff fun _ _ => by simp))
@[simp ↓] theorem evI_range2 : wp (evI cf (.range2 a b) r m) (k := ⟨Qi⟩) ↔ wp (evR cf a r m) (k := ⟨fun x m1 => wp (intR x m1) (k := ⟨fun lo m2 => wp (evR cf b r m2) (k := ⟨fun y m3 => wp (intR y m3) (k := ⟨fun hi m4 => (small62 lo ∧ small62 hi) ∧ Qi (upto lo (hi - lo).toNat, []) m4⟩)⟩)⟩)⟩) := by
  unfold evI evR
  rw [denI]
  with_unfolding_all exact wpM_bnd.trans (wp_iff fun _ _ => wpM_bnd.trans (wp_iff fun _ _ => wpM_bnd.trans (wp_iff fun _ _ => wpM_bnd.trans (wp_iff fun _ _ => by simp))))
@[simp ↓] theorem evI_enum : wp (evI cf (.enum e) r m) (k := ⟨Qi⟩) ↔ wp (evR cf e r m) (k := ⟨fun x m1 => wp (enumR x m1) (k := ⟨Qi⟩)⟩) := by
  unfold evI evR
  rw [denI]
  with_unfolding_all exact wpM_bnd
@[simp ↓] theorem evI_zip : wp (evI cf (.zip a b) r m) (k := ⟨Qi⟩) ↔ wp (evR cf a r m) (k := ⟨fun x m1 => wp (evR cf b r m1) (k := ⟨fun y m2 => wp (zipR x y m2) (k := ⟨Qi⟩)⟩)⟩) := by
  unfold evI evR
  rw [denI]
  with_unfolding_all exact wpM_bnd.trans (wp_iff fun _ _ => wpM_bnd)
@[simp ↓] theorem evI_rvl : wp (evI cf (.rvl e) r m) (k := ⟨Qi⟩) ↔ wp (evR cf e r m) (k := ⟨fun x m1 => wp (revI x m1) (k := ⟨Qi⟩)⟩) := by
  unfold evI evR
  rw [denI]
  with_unfolding_all exact wpM_bnd
@[simp ↓] theorem evI_rvr : wp (evI cf (.rvr a) r m) (k := ⟨Qi⟩) ↔ wp (evR cf a r m) (k := ⟨fun x m1 => wp (intR x m1) (k := ⟨fun n m2 => small62 n ∧ Qi ((upto 0 n.toNat).reverse, []) m2⟩)⟩) := by
  unfold evI evR
  rw [denI]
  with_unfolding_all exact wpM_bnd.trans (wp_iff fun _ _ => wpM_bnd.trans (wp_iff fun _ _ => by simp))
variable {xs ys : List D} {h : Nat}
@[simp ↓] theorem revI_tup : wp (revI (.d (.tup xs)) m) (k := ⟨Qi⟩) ↔ Qi (xs.reverse, []) m := by with_unfolding_all exact Iff.rfl
@[simp ↓] theorem revI_tl : wp (revI (.tl xs) m) (k := ⟨Qi⟩) ↔ Qi (xs.reverse, []) m := by with_unfolding_all exact Iff.rfl
@[simp ↓] theorem revI_ref : wp (revI (.d (.ref h)) m) (k := ⟨Qi⟩) ↔ ∃ c, m[h]? = some c ∧ c.isL = true ∧ Qi (c.items.reverse, [(h, c.items)]) m := by
  unfold revI walkL
  simp
@[simp ↓] theorem wk_tl : wp (walkR (.tl xs) m) (k := ⟨Qi⟩) ↔ Qi (xs, []) m := by with_unfolding_all exact Iff.rfl
@[simp ↓] theorem wk_tup : wp (walkR (.d (.tup xs)) m) (k := ⟨Qi⟩) ↔ Qi (xs, []) m := by with_unfolding_all exact Iff.rfl
@[simp ↓] theorem wk_str {x : Str} : wp (walkR (.d (.str x)) m) (k := ⟨Qi⟩) ↔ Qi (signs x, []) m := by with_unfolding_all exact Iff.rfl
@[simp ↓] theorem wk_ref : wp (walkR (.d (.ref h)) m) (k := ⟨Qi⟩) ↔ ∃ c, m[h]? = some c ∧ c.isL = true ∧ Qi (c.items, [(h, c.items)]) m := by
  unfold walkR
  simp
@[simp ↓] theorem enum_tup : wp (enumR (.d (.tup xs)) m) (k := ⟨Qi⟩) ↔ Qi (enumD xs, []) m := by with_unfolding_all exact Iff.rfl
@[simp ↓] theorem enum_tl : wp (enumR (.tl xs) m) (k := ⟨Qi⟩) ↔ Qi (enumD xs, []) m := by with_unfolding_all exact Iff.rfl
@[simp ↓] theorem enum_ref : wp (enumR (.d (.ref h)) m) (k := ⟨Qi⟩) ↔ ∃ c, m[h]? = some c ∧ c.isL = true ∧ Qi (enumD c.items, [(h, c.items)]) m := by
  unfold enumR walkL
  simp
@[simp ↓] theorem zip_tup : wp (zipR (.d (.tup xs)) (.d (.tup ys)) m) (k := ⟨Qi⟩) ↔ Qi (zipD xs ys, []) m := by with_unfolding_all exact Iff.rfl
@[simp ↓] theorem zip_tltl : wp (zipR (.tl xs) (.tl ys) m) (k := ⟨Qi⟩) ↔ Qi (zipD xs ys, []) m := by with_unfolding_all exact Iff.rfl
@[simp ↓] theorem chkAll_nil {Q : Unit → Store → Prop} : wp (chkAll [] m) (k := ⟨Q⟩) ↔ Q () m := by with_unfolding_all exact Iff.rfl
@[simp ↓] theorem chkAll_cons {Q : Unit → Store → Prop} {l : List (Nat × List D)} : wp (chkAll ((h, xs) :: l) m) (k := ⟨Q⟩) ↔ ∃ c, m[h]? = some c ∧ c.isL = true ∧ c.items = xs ∧ wp (chkAll l m) (k := ⟨Q⟩) := by
  rw [chkAll]
  simp
@[simp ↓] theorem asg_name {x : D} {Q : Env → Store → Prop} : wp (asgT (.name i) x r m) (k := ⟨Q⟩) ↔ Q (r.set i (some x)) m := by with_unfolding_all exact Iff.rfl
@[simp ↓] theorem asg_tup {is : List Nat} {Q : Env → Store → Prop} : wp (asgT (.tup is) (.tup xs) r m) (k := ⟨Q⟩) ↔ xs.length = is.length ∧ Q (setAll is xs r) m := by
  unfold asgT
  simp
@[simp] theorem setAll_cons {is : List Nat} {x : D} : setAll (i :: is) (x :: xs) r = setAll is xs (r.set i (some x)) := rfl
@[simp] theorem setAll_nil : setAll [] xs r = r := by cases xs <;> rfl
@[simp] theorem wipe_nil : wipeE r [] = r := rfl
@[simp] theorem wipe_cons {is : List Nat} : wipeE r (i :: is) = (wipeE r is).set i none := rfl
/-! ### comprehensions -/
def wcomp (cf : CF) (own : List Nat) (t : T) (c e : E) (r : Env) (ck : List (Nat × List D)) (xs : List D) : M (List D) := compL (chkAll ck) (fun x => noErr (compT (den cf c).t (upM (den cf e).v) t own r x)) xs
@[simp ↓] theorem ev_comp {own : List Nat} {t : T} {it : I} : wp (evR cf (.comp own t it c e) r m) (k := ⟨Q⟩) ↔ wp (evI cf it r m) (k := ⟨fun p m1 => wp (wcomp cf own t c e r p.2 p.1 m1) (k := ⟨fun ys m2 => ys.length ≤ sizeLine ∧ Q (.tl ys) m2⟩)⟩) := by
  unfold evR evI
  rw [den]
  with_unfolding_all exact wpM_bnd.trans (wp_iff fun _ _ => wpM_bnd.trans (wp_iff fun _ _ => by simp))
/-- one turn -/
def cturn (cf : CF) (own : List Nat) (t : T) (c e : E) (r : Env) (x : D) (m : Store) (Q : Option D → Store → Prop) : Prop :=
  wp (E := noErrK) (asgT t x (wipeE r own) m) (k := ⟨fun r1 m1 => wp (E := noErrK) (tst cf c r1 m1) (k := ⟨fun b m2 => (b = true → wp (E := noErrK) (evE cf e r1 m2) (k := ⟨fun d m3 => Q (some d) m3⟩)) ∧ (¬ b = true → Q none m2)⟩)⟩)
theorem wp_turn {own : List Nat} {t : T} {x : D} {Q : Option D → Store → Prop} : wp (noErr (compT (den cf c).t (upM (den cf e).v) t own r x) m) (k := ⟨Q⟩) ↔ cturn cf own t c e r x m Q := by
  rw [wpM_noErr]
  unfold compT cturn
  with_unfolding_all exact wpM_bnd.trans (wp_iff fun _ _ => wpM_bnd.trans (wp_iff fun _ _ => wpM_ite.trans (and_congr (imp_congr Iff.rfl wpM_bnd) Iff.rfl)))
theorem wcomp_nil {own : List Nat} {t : T} {ck : List (Nat × List D)} : wp (wcomp cf own t c e r ck [] m) (k := ⟨Qs⟩) ↔ wp (chkAll ck m) (k := ⟨fun _ m1 => Qs [] m1⟩) := by with_unfolding_all exact wpM_bnd
theorem wcomp_cons {own : List Nat} {t : T} {ck : List (Nat × List D)} {x : D} : wp (wcomp cf own t c e r ck (x :: xs) m) (k := ⟨Qs⟩) ↔ wp (chkAll ck m) (k := ⟨fun _ m1 => cturn cf own t c e r x m1 fun y m2 => wp (wcomp cf own t c e r ck xs m2) (k := ⟨fun ys m3 => Qs (match y with
    | some z => z :: ys
    | none => ys) m3⟩)⟩) :=
  wpM_bnd.trans (wp_iff fun _ _ => wpM_bnd.trans (wp_turn.trans (by
    unfold cturn
    with_unfolding_all exact wp_iff fun _ _ => wp_iff fun _ _ => and_congr (imp_congr Iff.rfl (wp_iff fun _ _ => wpM_bnd)) (imp_congr Iff.rfl wpM_bnd))))
/-- a comprehension by an invariant: what is done, the items so far, the store -/
theorem wcomp_inv {own : List Nat} {t : T} {ck : List (Nat × List D)} (Inv : Nat → List D → Store → Prop) (h0 : Inv 0 [] m)
    (step : ∀ i x acc m, xs[i]? = some x → Inv i acc m → wp (chkAll ck m) (k := ⟨fun _ m1 => cturn cf own t c e r x m1 fun y m2 => Inv (i + 1) (match y with
      | some z => acc ++ [z]
      | none => acc) m2⟩))
    (hend : ∀ acc m, Inv xs.length acc m → wp (chkAll ck m) (k := ⟨fun _ m1 => Qs acc m1⟩)) : wp (wcomp cf own t c e r ck xs m) (k := ⟨Qs⟩) := by
  have go : ∀ (rest : List D) (i : Nat) (acc : List D) (m : Store) (Qs : List D → Store → Prop), (∀ j, rest[j]? = xs[i + j]?) → i + rest.length = xs.length → Inv i acc m → (∀ acc' m, Inv xs.length (acc ++ acc') m → wp (chkAll ck m) (k := ⟨fun _ m1 => Qs acc' m1⟩)) → wp (wcomp cf own t c e r ck rest m) (k := ⟨Qs⟩) := by
    intro rest
    induction rest with
    | nil =>
      intro i acc m Qs hj hl hi he
      rw [wcomp_nil]
      have : i = xs.length := by simpa using hl
      subst this
      with_unfolding_all exact he [] m (by simpa using hi)
    | cons x rest ih =>
      intro i acc m Qs hj hl hi he
      rw [wcomp_cons]
      have hx : xs[i]? = some x := by have := hj 0; simpa using this.symm
      refine (step i x acc m hx hi).imp fun _ m1 h => ?_
      have key : ∀ (y : Option D) (m2 : Store), Inv (i + 1) (match y with
        | some z => acc ++ [z]
        | none => acc) m2 → wp (wcomp cf own t c e r ck rest m2) (k := ⟨fun ys m3 => Qs (match y with
        | some z => z :: ys
        | none => ys) m3⟩) := fun y m2 h2 => by
        refine ih (i + 1) _ m2 _ (fun j => by have := hj (j + 1); rw [List.getElem?_cons_succ] at this; rw [this]; congr 1; omega) (by simp at hl; omega) h2 fun acc' m3 h3 => ?_
        cases y with
        | none => with_unfolding_all exact he acc' m3 h3
        | some z => with_unfolding_all exact he (z :: acc') m3 (by simpa using h3)
      unfold cturn at h ⊢
      with_unfolding_all exact h.imp fun r1 m2 h => h.imp fun b m3 h => ⟨fun hb => (h.1 hb).imp fun d m4 h => key (some d) m4 h, fun hb => key none m3 (h.2 hb)⟩
  with_unfolding_all exact go xs 0 [] m Qs (fun j => by simp) (by simp) h0 fun acc' m h => hend acc' m (by simpa using h)
/-- a comprehension that changes nothing: xs are l's -/
theorem wcomp_pure {α : Type} {own : List Nat} {t : T} {ck : List (Nat × List D)} (l : List α) (enc : α → D) (p : α → Bool) (f : α → D) (hx : xs = l.map enc)
    (hck : wp (chkAll ck m) (k := ⟨fun _ m1 => m1 = m⟩))
    (step : ∀ a ∈ l, cturn cf own t c e r (enc a) m fun y m2 => m2 = m ∧ y = if p a then some (f a) else none)
    (hend : Qs ((l.filter p).map f) m) : wp (wcomp cf own t c e r ck xs m) (k := ⟨Qs⟩) := by
  subst hx
  refine wcomp_inv (fun i acc m1 => m1 = m ∧ acc = ((l.take i).filter p).map f) ⟨rfl, by simp⟩ (fun i x acc m1 hx ⟨e1, e2⟩ => ?_) (fun acc m1 ⟨e1, e2⟩ => ?_)
  · subst e1 e2
    refine hck.imp fun _ m1 e1 => ?_
    subst e1
    rw [List.getElem?_map] at hx
    cases q : l[i]? with
    | none => rw [q] at hx; cases hx
    | some a =>
      rw [q] at hx
      cases hx
      have ht : l.take (i + 1) = l.take i ++ [a] := by
        rw [List.take_add_one, q]
        rfl
      have h := step a (List.mem_of_getElem? q)
      have fin : ∀ y m2, m2 = m1 ∧ (y = if p a then some (f a) else none) → m2 = m1 ∧ (match y with
        | some z => ((l.take i).filter p).map f ++ [z]
        | none => ((l.take i).filter p).map f) = ((l.take (i + 1)).filter p).map f := fun y m2 ⟨h1, h2⟩ => by
        refine ⟨h1, ?_⟩
        subst h2
        rw [ht, List.filter_append, List.map_append]
        cases hp : p a <;> simp [hp]
      unfold cturn at h ⊢
      with_unfolding_all exact h.imp fun r1 m2 h => h.imp fun b m3 h => ⟨fun hb => (h.1 hb).imp fun d m4 h => fin _ _ h, fun hb => fin _ _ (h.2 hb)⟩
  · subst e1 e2
    refine hck.imp fun _ m1 e1 => ?_
    subst e1
    simpa using hend
end
end Pf

/-! Pf20: rules for statements, loops, calls; what stays in the store. -/
namespace Pf
open PySem
section
variable {Ks : ErrS} {cf : CF} {wf : Nat} {r : Env} {m : Store} {N : Env → Store → Prop} {R : D → Store → Prop} {B C : Env → Store → Prop} {a b : S} {e c o j : E} {t : T} {it : I} {i : Nat}
theorem ws_to {α : Type} {x : Res α} {k : α → Store → SR} : ws (x.to r k) (k := ⟨N, R, B, C⟩) ↔ wp (E := Ks.at r) x (k := ⟨fun y m1 => ws (k y m1) (k := ⟨N, R, B, C⟩)⟩) := by
  unfold Res.to
  cases x <;> with_unfolding_all exact Iff.rfl
theorem ws_iff {x : SR} {N' : Env → Store → Prop} {R' : D → Store → Prop} {B' C' : Env → Store → Prop} (hN : ∀ r m, N r m ↔ N' r m) (hR : ∀ r m, R r m ↔ R' r m) (hB : ∀ r m, B r m ↔ B' r m) (hC : ∀ r m, C r m ↔ C' r m) : ws x (k := ⟨N, R, B, C⟩) ↔ ws x (k := ⟨N', R', B', C'⟩) :=
  ⟨fun h => ws.mono h (fun a m => (hN a m).mp) (fun a m => (hR a m).mp) (fun a m => (hB a m).mp) fun a m => (hC a m).mp, fun h => ws.mono h (fun a m => (hN a m).mpr) (fun a m => (hR a m).mpr) (fun a m => (hB a m).mpr) fun a m => (hC a m).mpr⟩
@[simp ↓] theorem s_skip' : ws (exS cf wf .skip r m) (k := ⟨N, R, B, C⟩) ↔ N r m := by
  rw [exS]; with_unfolding_all exact Iff.rfl
@[simp ↓] theorem s_brk' : ws (exS cf wf .brk r m) (k := ⟨N, R, B, C⟩) ↔ B r m := by
  rw [exS]; with_unfolding_all exact Iff.rfl
@[simp ↓] theorem s_cont' : ws (exS cf wf .cont r m) (k := ⟨N, R, B, C⟩) ↔ C r m := by
  rw [exS]; with_unfolding_all exact Iff.rfl
@[simp ↓] theorem s_seq' : ws (exS cf wf (.seq a b) r m) (k := ⟨N, R, B, C⟩) ↔ ws (exS cf wf a r m) (k := ⟨fun r1 m1 => ws (exS cf wf b r1 m1) (k := ⟨N, R, B, C⟩), R, B, C⟩) := by
  rw [exS]
  unfold SM.seq
  cases exS cf wf a r m with
  | ok f r m => cases f <;> with_unfolding_all exact Iff.rfl
  | err e r m => with_unfolding_all exact Iff.rfl
  | stuck => with_unfolding_all exact Iff.rfl
@[simp ↓] theorem s_set' : ws (exS cf wf (.set t e) r m) (k := ⟨N, R, B, C⟩) ↔ wp (E := Ks.at r) (evE cf e r m) (k := ⟨fun x m1 => wp (E := Ks.at r) (asgT t x r m1) (k := ⟨fun r2 m2 => N r2 m2⟩)⟩) := by
  rw [exS]
  with_unfolding_all exact ws_to.trans (wp_iff fun _ _ => ws_to)
@[simp ↓] theorem s_par' {k : Nat} {e2 : E} : ws (exS cf wf (.par i k e e2) r m) (k := ⟨N, R, B, C⟩) ↔ wp (E := Ks.at r) (evE cf e r m) (k := ⟨fun x m1 => wp (E := Ks.at r) (evE cf e2 r m1) (k := ⟨fun y m2 => N ((r.set i (some x)).set k (some y)) m2⟩)⟩) := by
  rw [exS]
  with_unfolding_all exact ws_to.trans (wp_iff fun _ _ => ws_to)
@[simp ↓] theorem s_par3' {k l : Nat} {e2 e3 : E} : ws (exS cf wf (.par3 i k l e e2 e3) r m) (k := ⟨N, R, B, C⟩) ↔ wp (E := Ks.at r) (evE cf e r m) (k := ⟨fun x m1 => wp (E := Ks.at r) (evE cf e2 r m1) (k := ⟨fun y m2 => wp (E := Ks.at r) (evE cf e3 r m2) (k := ⟨fun z m3 => N (((r.set i (some x)).set k (some y)).set l (some z)) m3⟩)⟩)⟩) := by
  rw [exS]
  with_unfolding_all exact ws_to.trans (wp_iff fun _ _ => ws_to.trans (wp_iff fun _ _ => ws_to))
@[simp ↓] theorem s_setix' : ws (exS cf wf (.setix o j e) r m) (k := ⟨N, R, B, C⟩) ↔ wp (E := Ks.at r) (evE cf e r m) (k := ⟨fun x m1 => wp (E := Ks.at r) (evR cf o r m1) (k := ⟨fun l m2 => wp (E := Ks.at r) (evR cf j r m2) (k := ⟨fun k m3 => wp (E := Ks.at r) (setIx l k x m3) (k := ⟨fun _ m4 => N r m4⟩)⟩)⟩)⟩) := by
  rw [exS]
  with_unfolding_all exact ws_to.trans (wp_iff fun _ _ => ws_to.trans (wp_iff fun _ _ => ws_to.trans (wp_iff fun _ _ => ws_to)))
@[simp ↓] theorem setIx_ref {Ek : ErrK} {h : Nat} {n : Pf.R} {x : D} {Q : Unit → Store → Prop} : wp (setIx (.d (.ref h)) n x m) (k := ⟨Q⟩) ↔ ∃ c, m[h]? = some c ∧ wp (setC h n x c m) (k := ⟨Q⟩) := by
  unfold setIx
  simp
@[simp ↓] theorem setC_lst {Ek : ErrK} {h : Nat} {n : Int} {x : D} {xs : List D} {Q : Unit → Store → Prop} : wp (setC h (.d (.int n)) x (.lst xs) m) (k := ⟨Q⟩) ↔ ∃ j, L2.ixN xs.length n = some j ∧ Q () (m.set h (.lst (xs.set j x))) := by
  unfold setC
  simp
@[simp ↓] theorem setC_dct {Ek : ErrK} {h : Nat} {n : Pf.R} {x : D} {ks : List (Key × D)} {Q : Unit → Store → Prop} : wp (setC h n x (.dct ks) m) (k := ⟨Q⟩) ↔ wp (keyR n m) (k := ⟨fun k m1 => ks.length < sizeLine ∧ Q () (m1.set h (.dct (putD ks k x)))⟩) := by
  unfold setC
  simp
  exact wp_iff fun _ _ => by simp
@[simp ↓] theorem s_expr' : ws (exS cf wf (.expr e) r m) (k := ⟨N, R, B, C⟩) ↔ wp (E := Ks.at r) (evR cf e r m) (k := ⟨fun _ m1 => N r m1⟩) := by
  rw [exS]
  with_unfolding_all exact ws_to
@[simp ↓] theorem s_ret' : ws (exS cf wf (.ret e) r m) (k := ⟨N, R, B, C⟩) ↔ wp (E := Ks.at r) (evE cf e r m) (k := ⟨fun x m1 => R x m1⟩) := by
  rw [exS]
  with_unfolding_all exact ws_to
@[simp ↓] theorem s_ite' : ws (exS cf wf (.ite c a b) r m) (k := ⟨N, R, B, C⟩) ↔ wp (E := Ks.at r) (tst cf c r m) (k := ⟨fun k m1 => (k = true → ws (exS cf wf a r m1) (k := ⟨N, R, B, C⟩)) ∧ (¬ k = true → ws (exS cf wf b r m1) (k := ⟨N, R, B, C⟩))⟩) := by
  rw [exS]
  refine ws_to.trans (wp_iff fun k m1 => ?_)
  cases k
  · with_unfolding_all exact ⟨fun h => ⟨fun z => (nomatch z), fun _ => h⟩, fun h => h.2 (by decide)⟩
  · with_unfolding_all exact ⟨fun h => ⟨fun _ => h, fun z => absurd rfl z⟩, fun h => h.1 rfl⟩
/-! ### exceptions -/
@[simp ↓] theorem s_raise' {c : Str} {fs : List Str} {es : Es} : ws (exS cf wf (.raise c fs es) r m) (k := ⟨N, R, B, C⟩) ↔ wp (E := Ks.at r) (evDs cf es r m) (k := ⟨fun xs m1 => (xs.length = fs.length ∧ fs.Nodup) ∧ Ks.e ⟨c, fs.zip xs⟩ r m1⟩) := by
  rw [exS]
  refine ws_to.trans (wp_iff fun xs m1 => ?_)
  by_cases h : xs.length = fs.length ∧ fs.Nodup
  · rw [if_pos h]
    with_unfolding_all exact ⟨fun z => ⟨h, z⟩, fun z => z.2⟩
  · rw [if_neg h]
    with_unfolding_all exact ⟨fun z => z.elim, fun z => h z.1⟩
/-- the clauses at an exception -/
def wexc [Ks : ErrS] (cf : CF) (wf : Nat) (h : Hs) (e : Exc) (r : Env) (m : Store) (N : Env → Store → Prop) (R : D → Store → Prop) (B C : Env → Store → Prop) : Prop := ws (exH cf wf h e r m) (k := ⟨N, R, B, C⟩)
theorem exS_try {h : Hs} : exS cf wf (.try_ a h) r m = (match exS cf wf a r m with
    | .err e r1 m1 => exH cf wf h e r1 m1
    | x => x) := by rw [exS]; try rfl
theorem exH_cons {e : Exc} {all cs : List Str} {i : Option Nat} {h : Hs} : exH cf wf (.cons all cs i a h) e r m = (if e.cls ∈ all then (if e.cls ∈ cs then (exS cf wf a (hotE i e m r) (m ++ [.exc e.fs])).behind i else exH cf wf h e r m) else .stuck) := by rw [exH] <;> rfl
@[simp ↓] theorem s_try' {h : Hs} : ws (exS cf wf (.try_ a h) r m) (k := ⟨N, R, B, C⟩) ↔ ws (E := ⟨fun e r1 m1 => wexc cf wf h e r1 m1 N R B C⟩) (exS cf wf a r m) (k := ⟨N, R, B, C⟩) := by
  rw [exS_try]
  cases exS cf wf a r m with
  | ok f r m => cases f <;> with_unfolding_all exact Iff.rfl
  | err e r m => with_unfolding_all exact Iff.rfl
  | stuck => with_unfolding_all exact Iff.rfl
@[simp ↓] theorem wexc_nil {e : Exc} : wexc cf wf .nil e r m N R B C ↔ Ks.e e r m := by
  unfold wexc
  rw [exH]
  with_unfolding_all exact Iff.rfl
theorem ws_behind {i : Option Nat} {x : SR} : ws (x.behind i) (k := ⟨N, R, B, C⟩) ↔ ws (E := noErrS) x (k := ⟨fun r m => N (match i with
    | some i => r.set i none
    | none => r) m, R, fun r m => B (match i with
    | some i => r.set i none
    | none => r) m, fun r m => C (match i with
    | some i => r.set i none
    | none => r) m⟩) := by
  cases x with
  | ok f r m => cases f <;> with_unfolding_all exact Iff.rfl
  | err e r m => with_unfolding_all exact Iff.rfl
  | stuck => with_unfolding_all exact Iff.rfl
@[simp ↓] theorem wexc_as {e : Exc} {all cs : List Str} {h : Hs} : wexc cf wf (.cons all cs (some i) a h) e r m N R B C ↔ e.cls ∈ all ∧ (e.cls ∈ cs → ws (E := noErrS) (exS cf wf a (r.set i (some (.tup [.str e.cls, .ref m.length]))) (m ++ [.exc e.fs])) (k := ⟨fun r m => N (r.set i none) m, R, fun r m => B (r.set i none) m, fun r m => C (r.set i none) m⟩)) ∧
    (¬ e.cls ∈ cs → wexc cf wf h e r m N R B C) := by
  unfold wexc
  rw [exH_cons]
  by_cases h1 : e.cls ∈ all
  · rw [if_pos h1]
    by_cases h2 : e.cls ∈ cs
    · rw [if_pos h2, ws_behind]
      exact ⟨fun z => ⟨h1, fun _ => z, fun k => absurd h2 k⟩, fun z => z.2.1 h2⟩
    · rw [if_neg h2]
      exact ⟨fun z => ⟨h1, fun k => absurd k h2, fun _ => z⟩, fun z => z.2.2 h2⟩
  · rw [if_neg h1]
    with_unfolding_all exact ⟨fun z => z.elim, fun z => h1 z.1⟩
@[simp ↓] theorem wexc_only {e : Exc} {all cs : List Str} {h : Hs} : wexc cf wf (.cons all cs none a h) e r m N R B C ↔ e.cls ∈ all ∧ (e.cls ∈ cs → ws (E := noErrS) (exS cf wf a r (m ++ [.exc e.fs])) (k := ⟨N, R, B, C⟩)) ∧ (¬ e.cls ∈ cs → wexc cf wf h e r m N R B C) := by
  unfold wexc
  rw [exH_cons]
  by_cases h1 : e.cls ∈ all
  · rw [if_pos h1]
    by_cases h2 : e.cls ∈ cs
    · rw [if_pos h2, ws_behind]
      exact ⟨fun z => ⟨h1, fun _ => z, fun k => absurd h2 k⟩, fun z => z.2.1 h2⟩
    · rw [if_neg h2]
      exact ⟨fun z => ⟨h1, fun k => absurd k h2, fun _ => z⟩, fun z => z.2.2 h2⟩
  · rw [if_neg h1]
    with_unfolding_all exact ⟨fun z => z.elim, fun z => h1 z.1⟩
/-! ### loops -/
def wfor (cf : CF) (wf : Nat) (t : T) (b : S) (ck : List (Nat × List D)) (xs : List D) : SM := forL (chkAll ck) (forT t (exS cf wf b)) xs
@[simp ↓] theorem s_for' : ws (exS cf wf (.for_ t it b) r m) (k := ⟨N, R, B, C⟩) ↔ wp (E := Ks.at r) (evI cf it r m) (k := ⟨fun p m1 => ws (wfor cf wf t b p.2 p.1 r m1) (k := ⟨N, R, B, C⟩)⟩) := by
  rw [exS]
  with_unfolding_all exact ws_to
def fturn [Ks : ErrS] (cf : CF) (wf : Nat) (t : T) (b : S) (x : D) (r : Env) (m : Store) (N : Env → Store → Prop) (R : D → Store → Prop) (B C : Env → Store → Prop) : Prop :=
  wp (E := Ks.at r) (asgT t x r m) (k := ⟨fun r2 m2 => ws (exS cf wf b r2 m2) (k := ⟨N, R, B, C⟩)⟩)
theorem wfor_nil {ck : List (Nat × List D)} : ws (wfor cf wf t b ck [] r m) (k := ⟨N, R, B, C⟩) ↔ wp (E := Ks.at r) (chkAll ck m) (k := ⟨fun _ m1 => N r m1⟩) := by with_unfolding_all exact ws_to
theorem wfor_cons {ck : List (Nat × List D)} {x : D} {xs : List D} : ws (wfor cf wf t b ck (x :: xs) r m) (k := ⟨N, R, B, C⟩) ↔ wp (E := Ks.at r) (chkAll ck m) (k := ⟨fun _ m1 => fturn cf wf t b x r m1 (fun r2 m2 => ws (wfor cf wf t b ck xs r2 m2) (k := ⟨N, R, B, C⟩)) R N (fun r2 m2 => ws (wfor cf wf t b ck xs r2 m2) (k := ⟨N, R, B, C⟩))⟩) := by
  refine ws_to.trans (wp_iff fun _ m1 => ?_)
  unfold fturn
  have e : ∀ {x : SR}, ws (match x with
    | .ok .nx r2 m2 => forL (chkAll ck) (forT t (exS cf wf b)) xs r2 m2
    | .ok .cont r2 m2 => forL (chkAll ck) (forT t (exS cf wf b)) xs r2 m2
    | .ok .brk r2 m2 => .ok .nx r2 m2
    | y => y) (k := ⟨N, R, B, C⟩) ↔ ws x (k := ⟨fun r2 m2 => ws (wfor cf wf t b ck xs r2 m2) (k := ⟨N, R, B, C⟩), R, N, fun r2 m2 => ws (wfor cf wf t b ck xs r2 m2) (k := ⟨N, R, B, C⟩)⟩) := fun {x} => by
    cases x with
    | ok f r m => cases f <;> with_unfolding_all exact Iff.rfl
    | err e r m => with_unfolding_all exact Iff.rfl
    | stuck => with_unfolding_all exact Iff.rfl
  with_unfolding_all exact e.trans ws_to
/-- a for by an invariant: turns done, names, store -/
theorem wfor_inv {ck : List (Nat × List D)} {xs : List D} (Inv : Nat → Env → Store → Prop) (h0 : Inv 0 r m)
    (step : ∀ i x r m, xs[i]? = some x → Inv i r m → wp (E := Ks.at r) (chkAll ck m) (k := ⟨fun _ m1 => fturn cf wf t b x r m1 (Inv (i + 1)) R N (Inv (i + 1))⟩))
    (hend : ∀ r m, Inv xs.length r m → wp (E := Ks.at r) (chkAll ck m) (k := ⟨fun _ m1 => N r m1⟩)) : ws (wfor cf wf t b ck xs r m) (k := ⟨N, R, B, C⟩) := by
  have go : ∀ (rest : List D) (i : Nat) (r : Env) (m : Store), (∀ j, rest[j]? = xs[i + j]?) → i + rest.length = xs.length → Inv i r m → ws (wfor cf wf t b ck rest r m) (k := ⟨N, R, B, C⟩) := by
    intro rest
    induction rest with
    | nil =>
      intro i r m hj hl hi
      rw [wfor_nil]
      have : i = xs.length := by simpa using hl
      subst this
      with_unfolding_all exact hend r m hi
    | cons x rest ih =>
      intro i r m hj hl hi
      rw [wfor_cons]
      have hx : xs[i]? = some x := by have := hj 0; simpa using this.symm
      have nxt : ∀ r2 m2, Inv (i + 1) r2 m2 → ws (wfor cf wf t b ck rest r2 m2) (k := ⟨N, R, B, C⟩) := fun r2 m2 h2 =>
        ih (i + 1) r2 m2 (fun j => by have := hj (j + 1); rw [List.getElem?_cons_succ] at this; rw [this]; congr 1; omega) (by simp at hl; omega) h2
      refine (step i x r m hx hi).imp fun _ m1 h => ?_
      unfold fturn at h ⊢
      with_unfolding_all exact h.imp fun r2 m2 h => ws.mono h nxt (fun _ _ z => z) (fun _ _ z => z) nxt
  with_unfolding_all exact go xs 0 r m (fun j => by simp) (by simp) h0
/-- the same over a typed list -/
theorem wfor_typed {α : Type} {ck : List (Nat × List D)} {xs : List D} (l : List α) (enc : α → D) (hx : xs = l.map enc) (Inv : Nat → Env → Store → Prop) (h0 : Inv 0 r m)
    (step : ∀ i x r m, l[i]? = some x → Inv i r m → wp (E := Ks.at r) (chkAll ck m) (k := ⟨fun _ m1 => fturn cf wf t b (enc x) r m1 (Inv (i + 1)) R N (Inv (i + 1))⟩))
    (hend : ∀ r m, Inv l.length r m → wp (E := Ks.at r) (chkAll ck m) (k := ⟨fun _ m1 => N r m1⟩)) : ws (wfor cf wf t b ck xs r m) (k := ⟨N, R, B, C⟩) := by
  subst hx
  refine wfor_inv Inv h0 (fun i x r m hx hi => ?_) (fun r m h => hend r m (by simpa using h))
  rw [List.getElem?_map] at hx
  cases q : l[i]? with
  | none => rw [q] at hx; cases hx
  | some a =>
    rw [q] at hx
    cases hx
    with_unfolding_all exact step i a r m q hi
/-- a while by a measure -/
theorem s_while' (Inv : Nat → Env → Store → Prop) {k : Nat} (hk : k < wf) (h0 : Inv k r m)
    (step : ∀ k r m, Inv k r m → wp (E := Ks.at r) (tst cf c r m) (k := ⟨fun q m1 => (q = true → ws (exS cf wf b r m1) (k := ⟨fun r2 m2 => ∃ k', k' < k ∧ Inv k' r2 m2, R, N, fun r2 m2 => ∃ k', k' < k ∧ Inv k' r2 m2⟩)) ∧ (¬ q = true → N r m1)⟩)) : ws (exS cf wf (.whl c b) r m) (k := ⟨N, R, B, C⟩) := by
  rw [exS]
  have go : ∀ (n k : Nat), k < n → ∀ r m, Inv k r m → ws (whileL (tst cf c) (exS cf wf b) n r m) (k := ⟨N, R, B, C⟩) := by
    intro n
    induction n with
    | zero => intro k h; omega
    | succ n ih =>
      intro k hk r m hi
      rw [whileL]
      refine ws_to.mpr ((step k r m hi).imp fun q m1 h => ?_)
      cases q with
      | false => with_unfolding_all exact h.2 (by decide)
      | true =>
        have h := h.1 rfl
        rw [if_pos rfl]
        cases q : exS cf wf b r m1 with
        | ok f r2 m2 =>
          rw [q] at h
          cases f with
          | nx =>
            unfold ws at h
            obtain ⟨k', h1, h2⟩ := h
            with_unfolding_all exact ih k' (by omega) r2 m2 h2
          | cont =>
            unfold ws at h
            obtain ⟨k', h1, h2⟩ := h
            with_unfolding_all exact ih k' (by omega) r2 m2 h2
          | brk => with_unfolding_all exact h
          | ret d => with_unfolding_all exact h
        | err e r2 m2 => rw [q] at h; with_unfolding_all exact h
        | stuck => rw [q] at h; unfold ws at h; exact h.elim
  with_unfolding_all exact go wf k hk r m h0
end
/-! ### calls -/
section
variable {Ek : ErrK} {fs : List Fn} {wf n : Nat} {f : Fn} {xs : List D} {m : Store} {Q : D → Store → Prop} {x : Str}
@[simp] theorem filled_nil {n : Nat} {xs : List D} : filled n [] xs = xs := by
  unfold filled
  simp
theorem wp_call {bd : Fn → List D → M D} (hf : findFn fs x = some f) (hd : f.dfl = []) : wp (callOf fs bd x xs m) (k := ⟨Q⟩) ↔ xs.length = f.pars ∧ wp (bd f xs m) (k := ⟨Q⟩) := by
  unfold callOf
  rw [hf]
  simp only [wpM_bind, wpM_chk, hd, filled_nil, List.length_nil, Nat.add_zero]
  with_unfolding_all exact and_congr ⟨fun h => Nat.le_antisymm h.1 h.2, fun h => ⟨by omega, by omega⟩⟩ Iff.rfl
theorem wp_callD {bd : Fn → List D → M D} (hf : findFn fs x = some f) : wp (callOf fs bd x xs m) (k := ⟨Q⟩) ↔ (xs.length ≤ f.pars ∧ f.pars ≤ xs.length + f.dfl.length) ∧ wp (bd f (filled f.pars f.dfl xs) m) (k := ⟨Q⟩) := by
  unfold callOf
  rw [hf]
  simp only [wpM_bind, wpM_chk]
@[simp] theorem filled_eq {n : Nat} {dfl xs : List D} : filled n dfl xs = xs ++ dfl.drop (dfl.length - (n - xs.length)) := rfl
theorem wp_body : wp (bodyN fs wf (n + 1) f xs m) (k := ⟨Q⟩) ↔ ws (E := Ek.up) (exS (callOf fs (bodyN fs wf n)) wf f.body (startE f xs) m) (k := ⟨fun _ m1 => Q .non m1, Q, fun _ _ => False, fun _ _ => False⟩) := by
  rw [bodyN_succ]
  unfold runFn
  cases exS (callOf fs (bodyN fs wf n)) wf f.body (startE f xs) m with
  | ok f r m => cases f <;> with_unfolding_all exact Iff.rfl
  | err e r m => with_unfolding_all exact Iff.rfl
  | stuck => with_unfolding_all exact Iff.rfl
end
/-! ### what stays in the store -/
/-- all cells but h (none: all cells) stay -/
structure Keep (h : Option Nat) (m m' : Store) : Prop where
  len : m.length ≤ m'.length
  get : ∀ j, j < m.length → some j ≠ h → m'[j]? = m[j]?
section
variable {h : Option Nat} {m m1 m2 : Store} {j p : Nat} {c : Cell} {xs : List D}
theorem Keep.refl (h : Option Nat) (m : Store) : Keep h m m := ⟨Nat.le_refl _, fun _ _ _ => rfl⟩
theorem Keep.trans (a : Keep h m m1) (b : Keep h m1 m2) : Keep h m m2 := ⟨Nat.le_trans a.len b.len, fun j hj hn => (b.get j (Nat.lt_of_lt_of_le hj a.len) hn).trans (a.get j hj hn)⟩
theorem Keep.of_none (a : Keep none m m1) : Keep h m m1 := ⟨a.len, fun j hj _ => a.get j hj (by simp)⟩
theorem Keep.cell (a : Keep h m m1) (e : m[j]? = some c) (hn : some j ≠ h) : m1[j]? = some c := (a.get j (List.getElem?_eq_some_iff.mp e).1 hn).trans e
theorem Keep.new (h : Option Nat) (m : Store) (l : List Cell) : Keep h m (m ++ l) := ⟨by simp, fun j hj _ => List.getElem?_append_left hj⟩
theorem Keep.set (m : Store) (j : Nat) (c : Cell) : Keep (some j) m (m.set j c) := ⟨by simp, fun i hi hn => List.getElem?_set_ne fun e => hn (by rw [e])⟩
/-- what lies above the bound may change -/
theorem Keep.set_new (a : Keep h m m1) (hj : m.length ≤ j) (c : Cell) : Keep h m (m1.set j c) := ⟨by simpa using a.len, fun i hi hn => by
  rw [List.getElem?_set_ne (by omega)]
  with_unfolding_all exact a.get i hi hn⟩
theorem Keep.app (a : Keep h m m1) (l : List Cell) : Keep h m (m1 ++ l) := a.trans (Keep.new h m1 l)
theorem lt_of_get (e : m[j]? = some c) : j < m.length := (List.getElem?_eq_some_iff.mp e).1
theorem get_new : (m ++ [c])[m.length]? = some c := by simp
theorem get_set (e : m[j]? = some c) (c' : Cell) : (m.set j c')[j]? = some c' := List.getElem?_set_self (lt_of_get e)
end
end Pf

set_option exponentiation.threshold 3000
/-! Pf21: what can be shown; indices; the law's draws. -/
namespace Pf
open PySem
/-! ### data without lists -/
mutual
def D.py : D → PyData
  | .non => .none
  | .bl b => .bool b
  | .int i => .int i
  | .str x => .str x
  | .tup xs => .tuple (D.pys xs)
  | .ref _ => .none
def D.pys : List D → List PyData
  | [] => []
  | x :: xs => D.py x :: D.pys xs
end
/-- b: how much text, d: how deep -/
inductive Flat : Nat → Nat → D → Prop
  | non {b d : Nat} : Flat b d .non
  | bl {b d : Nat} (t : Bool) : Flat b d (.bl t)
  | int {b d : Nat} {i : Int} (h : i.natAbs < 10 ^ 60) : Flat b d (.int i)
  | str {b d : Nat} {x : Str} (h : ∀ c ∈ x.cps.toList, c < 16 ^ 8) (l : x.cps.size ≤ b) : Flat b d (.str x)
  | tup {b d n : Nat} {xs : List D} (h : ∀ x ∈ xs, Flat b d x) (l : xs.length ≤ n) {b' : Nat} (hb : n * (b + 1) ≤ b') : Flat b' (d + 1) (.tup xs)
theorem Flat.mono {b d b' d' : Nat} {x : D} (h : Flat b d x) (hb : b ≤ b') (hd : d ≤ d') : Flat b' d' x := by
  induction h generalizing b' d' with
  | non => exact .non
  | bl t => exact .bl t
  | int h => exact .int h
  | str h l => exact .str h (Nat.le_trans l hb)
  | tup h l hb2 ih =>
    cases d' with
    | zero => omega
    | succ d' => exact .tup (fun x hx => ih x hx (Nat.le_refl _) (by omega)) l (Nat.le_trans hb2 hb)
theorem pys_map {xs : List D} : D.pys xs = xs.map D.py := by
  induction xs with
  | nil => rfl
  | cons x xs ih => rw [D.pys, ih]; rfl
theorem log2_small {n : Nat} (h : n < 10 ^ 60) : n.log2 < 1920 := by
  by_cases h0 : n = 0
  · subst h0; decide
  · have : n < 2 ^ 1920 := Nat.lt_trans h (by decide)
    exact (Nat.log2_lt h0).mpr this
theorem int_short {i : Int} (h : i.natAbs < 10 ^ 60) : (PyData.shown (.int i)).length ≤ 61 := by
  have e := PySem.int_text_length_le10 (k := 60) (by decide) h
  show (Str.ofString (toString i)).length ≤ 61
  rw [PySem.ofString_length]
  exact e
theorem Flat.all {b d : Nat} {x : D} (h : Flat b d x) : ∀ (m : Store) (n : Nat), d ≤ n → dat m n x = some x.py ∧ x.py.showable = true ∧ x.py.leavesShort 61 = true ∧ x.py.bulk ≤ b := by
  induction h with
  | non => intro m n _; refine ⟨by cases n <;> rfl, rfl, rfl, Nat.zero_le _⟩
  | bl t => intro m n _; refine ⟨by cases n <;> rfl, rfl, rfl, Nat.zero_le _⟩
  | int h =>
    intro m n _
    refine ⟨by cases n <;> rfl, ?_, ?_, Nat.zero_le _⟩
    · simp only [D.py, PyData.showable, decide_eq_true_eq]
      exact log2_small h
    · simp only [D.py, PyData.leavesShort, decide_eq_true_eq]
      exact int_short h
  | str h l =>
    intro m n _
    refine ⟨by cases n <;> rfl, rfl, ?_, ?_⟩
    · simp only [D.py, PyData.leavesShort, List.all_eq_true, decide_eq_true_eq]
      exact h
    · simpa only [D.py, PyData.bulk] using l
  | @tup b d k xs h l b' hb ih =>
    intro m n hn
    cases n with
    | zero => omega
    | succ n =>
      have key : ∀ ys : List D, (∀ x ∈ ys, x ∈ xs) → optAll (dat m n) ys = some (D.pys ys) ∧ PyData.showableAll (D.pys ys) = true ∧ PyData.leavesShortAll 61 (D.pys ys) = true ∧ PyData.bulkAll (D.pys ys) ≤ ys.length * (b + 1) := by
        intro ys
        induction ys with
        | nil => intro _; refine ⟨rfl, rfl, rfl, Nat.zero_le _⟩
        | cons y ys ihy =>
          intro hy
          obtain ⟨a1, a2, a3, a4⟩ := ih y (hy y List.mem_cons_self) m n (by omega)
          obtain ⟨b1, b2, b3, b4⟩ := ihy fun x hx => hy x (List.mem_cons_of_mem _ hx)
          refine ⟨by simp only [optAll, a1, b1, D.pys], by simp only [D.pys, PyData.showableAll, a2, b2, Bool.and_self], by simp only [D.pys, PyData.leavesShortAll, a3, b3, Bool.and_self], ?_⟩
          simp only [D.pys, PyData.bulkAll, List.length_cons, Nat.add_mul]
          omega
      obtain ⟨a1, a2, a3, a4⟩ := key xs fun _ z => z
      refine ⟨by simp only [dat, a1, D.py, Option.map_some], by simpa only [D.py, PyData.showable] using a2, by simpa only [D.py, PyData.leavesShort] using a3, ?_⟩
      simp only [D.py, PyData.bulk]
      exact Nat.le_trans a4 (Nat.le_trans (Nat.mul_le_mul_right _ l) hb)
theorem fits_bulk {d : PyData} (hl : d.leavesShort 61 = true) (hw : d.bulk ≤ 2 ^ 18) : d.shown.length ≤ sizeLine := by
  have h := PyData.shown_le_bulk 61 (by omega) d hl
  have e : (2 : Nat) ^ 18 = 262144 := by decide
  rw [sizeLine_eq]
  omega
theorem Flat.shows {b d : Nat} {x : D} (h : Flat b d x) (hb : b ≤ 2 ^ 18) (hd : d ≤ 60) (m : Store) : Shows m (.d x) x.py := by
  obtain ⟨a1, a2, a3, a4⟩ := h.all m deepest hd
  refine ⟨?_, a2, fits_bulk a3 (Nat.le_trans a4 hb)⟩
  show (match dat m deepest x with
    | some p => Res.ok p m
    | none => .stuck) = _
  rw [a1]
theorem Flat.map {α : Type} {b d n : Nat} {f : α → D} {l : List α} (h : ∀ a ∈ l, Flat b d (f a)) (hl : l.length ≤ n) : Flat (n * (b + 1)) (d + 1) (.tup (l.map f)) :=
  .tup (fun x hx => by
    obtain ⟨a, ha, rfl⟩ := List.mem_map.mp hx
    exact h a ha) (by simpa using hl) (Nat.le_refl _)
theorem Flat.pair {b d : Nat} {x y : D} (hx : Flat b d x) (hy : Flat b d y) : Flat (2 * (b + 1)) (d + 1) (.tup [x, y]) :=
  .tup (n := 2) (fun z hz => by
    rcases List.mem_cons.mp hz with rfl | hz
    · exact hx
    · rcases List.mem_cons.mp hz with rfl | hz
      · exact hy
      · cases hz) (by simp) (Nat.le_refl _)
section
variable {m : Store} {Q : R → Store → Prop} {b d : Nat} {x : D}
theorem repr_flat {Ek : ErrK} (h : Flat b d x) (hb : b ≤ 2 ^ 18) (hd : d ≤ 60) : wp (bfR .repr [.d x] m) (k := ⟨Q⟩) ↔ Q (.d (.str x.py.shown)) m := repr_of (h.shows hb hd m)
end
/-- data without truth values and lists: == is sameness -/
inductive Simple : Nat → D → Prop
  | non {d : Nat} : Simple d .non
  | int {d : Nat} (i : Int) : Simple d (.int i)
  | str {d : Nat} {x : Str} (h : PyData.strOk x = true) : Simple d (.str x)
  | tup {d : Nat} {xs : List D} (h : ∀ x ∈ xs, Simple d x) : Simple (d + 1) (.tup xs)
theorem Simple.mono {d d' : Nat} {x : D} (h : Simple d x) (hd : d ≤ d') : Simple d' x := by
  induction h generalizing d' with
  | non => exact .non
  | int i => exact .int i
  | str h => exact .str h
  | tup h ih =>
    cases d' with
    | zero => omega
    | succ d' => exact .tup fun x hx => ih x hx (by omega)
theorem Simple.lay {d : Nat} {x : D} (h : Simple d x) : x.py.canLay0 = true ∧ ∀ (m : Store) (n : Nat), d ≤ n → dat m n x = some x.py := by
  induction h with
  | non => exact ⟨rfl, fun m n _ => by cases n <;> rfl⟩
  | int i => exact ⟨rfl, fun m n _ => by cases n <;> rfl⟩
  | str h => exact ⟨h, fun m n _ => by cases n <;> rfl⟩
  | @tup d xs h ih =>
    have key : ∀ ys : List D, (∀ x ∈ ys, x ∈ xs) → PyData.canLayAll0 (D.pys ys) = true ∧ ∀ (m : Store) (n : Nat), d ≤ n → optAll (dat m n) ys = some (D.pys ys) := by
      intro ys
      induction ys with
      | nil => intro _; exact ⟨rfl, fun _ _ _ => rfl⟩
      | cons y ys ihy =>
        intro hy
        obtain ⟨a1, a2⟩ := ih y (hy y List.mem_cons_self)
        obtain ⟨b1, b2⟩ := ihy fun x hx => hy x (List.mem_cons_of_mem _ hx)
        refine ⟨by simp only [D.pys, PyData.canLayAll0, a1, b1, Bool.and_self], fun m n hn => ?_⟩
        simp only [optAll, a2 m n hn, b2 m n hn, D.pys]
    obtain ⟨a1, a2⟩ := key xs fun _ z => z
    refine ⟨by simpa only [D.py, PyData.canLay0] using a1, fun m n hn => ?_⟩
    cases n with
    | zero => omega
    | succ n => simp only [dat, a2 m n (by omega), D.py, Option.map_some]
theorem Simple.eqv {d : Nat} {x : D} (h : Simple d x) : ∀ {d' : Nat} {y : D}, Simple d' y → PyData.eqv x.py y.py = decide (x = y) := by
  induction h with
  | non =>
    intro d' y hy
    cases hy <;> simp [D.py, PyData.eqv]
  | int i =>
    intro d' y hy
    cases hy <;> simp [D.py, PyData.eqv]
    rename_i j
    by_cases e : i = j <;> simp [e]
  | @str d z h =>
    intro d' y hy
    cases hy <;> simp [D.py, PyData.eqv]
    rename_i j _
    by_cases e : z = j <;> simp [e]
  | @tup d xs h ih =>
    intro d' y hy
    cases hy with
    | non => simp [D.py, PyData.eqv]
    | int i => simp [D.py, PyData.eqv]
    | str h => simp [D.py, PyData.eqv]
    | @tup d' ys hy =>
      have key : ∀ (zs : List D), (∀ x ∈ zs, x ∈ xs) → ∀ (ws : List D), (∀ x ∈ ws, x ∈ ys) → PyData.eqvAll (D.pys zs) (D.pys ws) = decide (zs = ws) := by
        intro zs
        induction zs with
        | nil =>
          intro _ ws _
          cases ws <;> simp [D.pys, PyData.eqvAll]
        | cons z zs ihz =>
          intro hz ws hw
          cases ws with
          | nil => simp [D.pys, PyData.eqvAll]
          | cons w ws =>
            have e1 := ih z (hz z List.mem_cons_self) (hy w (hw w List.mem_cons_self))
            have e2 := ihz (fun x hx => hz x (List.mem_cons_of_mem _ hx)) ws fun x hx => hw x (List.mem_cons_of_mem _ hx)
            simp only [D.pys, PyData.eqvAll, e1, e2]
            by_cases c1 : z = w <;> by_cases c2 : zs = ws <;> simp [c1, c2]
      have := key xs (fun _ z => z) ys fun _ z => z
      simp only [D.py, PyData.eqv, this]
      by_cases e : xs = ys <;> simp [e]
theorem eqR_simple {Ek : ErrK} {d d' : Nat} {x y : D} {m : Store} {Q : Bool → Store → Prop} (hx : Simple d x) (hy : Simple d' y) (h1 : d ≤ 60) (h2 : d' ≤ 60) : wp (eqR (.d x) (.d y) m) (k := ⟨Q⟩) ↔ Q (decide (x = y)) m := by
  have gen : wp ((do
      let p ← datR (.d x)
      let q ← datR (.d y)
      chk (p.canLay0 = true ∧ q.canLay0 = true)
      return PyData.eqv p q : M Bool) m) (k := ⟨Q⟩) ↔ Q (decide (x = y)) m := by
    have e1 : datR (.d x) m = .ok x.py m := by
      show (match dat m deepest x with
        | some p => Res.ok p m
        | none => .stuck) = _
      rw [hx.lay.2 m deepest h1]
    have e2 : datR (.d y) m = .ok y.py m := by
      show (match dat m deepest y with
        | some p => Res.ok p m
        | none => .stuck) = _
      rw [hy.lay.2 m deepest h2]
    rw [wpM_bind, e1, wpM_ok, wpM_bind, e2, wpM_ok]
    simp [hx.lay.1, hy.lay.1, hx.eqv hy]
  cases x <;> cases y <;> first
    | exact gen
    | simp [eqR]
theorem eq_simple {Ek : ErrK} {d d' : Nat} {x y : D} {m : Store} {Q : R → Store → Prop} (hx : Simple d x) (hy : Simple d' y) (h1 : d ≤ 60) (h2 : d' ≤ 60) : wp (cmpR .Eq (.d x) (.d y) m) (k := ⟨Q⟩) ↔ Q (.d (.bl (decide (x = y)))) m := by
  unfold cmpR
  rw [wpM_bind, eqR_simple hx hy h1 h2]
  simp
theorem ne_simple {Ek : ErrK} {d d' : Nat} {x y : D} {m : Store} {Q : R → Store → Prop} (hx : Simple d x) (hy : Simple d' y) (h1 : d ≤ 60) (h2 : d' ≤ 60) : wp (cmpR .NotEq (.d x) (.d y) m) (k := ⟨Q⟩) ↔ Q (.d (.bl (!decide (x = y)))) m := by
  unfold cmpR
  rw [wpM_bind, eqR_simple hx hy h1 h2]
  simp
/-! ### indices -/
@[simp] theorem ixN_nat {n i : Nat} : L2.ixN n (i : Int) = if i < n then some i else none := by
  unfold L2.ixN
  have e1 : (0 : Int) ≤ i := by omega
  by_cases h : i < n
  · simp [e1, h]
  · simp [e1, h]
@[simp] theorem atI_nat {α : Type} {xs : List α} {i : Nat} : L2.atI xs (i : Int) = xs[i]? := by
  unfold L2.atI
  rw [ixN_nat]
  by_cases h : i < xs.length
  · simp [h]
  · simp [h]
@[simp] theorem atI_lit {α : Type} {xs : List α} {i : Nat} : L2.atI xs (no_index (OfNat.ofNat i) : Int) = xs[i]? := atI_nat (i := i)
@[simp] theorem atI_0 {α : Type} {xs : List α} : L2.atI xs 0 = xs[0]? := atI_nat (i := 0)
@[simp] theorem atI_1 {α : Type} {xs : List α} : L2.atI xs 1 = xs[1]? := atI_nat (i := 1)
@[simp] theorem ixN_lit {n i : Nat} : L2.ixN n (no_index (OfNat.ofNat i) : Int) = if i < n then some i else none := ixN_nat (i := i)
@[simp] theorem ixN_0 {n : Nat} : L2.ixN n 0 = if 0 < n then some 0 else none := ixN_nat (i := 0)
@[simp] theorem ixN_1 {n : Nat} : L2.ixN n 1 = if 1 < n then some 1 else none := ixN_nat (i := 1)
@[simp] theorem atI_neg1 {α : Type} {xs : List α} : L2.atI xs (-1) = xs.getLast? := by
  unfold L2.atI L2.ixN
  rw [if_neg (by omega), List.getLast?_eq_getElem?]
  by_cases h : xs = []
  · subst h; simp
  · have : 0 < xs.length := List.length_pos_iff.mpr h
    rw [if_pos (by omega)]
    show xs[(-1 + (xs.length : Int)).toNat]? = _
    congr 1
    omega
theorem atI_of {α : Type} {xs : List α} {i : Int} (h : 0 ≤ i) : L2.atI xs i = xs[i.toNat]? := by
  have := atI_nat (xs := xs) (i := i.toNat)
  rwa [Int.toNat_of_nonneg h] at this
/-! ### the feed -/
/-- the feed at h: its script below it; k: at most so many draws are done -/
structure Feed (h k : Nat) (m : Store) : Prop where
  ex : ∃ (hs : Nat) (at_ c n : Int) (is : List Int) (cl : Cell), m[h]? = some (.lst [.ref hs, .int at_, .int c, .int n]) ∧ hs < h ∧ m[hs]? = some cl ∧ (cl.isL = true ∧ cl.items = is.map .int) ∧ 0 ≤ at_ ∧ 0 ≤ n ∧ n ≤ k
section
variable {h k k' p : Nat} {m m' : Store} {c : Cell} {l : List Cell}
theorem Feed.mono (f : Feed h k m) (hk : k ≤ k') : Feed h k' m := by
  obtain ⟨hs, a, c, n, is, cl, h1, h2, h3, h4, h5, h6, h7⟩ := f.ex
  exact ⟨hs, a, c, n, is, cl, h1, h2, h3, h4, h5, h6, by omega⟩
theorem Feed.lt (f : Feed h k m) : h < m.length := by
  obtain ⟨hs, a, c, n, is, cl, h1, _⟩ := f.ex
  exact lt_of_get h1
theorem Feed.keep (f : Feed h k m) (kp : Keep none m m') : Feed h k m' := by
  obtain ⟨hs, a, c, n, is, cl, h1, h2, h3, h4, h5, h6, h7⟩ := f.ex
  exact ⟨hs, a, c, n, is, cl, kp.cell h1 (by simp), h2, kp.cell h3 (by simp), h4, h5, h6, h7⟩
theorem Feed.set (f : Feed h k m) (hp : h < p) : Feed h k (m.set p c) := by
  obtain ⟨hs, a, c', n, is, cl, h1, h2, h3, h4, h5, h6, h7⟩ := f.ex
  exact ⟨hs, a, c', n, is, cl, by rw [List.getElem?_set_ne (by omega)]; exact h1, h2, by rw [List.getElem?_set_ne (by omega)]; exact h3, h4, h5, h6, h7⟩
theorem Feed.app (f : Feed h k m) : Feed h k (m ++ l) := f.keep (Keep.new none m l)
end
end Pf

/-! Pf22: the law's draws. -/
namespace Pf
open PySem
def f_l_feed : Fn := ⟨"_law_feed", 1, 1, [],
  (.ret (.lst (.cons (.sl (.var 0) false true .never (.cst (.int 63))) (.cons (.cst (.int 0)) (.cons (.cst (.int 0)) (.cons (.cst (.int 0)) .nil))))))⟩
def f_l_draw : Fn := ⟨"_law_draw", 2, 6, [],
  (.seq (.setix (.var 0) (.cst (.int 3)) (.bin .Add (.ix (.var 0) (.cst (.int 3))) (.cst (.int 1))))
  (.seq (.ite (.cmp .Gt (.ix (.var 0) (.cst (.int 2))) (.cst (.int 0)))
    (.seq (.set (.name 2) (.bin .Mod (.ix (.var 0) (.cst (.int 2))) (.var 1)))
    (.seq (.setix (.var 0) (.cst (.int 2)) (.bin .FloorDiv (.ix (.var 0) (.cst (.int 2))) (.var 1)))
    (.ret (.var 2))))
    .skip)
  (.seq (.set (.name 3) (.ix (.var 0) (.cst (.int 1))))
  (.seq (.setix (.var 0) (.cst (.int 1)) (.bin .Add (.var 3) (.cst (.int 1))))
  (.seq (.set (.name 4) (.ite (.cmp .Gt (.bif .len (.cons (.ix (.var 0) (.cst (.int 0))) .nil)) (.cst (.int 0))) (.ix (.ix (.var 0) (.cst (.int 0))) (.bin .Mod (.var 3) (.bif .len (.cons (.ix (.var 0) (.cst (.int 0))) .nil)))) (.cst (.int 9))))
  (.seq (.ite (.and (.cmp .GtE (.var 4) (.bin .Pow (.cst (.int 10)) (.cst (.int 18)))) (.cmp .Lt (.var 3) (.bif .len (.cons (.ix (.var 0) (.cst (.int 0))) .nil))))
    (.seq (.setix (.var 0) (.cst (.int 2)) (.bin .FloorDiv (.var 4) (.var 1)))
    (.ret (.bin .Mod (.var 4) (.var 1))))
    .skip)
  (.seq (.set (.name 5) (.bin .Mod (.bin .Pow (.bin .Add (.bin .Add (.bin .Mod (.var 4) (.cst (.int 2147483629))) (.bin .Mult (.cst (.int 60013)) (.ix (.var 0) (.cst (.int 3))))) (.cst (.int 23))) (.cst (.int 5))) (.cst (.int 2147483647))))
  (.ret (.bin .Mod (.bin .FloorDiv (.bin .Mod (.bin .Pow (.bin .Add (.var 5) (.bin .Mult (.bin .Mult (.cst (.int 91801)) (.ix (.var 0) (.cst (.int 3)))) (.ix (.var 0) (.cst (.int 3))))) (.cst (.int 5))) (.cst (.int 2147483587))) (.cst (.int 64))) (.var 1))))))))))⟩
def f_l_same : Fn := ⟨"_law_same", 2, 2, [],
  (.ret (.cmp .Eq (.bif .repr (.cons (.var 0) .nil)) (.bif .repr (.cons (.var 1) .nil))))⟩
theorem fmod_v {a b : Int} (hb : 1 ≤ b) : ∃ v : Nat, a.fmod b = v ∧ (v : Int) < b := by
  have h1 := Int.fmod_nonneg_of_pos a (b := b) (by omega)
  have h2 := Int.fmod_lt_of_pos a (b := b) (by omega)
  exact ⟨(a.fmod b).toNat, by omega, by omega⟩
theorem Feed.step {h k : Nat} {m : Store} {hs : Nat} {a c n : Int} {is : List Int} {cl : Cell} (h2 : hs < h) (h1 : m[h]? = some (.lst [.ref hs, .int a, .int c, .int n])) (h3 : m[hs]? = some cl) (h4 : cl.isL = true ∧ cl.items = is.map .int) {a' c' n' : Int} (h5 : 0 ≤ a') (h6 : 0 ≤ n') (h7 : n' ≤ k) : Feed h k (m.set h (.lst [.ref hs, .int a', .int c', .int n'])) :=
  ⟨hs, a', c', n', is, cl, get_set h1 _, h2, by rw [List.getElem?_set_ne (by omega)]; exact h3, h4, h5, h6, h7⟩
/-- a draw -/
theorem draw_ok {fs : List Fn} {wf n h k : Nat} {m : Store} {many : Int} (f : Feed h k m) (hk : k < 1000000) (h1 : 1 ≤ many) (h2 : many < 1000000000) :
    wp (bodyN fs wf (n + 1) f_l_draw [.ref h, .int many] m) (k := ⟨fun d m' => ∃ v : Nat, d = .int v ∧ (v : Int) < many ∧ Feed h (k + 1) m' ∧ Keep (some h) m m' ∧ m'.length = m.length⟩) := by
  obtain ⟨hs, a, c, n, is, cl, e1, e2, e3, ⟨e8, e4⟩, e5, e6, e7⟩ := f.ex
  have hlt := lt_of_get e1
  have hne : hs ≠ h := by omega
  rw [wp_body]
  have g1 : ∀ c2, (m.set h c2)[h]? = some c2 := fun c2 => get_set e1 c2
  have g2 : ∀ c2, (m.set h c2)[hs]? = some cl := fun c2 => by rw [List.getElem?_set_ne (by omega)]; exact e3
  simp [f_l_draw, startE, e1, g1, g2, e4, e8, ixC_L e8]
  have F : ∀ a' c' : Int, 0 ≤ a' → Feed h (k + 1) (m.set h (.lst [.ref hs, .int a', .int c', .int (n + 1)])) := fun a' c' ha => Feed.step e2 e1 e3 ⟨e8, e4⟩ ha (by omega) (by omega)
  have Kp := fun c2 => Keep.set m h c2
  have nz : ¬ many = 0 := by omega
  have tail : ∀ x : Int, bigMul 60013 (n + 1) ∧ (x.fmod 2147483629 + 60013 * (n + 1) + 23).natAbs < 18446744073709551616 ∧ bigMul 91801 (n + 1) ∧ bigMul (91801 * (n + 1)) (n + 1) ∧
      (((x.fmod 2147483629 + 60013 * (n + 1) + 23) ^ 5).fmod 2147483647 + 91801 * (n + 1) * (n + 1)).natAbs < 18446744073709551616 := fun x => by
    have b1 := Int.fmod_nonneg_of_pos x (b := 2147483629) (by omega)
    have b2 := Int.fmod_lt_of_pos x (b := 2147483629) (by omega)
    have b3 := Int.fmod_nonneg_of_pos ((x.fmod 2147483629 + 60013 * (n + 1) + 23) ^ 5) (b := 2147483647) (by omega)
    have b4 := Int.fmod_lt_of_pos ((x.fmod 2147483629 + 60013 * (n + 1) + 23) ^ 5) (b := 2147483647) (by omega)
    have b5 : (n + 1) * (n + 1) ≤ 1000001 * 1000001 := Int.mul_le_mul (by omega) (by omega) (by omega) (by omega)
    have b6 : 0 ≤ (n + 1) * (n + 1) := Int.mul_nonneg (by omega) (by omega)
    have b7 : 91801 * (n + 1) * (n + 1) = 91801 * ((n + 1) * (n + 1)) := Int.mul_assoc _ _ _
    refine ⟨.inl (by decide), by omega, .inl (by decide), .inr (by omega), ?_⟩
    rw [b7]
    generalize (n + 1) * (n + 1) = t at *
    generalize ((x.fmod 2147483629 + 60013 * (n + 1) + 23) ^ 5).fmod 2147483647 = y at *
    omega
  have out : ∀ (x : Int) (c2 : Cell), Feed h (k + 1) (m.set h c2) → ∃ v : Nat, x.fmod many = v ∧ (v : Int) < many ∧ Feed h (k + 1) (m.set h c2) ∧ Keep (some h) m (m.set h c2) := fun x c2 hf => by
    obtain ⟨v, h1, h2⟩ := fmod_v (a := x) h1
    exact ⟨v, h1, h2, hf, Kp _⟩
  refine ⟨fun _ => ⟨nz, ⟨nz, by omega⟩, out _ _ (F _ _ e5)⟩, fun _ => ⟨fun hl => ?_, fun _ => ?_⟩⟩
  · obtain ⟨v, v1, v2⟩ := fmod_v (a := a) (b := (is.length : Int)) (by omega)
    have v3 : v < is.length := by omega
    refine ⟨List.ne_nil_of_length_pos hl, .int is[v], by rw [v1, atI_nat, List.getElem?_map, List.getElem?_eq_getElem v3]; rfl, ?_⟩
    simp [g1, g2, e4, e8]
    refine ⟨fun _ => ⟨fun _ => ⟨⟨nz, by omega⟩, nz, out _ _ (F _ _ (by omega))⟩, fun _ => ?_⟩, fun _ => ?_⟩
    all_goals
      obtain ⟨t1, t2, t3, t4, t5⟩ := tail is[v]
      exact ⟨t1, t2, t3, t4, t5, nz, out _ _ (F _ _ (by omega))⟩
  · obtain ⟨t1, t2, t3, t4, t5⟩ := tail 9
    exact ⟨t1, t2, t3, t4, t5, nz, out _ _ (F _ _ (by omega))⟩
/-- two data of one text -/
theorem same_ok {fs : List Fn} {wf n b d : Nat} {m : Store} {x : D} (h : Flat b d x) (hb : b ≤ 2 ^ 18) (hd : d ≤ 60) : wp (bodyN fs wf (n + 1) f_l_same [x, x] m) (k := ⟨fun y m' => y = .bl true ∧ m' = m⟩) := by
  rw [wp_body]
  simp [f_l_same, startE, repr_flat h hb hd]
end Pf

/-! Pf23: more laws of lists and numbers; the feed's birth. -/
namespace Pf
open PySem
section
variable {α β : Type} {xs : List α}
theorem cut_map {f : α → β} {lo hi : Option Int} : cut (xs.map f) lo hi = (cut xs lo hi).map f := by
  unfold cut
  simp [List.map_drop, List.map_take]
@[simp] theorem cut_to {n : Nat} : cut xs none (some (n : Int)) = xs.take n := by
  unfold cut
  rw [HT.sIx_nat, HT.sIx_none]
  simp only [List.drop_zero, Nat.sub_zero]
  rw [List.take_eq_take_iff]
  omega
@[simp] theorem cut_from {n : Nat} : cut xs (some (n : Int)) none = xs.drop n := by
  unfold cut
  rw [HT.sIx_nat, HT.sIx_none, List.take_of_length_le (by simp)]
  by_cases h : n ≤ xs.length
  · rw [Nat.min_eq_left h]
  · rw [Nat.min_eq_right (by omega), List.drop_length, List.drop_eq_nil_of_le (by omega)]
@[simp] theorem cut_to_lit {n : Nat} : cut xs none (some (no_index (OfNat.ofNat n) : Int)) = xs.take n := cut_to (n := n)
@[simp] theorem cut_from_lit {n : Nat} : cut xs (some (no_index (OfNat.ofNat n) : Int)) none = xs.drop n := cut_from (n := n)
end
@[simp] theorem upto_len {lo : Int} {n : Nat} : (upto lo n).length = n := by
  unfold upto
  simp
theorem upto_get {lo : Int} {n i : Nat} {x : D} (h : (upto lo n)[i]? = some x) : i < n ∧ x = .int (lo + i) := by
  unfold upto at h
  rw [List.getElem?_map] at h
  by_cases hi : i < n
  · rw [List.getElem?_range hi] at h
    cases h
    exact ⟨hi, rfl⟩
  · rw [List.getElem?_eq_none (by simp; omega)] at h
    cases h
theorem upto_0 {n : Nat} : upto 0 n = (List.range n).map fun (i : Nat) => D.int (i : Int) := by
  unfold upto
  simp
theorem enumD_map {α : Type} {l : List α} {f : α → D} : enumD (l.map f) = l.zipIdx.map fun p => D.tup [.int (p.2 : Int), f p.1] := by
  unfold enumD
  rw [List.zipIdx_map, List.map_map]
  rfl
theorem range_map_get {α : Type} {n i : Nat} {f : Nat → α} (h : i < n) : ((List.range n).map f)[i]? = some (f i) := by
  rw [List.getElem?_map, List.getElem?_range h]
  rfl
theorem range_map_set {α : Type} {n k : Nat} {f g : Nat → α} {x : α} (hk : x = g k) (h : ∀ j, j < n → j ≠ k → f j = g j) : ((List.range n).map f).set k x = (List.range n).map g := by
  apply List.ext_getElem?
  intro i
  by_cases hi : i < n
  · by_cases e : k = i
    · subst e
      rw [List.getElem?_set_self (by simpa using hi), range_map_get hi, hk]
    · rw [List.getElem?_set_ne e, range_map_get hi, range_map_get hi, h i hi (fun z => e z.symm)]
  · rw [List.getElem?_eq_none (by simp; omega), List.getElem?_eq_none (by simp; omega)]
@[simp] theorem fmod_nat {m n : Nat} : (m : Int).fmod (n : Int) = ((m % n : Nat) : Int) := (Int.ofNat_fmod m n).symm
@[simp] theorem fdiv_nat {m n : Nat} : (m : Int).fdiv (n : Int) = ((m / n : Nat) : Int) := (Int.ofNat_fdiv m n).symm
@[simp] theorem atI_emod {α : Type} {xs : List α} {a b : Nat} : L2.atI xs ((a : Int) % (b : Int)) = xs[a % b]? := by
  rw [← Int.natCast_emod, atI_nat]
theorem map_get {α β : Type} {xs : List α} {f : α → β} {i : Nat} {a : α} (h : xs[i]? = some a) : (xs.map f)[i]? = some (f a) := by
  rw [List.getElem?_map, h]
  rfl
theorem lt_get {α : Type} {xs : List α} {i : Nat} {a : α} (h : xs[i]? = some a) : i < xs.length := (List.getElem?_eq_some_iff.mp h).1
theorem getD_get {α : Type} {xs : List α} {i : Nat} {a d : α} (h : xs[i]? = some a) : xs.getD i d = a := by
  rw [List.getD_eq_getElem?_getD, h]
  rfl
theorem get_getD {α : Type} {xs : List α} {i : Nat} {d : α} (h : i < xs.length) : xs[i]? = some (xs.getD i d) := by
  rw [List.getD_eq_getElem?_getD, List.getElem?_eq_getElem h]
  rfl
theorem at_eq {α : Type} {xs : List α} {i : Nat} {a : α} (h : xs[i]? = some a) (hi : i < xs.length) : xs[i] = a := by
  rw [List.getElem?_eq_getElem hi] at h
  exact Option.some.inj h
theorem range_succ_map {α : Type} {n : Nat} {f : Nat → α} : (List.range (n + 1)).map f = (List.range n).map f ++ [f n] := by
  rw [List.range_succ, List.map_append]
  rfl
theorem get_all {α : Type} {xs : List α} {P : α → Prop} {v : Nat} (hv : v < xs.length) (h : ∀ x ∈ xs, P x) : ∃ x, xs[v]? = some x ∧ P x := ⟨xs[v], List.getElem?_eq_getElem hv, h _ (List.getElem_mem hv)⟩
@[simp ↓] theorem cut_str {Ek : ErrK} {m : Store} {Q : R → Store → Prop} {x : Str} {lo hi : Option Int} : wp (cutR (.d (.str x)) lo hi m) (k := ⟨Q⟩) ↔ x.length ≤ sizeLine ∧ Q (.d (.str (L2.cutS x lo hi))) m := by
  unfold cutR
  simp
/-! ### a tuple of typed things -/
def tupOf {α : Type} (f : α → D) (l : List α) : D := .tup (l.map f)
theorem atI_map {α β : Type} {l : List α} {f : α → β} {i : Int} : L2.atI (l.map f) i = (L2.atI l i).map f := by
  unfold L2.atI
  rw [List.length_map]
  cases L2.ixN l.length i with
  | none => rfl
  | some j => simp
section
variable {α : Type} {f : α → D} {l k : List α} {m : Store} {Q : R → Store → Prop} {i : Int}
@[simp ↓] theorem ix_tupOf {Ek : ErrK} : wp (ixR (.d (tupOf f l)) (.d (.int i)) m) (k := ⟨Q⟩) ↔ ∃ a, L2.atI l i = some a ∧ Q (.d (f a)) m := by
  unfold tupOf
  rw [ix_tup, atI_map]
  cases L2.atI l i <;> simp
@[simp ↓] theorem len_tupOf {Ek : ErrK} : wp (bfR .len [.d (tupOf f l)] m) (k := ⟨Q⟩) ↔ Q (.d (.int l.length)) m := by
  unfold tupOf
  rw [len_tup, List.length_map]
@[simp ↓] theorem walk_tupOf {Ek : ErrK} {Qi : List D × List (Nat × List D) → Store → Prop} : wp (walkR (.d (tupOf f l)) m) (k := ⟨Qi⟩) ↔ Qi (l.map f, []) m := by
  unfold tupOf
  rw [wk_tup]
@[simp ↓] theorem enum_tupOf {Ek : ErrK} {Qi : List D × List (Nat × List D) → Store → Prop} : wp (enumR (.d (tupOf f l)) m) (k := ⟨Qi⟩) ↔ Qi (l.zipIdx.map fun p => D.tup [.int (p.2 : Int), f p.1], []) m := by
  unfold tupOf
  rw [enum_tup, enumD_map]
@[simp ↓] theorem seq_tupOf {Ek : ErrK} {Ql : List D → Store → Prop} : wp (seqR (.d (tupOf f l)) m) (k := ⟨Ql⟩) ↔ Ql (l.map f) m := by
  unfold tupOf
  rw [seqR_tup]
@[simp ↓] theorem rev_tupOf {Ek : ErrK} : wp (revR (.d (tupOf f l)) m) (k := ⟨Q⟩) ↔ Q (.d (tupOf f l.reverse)) m := by
  unfold tupOf
  rw [rev_tup, List.map_reverse]
@[simp ↓] theorem cut_tupOf {Ek : ErrK} {lo hi : Option Int} : wp (cutR (.d (tupOf f l)) lo hi m) (k := ⟨Q⟩) ↔ Q (.d (tupOf f (cut l lo hi))) m := by
  unfold tupOf
  rw [cut_tup, cut_map]
@[simp ↓] theorem add_tupOf {Ek : ErrK} : wp (binR .Add (.d (tupOf f l)) (.d (tupOf f k)) m) (k := ⟨Q⟩) ↔ l.length + k.length ≤ sizeLine ∧ Q (.d (tupOf f (l ++ k))) m := by
  unfold tupOf
  rw [add_tup, List.length_map, List.length_map, List.map_append]
@[simp ↓] theorem tru_tupOf {Ek : ErrK} {Qb : Bool → Store → Prop} : wp (tru (.d (tupOf f l)) m) (k := ⟨Qb⟩) ↔ Qb (!l.isEmpty) m := by
  unfold tupOf
  rw [tru_tup]
  cases l <;> simp
end
theorem flat_tupOf {α : Type} {b d n : Nat} {f : α → D} {l : List α} (h : ∀ a ∈ l, Flat b d (f a)) (hl : l.length ≤ n) : Flat (n * (b + 1)) (d + 1) (tupOf f l) := Flat.map h hl
/-! ### the greatest -/
theorem foldl_max : ∀ (xs : List Int) (a : Int), (xs.foldl max a = a ∨ xs.foldl max a ∈ xs) ∧ a ≤ xs.foldl max a ∧ ∀ x ∈ xs, x ≤ xs.foldl max a
  | [], a => ⟨.inl rfl, Int.le_refl _, fun _ h => nomatch h⟩
  | x :: xs, a => by
    obtain ⟨h1, h2, h3⟩ := foldl_max xs (max a x)
    rw [List.foldl_cons]
    refine ⟨?_, by omega, fun y hy => ?_⟩
    · rcases h1 with h1 | h1
      · rw [h1]
        by_cases h : a ≤ x
        · rw [Int.max_eq_right h]; exact .inr List.mem_cons_self
        · rw [Int.max_eq_left (by omega)]; exact .inl rfl
      · exact .inr (List.mem_cons_of_mem _ h1)
    · rcases List.mem_cons.mp hy with rfl | hy
      · omega
      · exact h3 y hy
theorem maxI_spec {xs : List Int} (h : xs ≠ []) : maxI xs ∈ xs ∧ ∀ x ∈ xs, x ≤ maxI xs := by
  cases xs with
  | nil => exact absurd rfl h
  | cons x xs =>
    obtain ⟨h1, h2, h3⟩ := foldl_max xs x
    show xs.foldl max x ∈ _ ∧ ∀ y ∈ _, y ≤ xs.foldl max x
    refine ⟨?_, fun y hy => ?_⟩
    · rcases h1 with h1 | h1
      · rw [h1]; exact List.mem_cons_self
      · exact List.mem_cons_of_mem _ h1
    · rcases List.mem_cons.mp hy with rfl | hy
      · exact h2
      · exact h3 y hy
/-- a comprehension without a test that changes nothing -/
theorem wcomp_map {cf : CF} {r : Env} {m : Store} {Qs : List D → Store → Prop} {c e : E} {xs : List D} {α : Type} {own : List Nat} {t : T} {ck : List (Nat × List D)} (l : List α) (enc : α → D) (f : α → D) (hx : xs = l.map enc)
    (hck : wp (chkAll ck m) (k := ⟨fun _ m1 => m1 = m⟩))
    (step : ∀ a ∈ l, cturn cf own t c e r (enc a) m fun y m2 => m2 = m ∧ y = some (f a))
    (hend : Qs (l.map f) m) : wp (wcomp cf own t c e r ck xs m) (k := ⟨Qs⟩) :=
  wcomp_pure l enc (fun _ => true) f hx hck (fun a ha => by simpa using step a ha) (by rw [List.filter_eq_self.mpr fun _ _ => rfl]; exact hend)
/-- the feed is laid -/
theorem feed_ok {fs : List Fn} {wf n : Nat} {ns : List Int} : wp (bodyN fs wf (n + 1) f_l_feed [.ref 0] [.frz (ns.map .int)]) (k := ⟨fun d m' => d = .ref 2 ∧ Feed 2 0 m'⟩) := by
  rw [wp_body]
  simp [f_l_feed, startE]
  refine ⟨by decide, 1, 0, 0, 0, ns.take 63, .lst ((ns.take 63).map .int), ?_, by omega, ?_, by simp, by omega, by omega, by omega⟩
  · simp
  · simp
/-- a law's promise from its end -/
theorem Txt.law_of {T : Txt} {fns : List Fn} {law : He.DefD} {f : Fn} {wf N n : Nat} (e : T.fns = fns) (ef : T.fnOf law = f) (h : ∀ ns : List Int, ns.length ≤ n → wp (bodyN fns wf N f [.ref 0] [.frz (ns.map .int)]) (k := ⟨fun d _ => d = .bl true⟩)) : T.Law law wf N n := fun ns hn => by
  have H := h ns hn
  subst e ef
  unfold wp at H
  cases q : bodyN T.fns wf N (T.fnOf law) [.ref 0] [.frz (ns.map .int)] with
  | ok d m =>
    rw [q] at H
    exact ⟨m, by rw [show d = .bl true from H]⟩
  | err e m => rw [q] at H; exact H.elim
  | stuck => rw [q] at H; exact H.elim
end Pf

set_option exponentiation.threshold 3000
/-! Pf24: data with lists that can be shown; in, index of simple data. -/
namespace Pf
open PySem
/-- b: how much text, d: how deep; lists stand in the store -/
inductive Sz (m : Store) : Nat → Nat → D → Prop
  | flat {b d : Nat} {x : D} (h : Flat b d x) : Sz m b d x
  | tup {b d n : Nat} {xs : List D} (h : ∀ x ∈ xs, Sz m b d x) (l : xs.length ≤ n) {b' : Nat} (hb : n * (b + 1) ≤ b') : Sz m b' (d + 1) (.tup xs)
  | ref {b d n h : Nat} {c : Cell} (e : m[h]? = some c) (hl : c.isL = true) (hx : ∀ x ∈ c.items, Sz m b d x) (l : c.items.length ≤ n) {b' : Nat} (hb : n * (b + 1) ≤ b') : Sz m b' (d + 1) (.ref h)
theorem Sz.mono {m : Store} {b d b' d' : Nat} {x : D} (h : Sz m b d x) (hb : b ≤ b') (hd : d ≤ d') : Sz m b' d' x := by
  induction h generalizing b' d' with
  | flat h => exact .flat (h.mono hb hd)
  | tup h l hb2 ih =>
    cases d' with
    | zero => omega
    | succ d' => exact .tup (fun x hx => ih x hx (Nat.le_refl _) (by omega)) l (Nat.le_trans hb2 hb)
  | ref e hl h l hb2 ih =>
    cases d' with
    | zero => omega
    | succ d' => exact .ref e hl (fun x hx => ih x hx (Nat.le_refl _) (by omega)) l (Nat.le_trans hb2 hb)
theorem Sz.keep {m m' : Store} (k : Keep none m m') {b d : Nat} {x : D} (h : Sz m b d x) : Sz m' b d x := by
  induction h with
  | flat h => exact .flat h
  | tup h l hb ih => exact .tup ih l hb
  | ref e hl h l hb ih => exact .ref (k.cell e (by simp)) hl ih l hb
/-- what it shows -/
theorem Sz.all {m : Store} {b d : Nat} {x : D} (h : Sz m b d x) : ∀ n, d ≤ n → ∃ p, dat m n x = some p ∧ p.showable = true ∧ p.leavesShort 61 = true ∧ p.bulk ≤ b := by
  have lst : ∀ {b d n k : Nat} {b' : Nat} {xs : List D}, (∀ x ∈ xs, ∀ n, d ≤ n → ∃ p, dat m n x = some p ∧ p.showable = true ∧ p.leavesShort 61 = true ∧ p.bulk ≤ b) → xs.length ≤ k → k * (b + 1) ≤ b' → d ≤ n → ∃ ps, optAll (dat m n) xs = some ps ∧ PyData.showableAll ps = true ∧ PyData.leavesShortAll 61 ps = true ∧ PyData.bulkAll ps ≤ b' := by
    intro b d n k b' xs ih hl hb hn
    have key : ∀ ys : List D, (∀ x ∈ ys, x ∈ xs) → ∃ ps, optAll (dat m n) ys = some ps ∧ PyData.showableAll ps = true ∧ PyData.leavesShortAll 61 ps = true ∧ PyData.bulkAll ps ≤ ys.length * (b + 1) := by
      intro ys
      induction ys with
      | nil => intro _; exact ⟨[], rfl, rfl, rfl, Nat.zero_le _⟩
      | cons y ys ihy =>
        intro hy
        obtain ⟨p, a1, a2, a3, a4⟩ := ih y (hy y List.mem_cons_self) n hn
        obtain ⟨ps, b1, b2, b3, b4⟩ := ihy fun x hx => hy x (List.mem_cons_of_mem _ hx)
        refine ⟨p :: ps, by simp only [optAll, a1, b1], by simp only [PyData.showableAll, a2, b2, Bool.and_self], by simp only [PyData.leavesShortAll, a3, b3, Bool.and_self], ?_⟩
        simp only [PyData.bulkAll, List.length_cons, Nat.add_mul]
        omega
    obtain ⟨ps, a1, a2, a3, a4⟩ := key xs fun _ z => z
    exact ⟨ps, a1, a2, a3, Nat.le_trans a4 (Nat.le_trans (Nat.mul_le_mul_right _ hl) hb)⟩
  induction h with
  | flat h =>
    intro n hn
    obtain ⟨a1, a2, a3, a4⟩ := h.all m n hn
    exact ⟨_, a1, a2, a3, a4⟩
  | tup h l hb ih =>
    intro n hn
    cases n with
    | zero => omega
    | succ n =>
      obtain ⟨ps, a1, a2, a3, a4⟩ := lst (n := n) ih l hb (by omega)
      refine ⟨.tuple ps, by simp only [dat, a1, Option.map_some], by simpa only [PyData.showable] using a2, by simpa only [PyData.leavesShort] using a3, by simpa only [PyData.bulk] using a4⟩
  | ref e hl h l hb ih =>
    intro n hn
    cases n with
    | zero => omega
    | succ n =>
      obtain ⟨ps, a1, a2, a3, a4⟩ := lst (n := n) ih l hb (by omega)
      refine ⟨.list ps, by simp only [dat, e, hl, if_true, a1, Option.map_some], by simpa only [PyData.showable] using a2, by simpa only [PyData.leavesShort] using a3, by simpa only [PyData.bulk] using a4⟩
/-- its text -/
def shw (m : Store) (x : D) : Str := match dat m deepest x with
  | some p => p.shown
  | none => ⟨#[]⟩
theorem Sz.shows {m : Store} {b d : Nat} {x : D} (h : Sz m b d x) (hb : b ≤ 2 ^ 18) (hd : d ≤ 60) : ∃ p, dat m deepest x = some p ∧ Shows m (.d x) p ∧ shw m x = p.shown := by
  obtain ⟨p, a1, a2, a3, a4⟩ := h.all deepest hd
  refine ⟨p, a1, ⟨?_, a2, fits_bulk a3 (Nat.le_trans a4 hb)⟩, by unfold shw; rw [a1]⟩
  show (match dat m deepest x with
    | some p => Res.ok p m
    | none => .stuck) = _
  rw [a1]
theorem repr_sz {Ek : ErrK} {m : Store} {Q : R → Store → Prop} {b d : Nat} {x : D} (h : Sz m b d x) (hb : b ≤ 2 ^ 18) (hd : d ≤ 60) : wp (bfR .repr [.d x] m) (k := ⟨Q⟩) ↔ Q (.d (.str (shw m x))) m := by
  obtain ⟨p, _, hs, e⟩ := h.shows hb hd
  rw [repr_of hs, e]
/-- a list on its way -/
theorem repr_tl {Ek : ErrK} {m : Store} {Q : R → Store → Prop} {b d n : Nat} {xs : List D} (h : ∀ x ∈ xs, Sz m b d x) (l : xs.length ≤ n) (hb : n * (b + 1) ≤ 2 ^ 18) (hd : d ≤ 60) : ∃ s, wp (bfR .repr [.tl xs] m) (k := ⟨Q⟩) ↔ Q (.d (.str s)) m := by
  have key : ∀ ys : List D, (∀ x ∈ ys, x ∈ xs) → ∃ ps, optAll (dat m deepest) ys = some ps ∧ PyData.showableAll ps = true ∧ PyData.leavesShortAll 61 ps = true ∧ PyData.bulkAll ps ≤ ys.length * (b + 1) := by
    intro ys
    induction ys with
    | nil => intro _; exact ⟨[], rfl, rfl, rfl, Nat.zero_le _⟩
    | cons y ys ihy =>
      intro hy
      obtain ⟨p, a1, a2, a3, a4⟩ := (h y (hy y List.mem_cons_self)).all deepest hd
      obtain ⟨ps, b1, b2, b3, b4⟩ := ihy fun x hx => hy x (List.mem_cons_of_mem _ hx)
      refine ⟨p :: ps, by simp only [optAll, a1, b1], by simp only [PyData.showableAll, a2, b2, Bool.and_self], by simp only [PyData.leavesShortAll, a3, b3, Bool.and_self], ?_⟩
      simp only [PyData.bulkAll, List.length_cons, Nat.add_mul]
      omega
  obtain ⟨ps, a1, a2, a3, a4⟩ := key xs fun _ z => z
  have hs : Shows m (.tl xs) (.list ps) := by
    refine ⟨?_, by simpa only [PyData.showable] using a2, fits_bulk (by simpa only [PyData.leavesShort] using a3) (by simp only [PyData.bulk]; exact Nat.le_trans a4 (Nat.le_trans (Nat.mul_le_mul_right _ l) hb))⟩
    show (match optAll (dat m deepest) xs with
      | some ps => Res.ok (PyData.list ps) m
      | none => .stuck) = _
    rw [a1]
  exact ⟨_, repr_of hs⟩
theorem optAll_congr {α β : Type} {f g : α → Option β} : ∀ {xs : List α}, (∀ x ∈ xs, f x = g x) → optAll f xs = optAll g xs
  | [], _ => rfl
  | x :: xs, h => by
    simp only [optAll, h x List.mem_cons_self, optAll_congr fun y hy => h y (List.mem_cons_of_mem _ hy)]
theorem dat_keep {m m' : Store} (k : Keep none m m') {b d : Nat} {x : D} (h : Sz m b d x) : ∀ n, d ≤ n → dat m' n x = dat m n x := by
  induction h with
  | flat h =>
    intro n hn
    rw [(h.all m n hn).1, (h.all m' n hn).1]
  | tup h l hb ih =>
    intro n hn
    cases n with
    | zero => omega
    | succ n => simp only [dat, optAll_congr fun x hx => ih x hx n (by omega)]
  | ref e hl h l hb ih =>
    intro n hn
    cases n with
    | zero => omega
    | succ n => simp only [dat, e, k.cell e (by simp), hl, if_true, optAll_congr fun x hx => ih x hx n (by omega)]
theorem shw_keep {m m' : Store} (k : Keep none m m') {b d : Nat} {x : D} (h : Sz m b d x) (hd : d ≤ 60) : shw m' x = shw m x := by
  unfold shw
  rw [dat_keep k h deepest hd]
theorem shw_flat {m : Store} {b d : Nat} {x : D} (h : Flat b d x) (hd : d ≤ 60) : shw m x = x.py.shown := by
  unfold shw
  rw [(h.all m deepest hd).1]
/-! ### in, index -/
section
variable {m : Store} {Qb : Bool → Store → Prop} {Q : R → Store → Prop} {d : Nat} {x : D} {xs : List D} {h : Nat}
theorem datR_d {p : PyData} (e : dat m deepest x = some p) : datR (.d x) m = .ok p m := by
  show (match dat m deepest x with
    | some p => Res.ok p m
    | none => .stuck) = _
  rw [e]
theorem pys_eqv {d' : Nat} (hx : Simple d x) (h : ∀ y ∈ xs, Simple d' y) : ((D.pys xs).any fun z => PyData.eqv z x.py) = decide (x ∈ xs) := by
  induction xs with
  | nil => rfl
  | cons y ys ih =>
    rw [D.pys, List.any_cons, (h y List.mem_cons_self).eqv hx, ih fun z hz => h z (List.mem_cons_of_mem _ hz)]
    by_cases e : y = x
    · simp [e]
    · have e2 : ¬ x = y := fun z => e z.symm
      simp [e, e2]
theorem simple_all {d' : Nat} (h : ∀ y ∈ xs, Simple d' y) : PyData.canLayAll0 (D.pys xs) = true ∧ ∀ (m : Store) (n : Nat), d' ≤ n → optAll (dat m n) xs = some (D.pys xs) := by
  induction xs with
  | nil => exact ⟨rfl, fun _ _ _ => rfl⟩
  | cons y ys ih =>
    obtain ⟨b1, b2⟩ := ih fun z hz => h z (List.mem_cons_of_mem _ hz)
    have a := (h y List.mem_cons_self).lay
    refine ⟨by simp only [D.pys, PyData.canLayAll0, a.1, b1, Bool.and_self], fun m n hn => ?_⟩
    simp only [optAll, a.2 m n hn, b2 m n hn, D.pys]
theorem inL_tup {Ek : ErrK} {d' : Nat} (hx : Simple d x) (h : ∀ y ∈ xs, Simple d' y) (h1 : d ≤ 60) (h2 : d' ≤ 59) : wp (inL (.d x) (.d (.tup xs)) m) (k := ⟨Qb⟩) ↔ Qb (decide (x ∈ xs)) m := by
  unfold inL
  rw [wpM_bind, datR_d (hx.lay.2 m deepest h1), wpM_ok, wpM_bind]
  have e : dat m deepest (.tup xs) = some (PyData.tuple (D.pys xs)) := by
    show (optAll (dat m 59) xs).map PyData.tuple = _
    rw [(simple_all h).2 m 59 h2]
    rfl
  rw [datR_d e, wpM_ok]
  simp [hx.lay.1, (simple_all h).1, pys_eqv hx h]
theorem inL_ref {Ek : ErrK} {d' : Nat} {c : Cell} (e : m[h]? = some c) (hl : c.isL = true) (hx : Simple d x) (hy : ∀ y ∈ c.items, Simple d' y) (h1 : d ≤ 60) (h2 : d' ≤ 59) : wp (inL (.d x) (.d (.ref h)) m) (k := ⟨Qb⟩) ↔ Qb (decide (x ∈ c.items)) m := by
  unfold inL
  rw [wpM_bind, datR_d (hx.lay.2 m deepest h1), wpM_ok, wpM_bind]
  have e : dat m deepest (.ref h) = some (PyData.list (D.pys c.items)) := by
    show (match m[h]? with
      | some c => if c.isL then (optAll (dat m 59) c.items).map PyData.list else none
      | none => none) = _
    rw [e]
    simp only [hl, if_true]
    rw [(simple_all hy).2 m 59 h2]
    rfl
  rw [datR_d e, wpM_ok]
  simp [hx.lay.1, (simple_all hy).1, pys_eqv hx hy]
theorem inL_tl {Ek : ErrK} {d' : Nat} (hx : Simple d x) (h : ∀ y ∈ xs, Simple d' y) (h1 : d ≤ 60) (h2 : d' ≤ 59) : wp (inL (.d x) (.tl xs) m) (k := ⟨Qb⟩) ↔ Qb (decide (x ∈ xs)) m := by
  unfold inL
  rw [wpM_bind, datR_d (hx.lay.2 m deepest h1), wpM_ok, wpM_bind]
  have e : datR (.tl xs) m = .ok (PyData.list (D.pys xs)) m := by
    show (match optAll (dat m deepest) xs with
      | some ps => Res.ok (PyData.list ps) m
      | none => .stuck) = _
    rw [(simple_all h).2 m deepest (by unfold deepest; omega)]
  rw [e, wpM_ok]
  simp [hx.lay.1, (simple_all h).1, pys_eqv hx h]
theorem in_tup {Ek : ErrK} {d' : Nat} (hx : Simple d x) (h : ∀ y ∈ xs, Simple d' y) (h1 : d ≤ 60) (h2 : d' ≤ 59) : wp (inR (.d x) (.d (.tup xs)) m) (k := ⟨Qb⟩) ↔ Qb (decide (x ∈ xs)) m := by
  rw [← inL_tup (Ek := Ek) (m := m) (Qb := Qb) hx h h1 h2]
  cases x <;> exact Iff.rfl
theorem in_tl {Ek : ErrK} {d' : Nat} (hx : Simple d x) (h : ∀ y ∈ xs, Simple d' y) (h1 : d ≤ 60) (h2 : d' ≤ 59) : wp (inR (.d x) (.tl xs) m) (k := ⟨Qb⟩) ↔ Qb (decide (x ∈ xs)) m := by
  rw [← inL_tl (Ek := Ek) (m := m) (Qb := Qb) hx h h1 h2]
  cases x <;> exact Iff.rfl
theorem in_lst {Ek : ErrK} {d' : Nat} (e : m[h]? = some (.lst xs)) (hx : Simple d x) (hy : ∀ y ∈ xs, Simple d' y) (h1 : d ≤ 60) (h2 : d' ≤ 59) : wp (inR (.d x) (.d (.ref h)) m) (k := ⟨Qb⟩) ↔ Qb (decide (x ∈ xs)) m := by
  rw [in_ref]
  simp only [e, Option.some.injEq, exists_eq_left']
  have := inL_ref (Ek := Ek) (Qb := Qb) e rfl hx hy h1 h2
  exact this
end
/-- lists of simple data are alike as they are the same -/
theorem eq_tls {Ek : ErrK} {d d' : Nat} {xs ys : List D} {m : Store} {Q : R → Store → Prop} (hx : ∀ x ∈ xs, Simple d x) (hy : ∀ x ∈ ys, Simple d' x) (h1 : d ≤ 60) (h2 : d' ≤ 60) : wp (cmpR .Eq (.tl xs) (.tl ys) m) (k := ⟨Q⟩) ↔ Q (.d (.bl (decide (xs = ys)))) m := by
  have e1 : datR (.tl xs) m = .ok (PyData.list (D.pys xs)) m := by
    show (match optAll (dat m deepest) xs with
      | some ps => Res.ok (PyData.list ps) m
      | none => .stuck) = _
    rw [(simple_all hx).2 m deepest h1]
  have e2 : datR (.tl ys) m = .ok (PyData.list (D.pys ys)) m := by
    show (match optAll (dat m deepest) ys with
      | some ps => Res.ok (PyData.list ps) m
      | none => .stuck) = _
    rw [(simple_all hy).2 m deepest h2]
  have ev : PyData.eqvAll (D.pys xs) (D.pys ys) = decide (xs = ys) := by
    have := (Simple.tup hx).eqv (Simple.tup hy)
    simp only [D.py, PyData.eqv] at this
    rw [this]
    by_cases e : xs = ys <;> simp [e]
  show wp ((eqR (.tl xs) (.tl ys) >>= fun b => pure (R.d (.bl b))) m) (k := ⟨Q⟩) ↔ _
  rw [wpM_bind]
  show wp ((datR (.tl xs) >>= fun p => datR (.tl ys) >>= fun q => chk (p.canLay0 = true ∧ q.canLay0 = true) >>= fun _ => (pure (PyData.eqv p q) : M Bool)) m) (k := ⟨fun b m1 => wp ((pure (R.d (.bl b)) : M R) m1) (k := ⟨Q⟩)⟩) ↔ _
  rw [wpM_bind, e1, wpM_ok, wpM_bind, e2, wpM_ok]
  simp [PyData.canLay0, (simple_all hx).1, (simple_all hy).1, PyData.eqv, ev]
theorem datR_tl {d : Nat} {xs : List D} {m : Store} (hx : ∀ x ∈ xs, Simple d x) (h1 : d ≤ 60) : datR (.tl xs) m = .ok (PyData.list (D.pys xs)) m := by
  show (match optAll (dat m deepest) xs with
    | some ps => Res.ok (PyData.list ps) m
    | none => .stuck) = _
  rw [(simple_all hx).2 m deepest h1]
theorem datR_ref {d h : Nat} {c : Cell} {m : Store} (e : m[h]? = some c) (hl : c.isL = true) (hx : ∀ x ∈ c.items, Simple d x) (h1 : d ≤ 59) : datR (.d (.ref h)) m = .ok (PyData.list (D.pys c.items)) m := by
  have e : dat m deepest (.ref h) = some (PyData.list (D.pys c.items)) := by
    show (match m[h]? with
      | some c => if c.isL then (optAll (dat m 59) c.items).map PyData.list else none
      | none => none) = _
    rw [e]
    simp only [hl, if_true]
    rw [(simple_all hx).2 m 59 h1]
    rfl
  rw [datR_d e]
theorem eqR_lists {Ek : ErrK} {d d' : Nat} {x y : R} {xs ys : List D} {m : Store} {Q : Bool → Store → Prop} (hg : eqR x y = (datR x >>= fun p => datR y >>= fun q => chk (p.canLay0 = true ∧ q.canLay0 = true) >>= fun _ => (pure (PyData.eqv p q) : M Bool)))
    (e1 : datR x m = .ok (PyData.list (D.pys xs)) m) (e2 : datR y m = .ok (PyData.list (D.pys ys)) m) (hx : ∀ x ∈ xs, Simple d x) (hy : ∀ x ∈ ys, Simple d' x) : wp (eqR x y m) (k := ⟨Q⟩) ↔ Q (decide (xs = ys)) m := by
  have ev : PyData.eqvAll (D.pys xs) (D.pys ys) = decide (xs = ys) := by
    have := (Simple.tup hx).eqv (Simple.tup hy)
    simp only [D.py, PyData.eqv] at this
    rw [this]
    by_cases e : xs = ys <;> simp [e]
  rw [hg, wpM_bind, e1, wpM_ok, wpM_bind, e2, wpM_ok]
  simp [PyData.canLay0, (simple_all hx).1, (simple_all hy).1, PyData.eqv, ev]
theorem ne_tls {Ek : ErrK} {d d' : Nat} {xs ys : List D} {m : Store} {Q : R → Store → Prop} (hx : ∀ x ∈ xs, Simple d x) (hy : ∀ x ∈ ys, Simple d' x) (h1 : d ≤ 60) (h2 : d' ≤ 60) : wp (cmpR .NotEq (.tl xs) (.tl ys) m) (k := ⟨Q⟩) ↔ Q (.d (.bl (!decide (xs = ys)))) m := by
  show wp ((eqR (.tl xs) (.tl ys) >>= fun b => pure (R.d (.bl (!b)))) m) (k := ⟨Q⟩) ↔ _
  rw [wpM_bind, eqR_lists rfl (datR_tl hx h1) (datR_tl hy h2) hx hy]
  exact wpM_pure
theorem eq_ref_tl {Ek : ErrK} {d d' h : Nat} {c : Cell} {ys : List D} {m : Store} {Q : R → Store → Prop} (e : m[h]? = some c) (hl : c.isL = true) (hx : ∀ x ∈ c.items, Simple d x) (hy : ∀ x ∈ ys, Simple d' x) (h1 : d ≤ 59) (h2 : d' ≤ 60) : wp (cmpR .Eq (.d (.ref h)) (.tl ys) m) (k := ⟨Q⟩) ↔ Q (.d (.bl (decide (c.items = ys)))) m := by
  show wp ((eqR (.d (.ref h)) (.tl ys) >>= fun b => pure (R.d (.bl b))) m) (k := ⟨Q⟩) ↔ _
  rw [wpM_bind, eqR_lists rfl (datR_ref e hl hx h1) (datR_tl hy h2) hx hy]
  exact wpM_pure
theorem ne_ref_tl {Ek : ErrK} {d d' h : Nat} {c : Cell} {ys : List D} {m : Store} {Q : R → Store → Prop} (e : m[h]? = some c) (hl : c.isL = true) (hx : ∀ x ∈ c.items, Simple d x) (hy : ∀ x ∈ ys, Simple d' x) (h1 : d ≤ 59) (h2 : d' ≤ 60) : wp (cmpR .NotEq (.d (.ref h)) (.tl ys) m) (k := ⟨Q⟩) ↔ Q (.d (.bl (!decide (c.items = ys)))) m := by
  show wp ((eqR (.d (.ref h)) (.tl ys) >>= fun b => pure (R.d (.bl (!b)))) m) (k := ⟨Q⟩) ↔ _
  rw [wpM_bind, eqR_lists rfl (datR_ref e hl hx h1) (datR_tl hy h2) hx hy]
  exact wpM_pure
@[simp ↓] theorem ix_str {Ek : ErrK} {x : Str} {i : Int} {m : Store} {Q : R → Store → Prop} : wp (ixR (.d (.str x)) (.d (.int i)) m) (k := ⟨Q⟩) ↔ x.length ≤ sizeLine ∧ ∃ c, L2.atI x.cps.toList i = some c ∧ Q (.d (.str ⟨#[c]⟩)) m := by
  unfold ixR
  simp
/-! ### calls by what a text has -/
/-- the text fs has the def f at the name x, with n parameters -/
class Has (fs : List Fn) (x : Str) (f : outParam Fn) (n : outParam Nat) : Prop where
  h : findFn fs x = some f
  p : f.pars = n
  d : f.dfl = []
class HasD (fs : List Fn) (x : Str) (f : outParam Fn) (n : outParam Nat) (dfl : outParam (List D)) : Prop where
  h : findFn fs x = some f
  p : f.pars = n
  d : f.dfl = dfl
section
variable {fs : List Fn} {x : Str} {f : Fn} {n : Nat} {dfl : List D} {bd : Fn → List D → M D} {xs : List D} {m : Store} {Q : D → Store → Prop}
@[simp ↓] theorem wp_has {Ek : ErrK} [i : Has fs x f n] : wp (callOf fs bd x xs m) (k := ⟨Q⟩) ↔ xs.length = n ∧ wp (bd f xs m) (k := ⟨Q⟩) := by
  rw [wp_call i.h i.d, i.p]
@[simp ↓] theorem wp_hasD {Ek : ErrK} [i : HasD fs x f n dfl] : wp (callOf fs bd x xs m) (k := ⟨Q⟩) ↔ (xs.length ≤ n ∧ n ≤ xs.length + dfl.length) ∧ wp (bd f (filled n dfl xs) m) (k := ⟨Q⟩) := by
  rw [wp_callD i.h, i.p, i.d]
end
/-! ### common data -/
def encN (n : Nat) : D := .int n
abbrev encW (ws : List Str) : D := tupOf .str ws
abbrev encL (l : List Nat) : D := tupOf encN l
abbrev encI (l : List Int) : D := tupOf .int l
/-- a number within bounds -/
def Num (lo hi : Int) (d : D) : Prop := ∃ i : Int, d = .int i ∧ lo ≤ i ∧ i ≤ hi
theorem num_nat {lo hi : Int} {d : D} (h : Num lo hi d) (h0 : 0 ≤ lo) : ∃ i : Nat, d = .int i ∧ lo ≤ i ∧ (i : Int) ≤ hi := by
  obtain ⟨i, rfl, h1, h2⟩ := h
  exact ⟨i.toNat, by rw [Int.toNat_of_nonneg (by omega)], by omega, by omega⟩
/-- a text of so many signs at most -/
def GoodS (b : Nat) (w : Str) : Prop := w.cps.size ≤ b ∧ ∀ c ∈ w.cps.toList, c < 1114112
theorem GoodS.flat {b : Nat} {w : Str} (h : GoodS b w) : Flat b 0 (.str w) := .str (fun c hc => Nat.lt_trans (h.2 c hc) (by decide)) h.1
theorem GoodS.simple {b : Nat} {w : Str} (h : GoodS b w) : Simple 0 (.str w) := .str (by
  unfold PyData.strOk
  rw [Array.all_eq_true']
  intro c hc
  have := h.2 c (Array.mem_toList_iff.mpr hc)
  simpa using this)
section
variable {α β : Type} {f : α → D} {g : β → D} {l : List α} {k : List β} {m : Store} {Qi : List D × List (Nat × List D) → Store → Prop}
theorem zipD_map : zipD (l.map f) (k.map g) = (l.zip k).map fun p => D.tup [f p.1, g p.2] := by
  unfold zipD
  rw [List.zip_map, List.map_map]
  rfl
@[simp ↓] theorem zip_tupOf {Ek : ErrK} : wp (zipR (.d (tupOf f l)) (.d (tupOf g k)) m) (k := ⟨Qi⟩) ↔ Qi ((l.zip k).map fun p => D.tup [f p.1, g p.2], []) m := by
  unfold tupOf
  rw [zip_tup, zipD_map]
end
theorem upto_encN {n : Nat} : upto 0 n = (List.range n).map encN := upto_0
/-- a comprehension over range(n), no test, that changes nothing -/
theorem wcomp_range {cf : CF} {r : Env} {m : Store} {Qs : List D → Store → Prop} {c e : E} {own : List Nat} {t : T} {n : Nat} (f : Nat → D)
    (step : ∀ i, i < n → cturn cf own t c e r (.int (i : Int)) m fun y m2 => m2 = m ∧ y = some (f i))
    (hend : Qs ((List.range n).map f) m) : wp (wcomp cf own t c e r [] (upto 0 n) m) (k := ⟨Qs⟩) :=
  wcomp_map (List.range n) encN f upto_encN (by simp) (fun i hi => step i (List.mem_range.mp hi)) hend
theorem cut_nat {α : Type} {xs : List α} {a b : Nat} (hab : a ≤ b) : cut xs (some (a : Int)) (some (b : Int)) = (xs.drop a).take (b - a) := by
  unfold cut
  rw [HT.sIx_nat, HT.sIx_nat]
  by_cases h : a ≤ xs.length
  · rw [Nat.min_eq_left h]
    by_cases h2 : b ≤ xs.length
    · rw [Nat.min_eq_left h2]
    · rw [Nat.min_eq_right (by omega), List.take_eq_take_iff, List.length_drop]
      omega
  · rw [Nat.min_eq_right (by omega), Nat.min_eq_right (by omega), List.drop_length, List.drop_eq_nil_of_le (by omega)]
    simp
@[simp ↓] theorem isi_tupOf {Ek : ErrK} {α : Type} {f : α → D} {l : List α} {ts : List Ty} {m : Store} {Q : R → Store → Prop} : wp (isiR ts (.d (tupOf f l)) m) (k := ⟨Q⟩) ↔ Q (.d (.bl (ts.any fun t => decide (t = .tuple)))) m := by
  unfold tupOf
  with_unfolding_all exact Iff.rfl
@[simp] theorem optAll_encN {l : List Nat} : optAll intOf (l.map encN) = some (l.map fun (n : Nat) => (n : Int)) := by
  induction l with
  | nil => rfl
  | cons i r ih => simp only [List.map_cons, optAll, intOf, encN, ih]
theorem sum_nat (l : List Nat) : (l.map fun (n : Nat) => (n : Int)).sum = ((l.sum : Nat) : Int) := by
  induction l with
  | nil => rfl
  | cons i r ih => simp [ih]
@[simp ↓] theorem add_tupOf_tup {Ek : ErrK} {α : Type} {f : α → D} {l : List α} {ys : List D} {m : Store} {Q : R → Store → Prop} : wp (binR .Add (.d (tupOf f l)) (.d (.tup ys)) m) (k := ⟨Q⟩) ↔ l.length + ys.length ≤ sizeLine ∧ Q (.d (.tup (l.map f ++ ys))) m := by
  unfold tupOf
  rw [add_tup, List.length_map]
@[simp ↓] theorem add_tup_tupOf {Ek : ErrK} {α : Type} {f : α → D} {l : List α} {ys : List D} {m : Store} {Q : R → Store → Prop} : wp (binR .Add (.d (.tup ys)) (.d (tupOf f l)) m) (k := ⟨Q⟩) ↔ ys.length + l.length ≤ sizeLine ∧ Q (.d (.tup (ys ++ l.map f))) m := by
  unfold tupOf
  rw [add_tup, List.length_map]
/-- two lists of the same data show the same -/
theorem shw_lsts {m : Store} {h1 h2 : Nat} {c1 c2 : Cell} (e1 : m[h1]? = some c1) (e2 : m[h2]? = some c2) (l1 : c1.isL = true) (l2 : c2.isL = true) (e : c1.items = c2.items) : shw m (.ref h1) = shw m (.ref h2) := by
  unfold shw
  have : dat m deepest (.ref h1) = dat m deepest (.ref h2) := by
    show (match m[h1]? with
      | some c => if c.isL then (optAll (dat m 59) c.items).map PyData.list else none
      | none => none) = (match m[h2]? with
      | some c => if c.isL then (optAll (dat m 59) c.items).map PyData.list else none
      | none => none)
    rw [e1, e2]
    simp only [l1, l2, e, if_true]
  rw [this]
theorem same_lsts {fs : List Fn} {wf n b d k : Nat} {m : Store} {h1 h2 : Nat} {xs : List D} (e1 : m[h1]? = some (.lst xs)) (e2 : m[h2]? = some (.lst xs)) (hx : ∀ x ∈ xs, Sz m b d x) (hl : xs.length ≤ k) (hb : k * (b + 1) ≤ 2 ^ 18) (hd : d ≤ 59) :
    wp (bodyN fs wf (n + 1) f_l_same [.ref h1, .ref h2] m) (k := ⟨fun y m' => y = .bl true ∧ m' = m⟩) := by
  have z1 : Sz m (k * (b + 1)) (d + 1) (.ref h1) := .ref e1 rfl hx hl (Nat.le_refl _)
  have z2 : Sz m (k * (b + 1)) (d + 1) (.ref h2) := .ref e2 rfl hx hl (Nat.le_refl _)
  have e := shw_lsts e1 e2 rfl rfl rfl
  rw [wp_body]
  simp [f_l_same, startE, repr_sz z1 hb (by omega), repr_sz z2 hb (by omega), e]
end Pf

set_option maxHeartbeats 0
set_option exponentiation.threshold 3000
/-! Cs1: the tap of k01..k18; words, sections, widths; lines as many words as fit. -/
namespace Cs
open PySem L2 Pf
/-- _law_tap: 0 script -/
def f_l_tap : Fn := ⟨"_law_tap", 1, 1, [],
  (.ret (.dct [.inr "cells", .inr "spot", .inr "rest", .inr "calls"] (.cons (.bif .list (.cons (.sl (.var 0) false true .never (.cst (.int 63))) .nil)) (.cons (.cst (.int 0)) (.cons (.cst (.int 0)) (.cons (.cst (.int 0)) .nil))))))⟩
/-- _law_take: 0 tap_here, 1 many, 2 calls, 3 figure, 4 spot, 5 cells, 6 cell, 7 once -/
def f_l_take : Fn := ⟨"_law_take", 2, 8, [],
  (.seq (.set (.name 2) (.bin .Add (.ix (.var 0) (.cst (.str "calls"))) (.cst (.int 1))))
  (.seq (.setix (.var 0) (.cst (.str "calls")) (.var 2))
  (.seq (.ite (.cmp .Gt (.ix (.var 0) (.cst (.str "rest"))) (.cst (.int 0)))
    (.seq (.set (.name 3) (.bin .Mod (.ix (.var 0) (.cst (.str "rest"))) (.var 1)))
    (.seq (.setix (.var 0) (.cst (.str "rest")) (.bin .FloorDiv (.ix (.var 0) (.cst (.str "rest"))) (.var 1)))
    (.ret (.var 3))))
    .skip)
  (.seq (.set (.name 4) (.ix (.var 0) (.cst (.str "spot"))))
  (.seq (.setix (.var 0) (.cst (.str "spot")) (.bin .Add (.var 4) (.cst (.int 1))))
  (.seq (.set (.name 5) (.ix (.var 0) (.cst (.str "cells"))))
  (.seq (.set (.name 6) (.ite (.cmp .Gt (.bif .len (.cons (.var 5) .nil)) (.cst (.int 0))) (.ix (.var 5) (.bin .Mod (.var 4) (.bif .len (.cons (.var 5) .nil)))) (.cst (.int 5))))
  (.seq (.ite (.and (.cmp .Lt (.var 4) (.bif .len (.cons (.var 5) .nil))) (.cmp .GtE (.var 6) (.bin .Pow (.cst (.int 10)) (.cst (.int 18)))))
    (.seq (.setix (.var 0) (.cst (.str "rest")) (.bin .FloorDiv (.var 6) (.var 1)))
    (.ret (.bin .Mod (.var 6) (.var 1))))
    .skip)
  (.seq (.set (.name 7) (.bin .Mod (.bin .Pow (.bin .Add (.bin .Add (.bin .Mod (.var 6) (.cst (.int 2147483629))) (.bin .Mult (.cst (.int 6007)) (.var 2))) (.cst (.int 11))) (.cst (.int 5))) (.cst (.int 2147483647))))
  (.ret (.bin .Mod (.bin .FloorDiv (.bin .Mod (.bin .Pow (.bin .Add (.var 7) (.bin .Mult (.bin .Mult (.cst (.int 4099)) (.var 2)) (.var 2))) (.cst (.int 5))) (.cst (.int 2147483587))) (.cst (.int 32))) (.var 1))))))))))))⟩
/-- _law_word: 0 tap_here, 1 letters, 2 many, 3 .0, 4 k -/
def f_l_word : Fn := ⟨"_law_word", 1, 5, [],
  (.seq (.set (.name 1) (.cst (.str "abcdefghijklmnopqrstuvwxyz")))
  (.seq (.set (.name 2) (.ix (.lst (.cons (.cst (.int 1)) (.cons (.cst (.int 2)) (.cons (.cst (.int 3)) (.cons (.cst (.int 4)) (.cons (.cst (.int 8)) (.cons (.bin .Add (.cst (.int 1)) (.call "_law_take" (.cons (.var 0) (.cons (.cst (.int 8)) .nil)))) .nil))))))) (.call "_law_take" (.cons (.var 0) (.cons (.cst (.int 6)) .nil)))))
  (.ret (.meth .join (.cst (.str "")) (.cons (.comp [3, 4] (.name 4) (.range1 (.var 2)) (.cst (.bl true)) (.ix (.var 1) (.call "_law_take" (.cons (.var 0) (.cons (.cst (.int 26)) .nil))))) .nil)))))⟩
/-- _law_section: 0 tap_here, 1 name, 2 most, 3 high, 4 wide, 5 many, 6 .0, 7 k -/
def f_l_section : Fn := ⟨"_law_section", 3, 8, [],
  (.seq (.set (.name 3) (.bin .Add (.cst (.int 1)) (.call "_law_take" (.cons (.var 0) (.cons (.ix (.lst (.cons (.cst (.int 2)) (.cons (.cst (.int 4)) (.cons (.cst (.int 9)) .nil)))) (.call "_law_take" (.cons (.var 0) (.cons (.cst (.int 3)) .nil)))) .nil)))))
  (.seq (.set (.name 4) (.bin .Add (.cst (.int 1)) (.call "_law_take" (.cons (.var 0) (.cons (.ix (.lst (.cons (.cst (.int 5)) (.cons (.cst (.int 20)) .nil))) (.call "_law_take" (.cons (.var 0) (.cons (.cst (.int 2)) .nil)))) .nil)))))
  (.seq (.set (.name 5) (.bin .Add (.cst (.int 1)) (.call "_law_take" (.cons (.var 0) (.cons (.ix (.lst (.cons (.cst (.int 5)) (.cons (.var 2) .nil))) (.call "_law_take" (.cons (.var 0) (.cons (.cst (.int 2)) .nil)))) .nil)))))
  (.ret (.tup (.cons (.var 1) (.cons (.var 3) (.cons (.var 4) (.cons (.bif .tuple (.cons (.comp [6, 7] (.name 7) (.range1 (.var 5)) (.cst (.bl true)) (.call "_law_word" (.cons (.var 0) .nil))) .nil)) .nil)))))))))⟩
/-- _law_width: 0 tap_here, 1 section_here, 2 longest, 3 .0, 4 word_here -/
def f_l_width : Fn := ⟨"_law_width", 2, 5, [],
  (.seq (.set (.name 2) (.bif .max1 (.cons (.comp [3, 4] (.name 4) (.seq (.ix (.var 1) (.cst (.int 3)))) (.cst (.bl true)) (.bif .len (.cons (.var 4) .nil))) .nil)))
  (.ret (.ix (.lst (.cons (.var 2) (.cons (.bin .Add (.var 2) (.call "_law_take" (.cons (.var 0) (.cons (.cst (.int 8)) .nil)))) (.cons (.bin .Add (.var 2) (.call "_law_take" (.cons (.var 0) (.cons (.cst (.int 33)) .nil)))) (.cons (.cst (.int 30)) .nil))))) (.call "_law_take" (.cons (.var 0) (.cons (.cst (.int 4)) .nil))))))⟩
/-- _law_fit: 0 section_here, 1 first, 2 i, 3 width_here, 4 space, 5 end -/
def f_l_fit : Fn := ⟨"_law_fit", 4, 6, [],
  (.seq (.set (.name 4) (.ite (.cmp .Lt (.var 2) (.ix (.var 0) (.cst (.int 1)))) (.bin .Sub (.var 3) (.ix (.var 0) (.cst (.int 2)))) (.var 3)))
  (.seq (.set (.name 5) (.var 1))
  (.seq (.whl (.and (.cmp .Lt (.var 5) (.bif .len (.cons (.ix (.var 0) (.cst (.int 3))) .nil))) (.cmp .LtE (.bif .len (.cons (.meth .join (.cst (.str " ")) (.cons (.sl (.ix (.var 0) (.cst (.int 3))) true true (.var 1) (.bin .Add (.var 5) (.cst (.int 1)))) .nil)) .nil)) (.var 4)))
    (.set (.name 5) (.bin .Add (.var 5) (.cst (.int 1)))))
  (.ret (.var 5)))))⟩
/-- begins: 0 section, 1 i -/
def f_begins : Fn := ⟨"begins", 2, 2, [],
  (.ret (.ite (.cmp .Lt (.var 1) (.ix (.var 0) (.cst (.int 1)))) (.ix (.var 0) (.cst (.int 2))) (.cst (.int 0))))⟩
/-- room: 0 section, 1 i, 2 width -/
def f_room : Fn := ⟨"room", 3, 3, [(.int 30)],
  (.ret (.bif .max2 (.cons (.cst (.int 0)) (.cons (.bin .Sub (.var 2) (.call "begins" (.cons (.var 0) (.cons (.var 1) .nil)))) .nil))))⟩
/-- end_of: 0 words, 1 first, 2 space, 3 end, 4 left -/
def f_end_of : Fn := ⟨"end_of", 3, 5, [],
  (.seq (.set (.name 3) (.var 1))
  (.seq (.set (.name 4) (.var 2))
  (.seq (.whl (.and (.cmp .Lt (.var 3) (.bif .len (.cons (.var 0) .nil))) (.cmp .LtE (.bif .len (.cons (.ix (.var 0) (.var 3)) .nil)) (.var 4)))
    (.seq (.set (.name 4) (.bin .Sub (.bin .Sub (.var 4) (.bif .len (.cons (.ix (.var 0) (.var 3)) .nil))) (.cst (.int 1))))
    (.set (.name 3) (.bin .Add (.var 3) (.cst (.int 1))))))
  (.ret (.var 3)))))⟩
/-- bent: 0 section, 1 width, 2 words, 3 k, 4 word, 5 found, 6 end -/
def f_bent : Fn := ⟨"bent", 2, 7, [(.int 30)],
  (.seq (.set (.name 2) (.ix (.var 0) (.cst (.int 3))))
  (.seq (.for_ (.tup [3, 4]) (.enum (.var 2))
    (.ite (.cmp .Gt (.bif .len (.cons (.var 4) .nil)) (.var 1))
      (.raise "NoLay" ["word"] (.cons (.var 3) .nil))
      .skip))
  (.seq (.set (.name 5) (.lst .nil))
  (.seq (.set (.name 6) (.cst (.int 0)))
  (.seq (.whl (.or (.cmp .Lt (.var 6) (.bif .len (.cons (.var 2) .nil))) (.cmp .Lt (.bif .len (.cons (.var 5) .nil)) (.ix (.var 0) (.cst (.int 1)))))
    (.seq (.set (.name 6) (.call "end_of" (.cons (.var 2) (.cons (.var 6) (.cons (.call "room" (.cons (.var 0) (.cons (.bif .len (.cons (.var 5) .nil)) (.cons (.var 1) .nil)))) .nil)))))
    (.expr (.meth .append (.var 5) (.cons (.var 6) .nil)))))
  (.ret (.bif .tuple (.cons (.var 5) .nil))))))))⟩
/-! ### the tap -/
def tapD (hs : Nat) (s r c : Int) : List (Pf.Key × D) := [(.inr "cells", .ref hs), (.inr "spot", .int s), (.inr "rest", .int r), (.inr "calls", .int c)]
section
variable {hs : Nat} {s r c x : Int}
@[simp] theorem tap_cells : getK (tapD hs s r c) (.inr "cells") = some (.ref hs) := by with_unfolding_all rfl
@[simp] theorem tap_spot : getK (tapD hs s r c) (.inr "spot") = some (.int s) := by with_unfolding_all rfl
@[simp] theorem tap_rest : getK (tapD hs s r c) (.inr "rest") = some (.int r) := by with_unfolding_all rfl
@[simp] theorem tap_calls : getK (tapD hs s r c) (.inr "calls") = some (.int c) := by with_unfolding_all rfl
@[simp] theorem tap_spot' : putD (tapD hs s r c) (.inr "spot") (.int x) = tapD hs x r c := by with_unfolding_all rfl
@[simp] theorem tap_rest' : putD (tapD hs s r c) (.inr "rest") (.int x) = tapD hs s x c := by with_unfolding_all rfl
@[simp] theorem tap_calls' : putD (tapD hs s r c) (.inr "calls") (.int x) = tapD hs s r x := by with_unfolding_all rfl
@[simp] theorem tap_len : (tapD hs s r c).length = 4 := rfl
end
/-- the tap at h: its cells below it; k: at most so many calls are done -/
structure Tap (h k : Nat) (m : Store) : Prop where
  ex : ∃ (hs : Nat) (s r c : Int) (is : List Int), m[h]? = some (.dct (tapD hs s r c)) ∧ hs < h ∧ m[hs]? = some (.lst (is.map .int)) ∧ 0 ≤ s ∧ 0 ≤ c ∧ c ≤ k
section
variable {h k k' p : Nat} {m m' : Store} {c : Cell} {l : List Cell}
theorem Tap.mono (f : Tap h k m) (hk : k ≤ k') : Tap h k' m := by
  obtain ⟨hs, s, r, c, is, h1, h2, h3, h4, h5, h6⟩ := f.ex
  exact ⟨hs, s, r, c, is, h1, h2, h3, h4, h5, by omega⟩
theorem Tap.lt (f : Tap h k m) : h < m.length := by
  obtain ⟨hs, s, r, c, is, h1, _⟩ := f.ex
  exact lt_of_get h1
theorem Tap.keep (f : Tap h k m) (kp : Keep none m m') : Tap h k m' := by
  obtain ⟨hs, s, r, c, is, h1, h2, h3, h4, h5, h6⟩ := f.ex
  exact ⟨hs, s, r, c, is, kp.cell h1 (by simp), h2, kp.cell h3 (by simp), h4, h5, h6⟩
theorem Tap.set (f : Tap h k m) (hp : h < p) : Tap h k (m.set p c) := by
  obtain ⟨hs, s, r, c', is, h1, h2, h3, h4, h5, h6⟩ := f.ex
  exact ⟨hs, s, r, c', is, by rw [List.getElem?_set_ne (by omega)]; exact h1, h2, by rw [List.getElem?_set_ne (by omega)]; exact h3, h4, h5, h6⟩
theorem Tap.app (f : Tap h k m) : Tap h k (m ++ l) := f.keep (Keep.new none m l)
theorem Tap.step {hs : Nat} {is : List Int} {cl : Cell} (h2 : hs < h) (h1 : m[h]? = some cl) (h3 : m[hs]? = some (.lst (is.map .int))) {s' r' c' : Int} (h5 : 0 ≤ s') (h6 : 0 ≤ c') (h7 : c' ≤ k) : Tap h k (m.set h (.dct (tapD hs s' r' c'))) :=
  ⟨hs, s', r', c', is, get_set h1 _, h2, by rw [List.getElem?_set_ne (by omega)]; exact h3, h5, h6, h7⟩
end
section
variable {fs : List Fn} {wf n h k : Nat} {m : Store}
set_option trace.Meta.Tactic.simp.rewrite false in
theorem tap_ok {ns : List Int} : wp (bodyN fs wf (n + 1) f_l_tap [.ref 0] [.frz (ns.map .int)]) (k := ⟨fun d m => d = .ref 2 ∧ Tap 2 0 m⟩) := by
  rw [wp_body]
  simp [f_l_tap, startE]
  refine ⟨by decide, 1, 0, 0, 0, ns.take 63, rfl, by omega, by simp [List.map_take], by omega, by omega, by omega⟩
theorem take_ok {many : Int} (f : Tap h k m) (hk : k < 1000000) (h1 : 1 ≤ many) (h2 : many < 1000000000) :
    wp (bodyN fs wf (n + 1) f_l_take [.ref h, .int many] m) (k := ⟨fun d m' => ∃ v : Nat, d = .int v ∧ (v : Int) < many ∧ Tap h (k + 1) m' ∧ Keep (some h) m m' ∧ m'.length = m.length⟩) := by
  obtain ⟨hs, s, r, c, is, e1, e2, e3, e5, e6, e7⟩ := f.ex
  have hlt := lt_of_get e1
  have hne : hs ≠ h := by omega
  rw [wp_body]
  have g1 : ∀ c2, (m.set h c2)[h]? = some c2 := fun c2 => get_set e1 c2
  have g2 : ∀ c2, (m.set h c2)[hs]? = some (.lst (is.map .int)) := fun c2 => by rw [List.getElem?_set_ne (by omega)]; exact e3
  simp [f_l_take, startE, e1, g1, g2]
  have F : ∀ s' r' : Int, 0 ≤ s' → Tap h (k + 1) (m.set h (.dct (tapD hs s' r' (c + 1)))) := fun s' r' hs' => Tap.step e2 e1 e3 hs' (by omega) (by omega)
  have Kp := fun c2 => Keep.set m h c2
  have nz : ¬ many = 0 := by omega
  have z4 : 4 < sizeLine := by unfold sizeLine; omega
  have tail : ∀ x : Int, bigMul 6007 (c + 1) ∧ (x.fmod 2147483629 + 6007 * (c + 1) + 11).natAbs < 18446744073709551616 ∧ bigMul 4099 (c + 1) ∧ bigMul (4099 * (c + 1)) (c + 1) ∧
      (((x.fmod 2147483629 + 6007 * (c + 1) + 11) ^ 5).fmod 2147483647 + 4099 * (c + 1) * (c + 1)).natAbs < 18446744073709551616 := fun x => by
    have b1 := Int.fmod_nonneg_of_pos x (b := 2147483629) (by omega)
    have b2 := Int.fmod_lt_of_pos x (b := 2147483629) (by omega)
    have b3 := Int.fmod_nonneg_of_pos ((x.fmod 2147483629 + 6007 * (c + 1) + 11) ^ 5) (b := 2147483647) (by omega)
    have b4 := Int.fmod_lt_of_pos ((x.fmod 2147483629 + 6007 * (c + 1) + 11) ^ 5) (b := 2147483647) (by omega)
    have b5 : (c + 1) * (c + 1) ≤ 1000001 * 1000001 := Int.mul_le_mul (by omega) (by omega) (by omega) (by omega)
    have b6 : 0 ≤ (c + 1) * (c + 1) := Int.mul_nonneg (by omega) (by omega)
    have b7 : 4099 * (c + 1) * (c + 1) = 4099 * ((c + 1) * (c + 1)) := Int.mul_assoc _ _ _
    refine ⟨.inl (by decide), by omega, .inl (by decide), .inr (by omega), ?_⟩
    rw [b7]
    generalize (c + 1) * (c + 1) = t at *
    generalize ((x.fmod 2147483629 + 6007 * (c + 1) + 11) ^ 5).fmod 2147483647 = y at *
    omega
  have out : ∀ (x : Int) (c2 : Cell), Tap h (k + 1) (m.set h c2) → ∃ v : Nat, x.fmod many = v ∧ (v : Int) < many ∧ Tap h (k + 1) (m.set h c2) ∧ Keep (some h) m (m.set h c2) := fun x c2 hf => by
    obtain ⟨v, h1, h2⟩ := fmod_v (a := x) h1
    exact ⟨v, h1, h2, hf, Kp _⟩
  refine ⟨z4, fun _ => ⟨nz, ⟨nz, by omega⟩, z4, out _ _ (F _ _ e5)⟩, fun _ => ⟨z4, fun hl => ?_, fun _ => ?_⟩⟩
  · obtain ⟨v, v1, v2⟩ := fmod_v (a := s) (b := (is.length : Int)) (by omega)
    have v3 : v < is.length := by omega
    refine ⟨List.ne_nil_of_length_pos hl, .int is[v], by rw [v1, Pf.atI_nat, List.getElem?_map, List.getElem?_eq_getElem v3]; rfl, fun _ => ?_, fun _ => ?_⟩
    · simp [g1, g2]
      refine ⟨fun _ => ⟨⟨nz, by omega⟩, z4, nz, out _ _ (F _ _ (by omega))⟩, fun _ => ?_⟩
      obtain ⟨t1, t2, t3, t4, t5⟩ := tail is[v]
      exact ⟨t1, t2, t3, t4, t5, nz, out _ _ (F _ _ (by omega))⟩
    · simp [g1, g2]
      obtain ⟨t1, t2, t3, t4, t5⟩ := tail is[v]
      exact ⟨t1, t2, t3, t4, t5, nz, out _ _ (F _ _ (by omega))⟩
  · obtain ⟨t1, t2, t3, t4, t5⟩ := tail 5
    exact ⟨fun _ => ⟨t1, t2, t3, t4, t5, nz, out _ _ (F _ _ (by omega))⟩, fun _ => ⟨t1, t2, t3, t4, t5, nz, out _ _ (F _ _ (by omega))⟩⟩
end
/-! ### words -/
/-- a word of letters -/
def GoodV (w : Str) : Prop := (1 ≤ w.cps.size ∧ w.cps.size ≤ 8) ∧ ∀ c ∈ w.cps.toList, 97 ≤ c ∧ c ≤ 122
theorem GoodV.good {w : Str} (h : GoodV w) : GoodS 8 w := ⟨h.1.2, fun c hc => by have := h.2 c hc; omega⟩
def sign (c : Nat) : Str := ⟨#[c]⟩
theorem str_ext {x y : Str} (h : x.cps.toList = y.cps.toList) : x = y := by
  cases x
  cases y
  simp at h
  simp [h]
theorem join_signs (cs : List Nat) : Txt.join "" (cs.map sign) = ⟨cs.toArray⟩ := by
  show Builtin.Str.glued (PySem.Str.ofString "") _ = _
  rw [StrLaws.glued_eq_join]
  induction cs with
  | nil => rfl
  | cons c r ih =>
    cases r with
    | nil => rfl
    | cons d r =>
      show sign c ++ "" ++ Str.join "" ((d :: r).map sign) = _
      rw [ih]
      refine str_ext ?_
      rw [PySem.W.KT.app_list, PySem.W.KT.app_list]
      rfl
theorem sum_signs (cs : List Nat) : ((cs.map sign).map fun x => x.length).sum = cs.length := by
  induction cs with
  | nil => rfl
  | cons c r ih =>
    rw [List.map_cons, List.map_cons, List.sum_cons, ih, List.length_cons]
    show 1 + _ = _
    omega
def abc : Str := "abcdefghijklmnopqrstuvwxyz"
theorem abc_get {v : Nat} (h : v < 26) : abc.cps.toList[v]? = some (97 + v) := by
  have : ∀ v : Fin 26, abc.cps.toList[v.val]? = some (97 + v.val) := by decide +kernel
  exact this ⟨v, h⟩
section
variable {fs : List Fn} [Has fs "_law_take" f_l_take 2] {wf n h k : Nat} {m : Store}
theorem word_ok (f : Tap h k m) (hk : k + 20 < 1000000) : wp (bodyN fs wf (n + 2) f_l_word [.ref h] m) (k := ⟨fun d m' => ∃ w : Str, d = .str w ∧ GoodV w ∧ Tap h (k + 10) m' ∧ Keep (some h) m m'⟩) := by
  rw [wp_body]
  simp [f_l_word, startE]
  refine (take_ok (n := n) f (by omega) (by omega) (by omega)).mono fun d m1 ⟨v1, a1, a2, a3, a4, a5⟩ => ?_
  subst a1
  simp
  refine ⟨by decide, ?_⟩
  refine (take_ok (n := n) a3 (by omega) (by omega) (by omega)).mono fun d m2 ⟨v2, b1, b2, b3, b4, b5⟩ => ?_
  subst b1
  simp
  obtain ⟨d, hd, many, rfl, e1, e2⟩ := get_all (xs := [D.int 1, .int 2, .int 3, .int 4, .int 8, .int (1 + (v1 : Int))]) (P := Num 1 8) (v := v2) (by simp; omega) (by simp [Num]; omega)
  refine ⟨_, hd, ?_⟩
  obtain ⟨many, rfl⟩ := Int.eq_ofNat_of_zero_le (show 0 ≤ many by omega)
  simp
  refine ⟨by unfold small62; omega, wcomp_inv (fun j acc m3 => ∃ cs : List Nat, acc = cs.map (fun c => D.str (sign c)) ∧ cs.length = j ∧ (∀ c ∈ cs, 97 ≤ c ∧ c ≤ 122) ∧ Tap h (k + 2 + j) m3 ∧ Keep (some h) m2 m3)
    ⟨[], rfl, rfl, (fun _ z => nomatch z), b3, Keep.refl _ _⟩ (fun j x acc m3 hx ⟨cs, w1, w2, w3, w4, w5⟩ => ?_) (fun acc m3 ⟨cs, w1, w2, w3, w4, w5⟩ => ?_)⟩
  · obtain ⟨hj, rfl⟩ := upto_get hx
    subst w1
    unfold cturn
    simp
    refine (take_ok (n := n) w4 (by omega) (by omega) (by omega)).mono fun d m4 ⟨v3, c1, c2, c3, c4, c5⟩ => ?_
    subst c1
    have hv : v3 < 26 := by omega
    have eg := abc_get hv
    unfold abc at eg
    simp [eg]
    exact ⟨by decide, cs ++ [97 + v3], by simp [sign], by simp [w2], fun c hc => (List.mem_append.mp hc).elim (w3 c) fun q => by cases List.mem_singleton.mp q; omega, c3, w5.trans c4⟩
  · subst w1
    simp at w2 w4
    have e : cs.map (fun c => D.str (sign c)) = (cs.map sign).map D.str := by rw [List.map_map]; rfl
    rw [e]
    simp [-List.map_map]
    have e0 : (Str.ofString "").length = 0 := by decide
    have e1 := sum_signs cs
    rw [e0, e1, join_signs]
    exact ⟨by unfold sizeLine; omega, by omega, ⟨⟨by simp; omega, by simp; omega⟩, by simpa using w3⟩, w4.mono (by omega), (a4.trans b4).trans w5⟩
end
/-! ### sections -/
structure Sec where
  name : Str
  high : Nat
  wide : Nat
  words : List Str
section
variable {fs : List Fn} [Has fs "_law_take" f_l_take 2] {wf n h k : Nat} {m : Store}
def encS (s : Sec) : D := .tup [.str s.name, .int s.high, .int s.wide, encW s.words]
structure SecOk (s : Sec) : Prop where
  high : 1 ≤ s.high ∧ s.high ≤ 9
  wide : 1 ≤ s.wide ∧ s.wide ≤ 20
  len : 1 ≤ s.words.length ∧ s.words.length ≤ 40
  words : ∀ w ∈ s.words, GoodV w
@[simp ↓] theorem sec_high {Ek : ErrK} {s : Sec} {Q : R → Store → Prop} : wp (ixR (.d (encS s)) (.d (.int 1)) m) (k := ⟨Q⟩) ↔ Q (.d (.int s.high)) m := by
  unfold encS
  simp
@[simp ↓] theorem sec_wide {Ek : ErrK} {s : Sec} {Q : R → Store → Prop} : wp (ixR (.d (encS s)) (.d (.int 2)) m) (k := ⟨Q⟩) ↔ Q (.d (.int s.wide)) m := by
  unfold encS
  simp
@[simp ↓] theorem sec_words {Ek : ErrK} {s : Sec} {Q : R → Store → Prop} : wp (ixR (.d (encS s)) (.d (.int 3)) m) (k := ⟨Q⟩) ↔ Q (.d (encW s.words)) m := by
  unfold encS
  simp
theorem section_ok [Has fs "_law_word" f_l_word 1] {nm : Str} {most : Nat} (f : Tap h k m) (hk : k + 1000 < 1000000) (hm : 1 ≤ most ∧ most ≤ 40) : wp (bodyN fs wf (n + 3) f_l_section [.ref h, .str nm, .int most] m) (k := ⟨fun d m' => ∃ s : Sec, d = encS s ∧ SecOk s ∧ s.name = nm ∧ Tap h (k + 410) m' ∧ Keep (some h) m m'⟩) := by
  rw [wp_body]
  simp [f_l_section, startE]
  refine ⟨by decide, ?_⟩
  refine (take_ok (n := n + 1) f (by omega) (by omega) (by omega)).mono fun d m1 ⟨v1, a1, a2, a3, a4, a5⟩ => ?_
  subst a1
  simp
  obtain ⟨d, hd, c1, rfl, e1, e2⟩ := get_all (xs := [D.int 2, .int 4, .int 9]) (P := Num 1 9) (v := v1) (by simp; omega) (by simp [Num])
  refine ⟨_, hd, ?_⟩
  refine (take_ok (n := n + 1) a3 (by omega) (by omega) (by omega)).mono fun d m2 ⟨v2, b1, b2, b3, b4, b5⟩ => ?_
  subst b1
  simp
  refine ⟨by decide, ?_⟩
  refine (take_ok (n := n + 1) b3 (by omega) (by omega) (by omega)).mono fun d m3 ⟨v3, c1', c2, c3, c4, c5⟩ => ?_
  subst c1'
  simp
  obtain ⟨d, hd, c6, rfl, e3, e4⟩ := get_all (xs := [D.int 5, .int 20]) (P := Num 1 20) (v := v3) (by simp; omega) (by simp [Num])
  refine ⟨_, hd, ?_⟩
  refine (take_ok (n := n + 1) c3 (by omega) (by omega) (by omega)).mono fun d m4 ⟨v4, d1, d2, d3, d4, d5⟩ => ?_
  subst d1
  simp
  refine ⟨by decide, ?_⟩
  refine (take_ok (n := n + 1) d3 (by omega) (by omega) (by omega)).mono fun d m5 ⟨v5, g1, g2, g3, g4, g5⟩ => ?_
  subst g1
  simp
  obtain ⟨d, hd, c7, rfl, e5, e6⟩ := get_all (xs := [D.int 5, .int (most : Int)]) (P := Num 1 40) (v := v5) (by simp; omega) (by simp [Num]; omega)
  refine ⟨_, hd, ?_⟩
  refine (take_ok (n := n + 1) g3 (by omega) (by omega) (by omega)).mono fun d m6 ⟨v6, i1, i2, i3, i4, i5⟩ => ?_
  subst i1
  simp
  refine ⟨by unfold small62; omega, wcomp_inv (fun j acc m7 => ∃ ws : List Str, acc = ws.map D.str ∧ ws.length = j ∧ (∀ w ∈ ws, GoodV w) ∧ Tap h (k + 6 + 10 * j) m7 ∧ Keep (some h) m6 m7)
    ⟨[], rfl, rfl, (fun _ z => nomatch z), i3, Keep.refl _ _⟩ (fun j x acc m7 hx ⟨ws, w1, w2, w3, w4, w5⟩ => ?_) (fun acc m7 ⟨ws, w1, w2, w3, w4, w5⟩ => ?_)⟩
  · obtain ⟨hj, rfl⟩ := upto_get hx
    subst w1
    unfold cturn
    simp
    refine (word_ok (n := n) w4 (by omega)).mono fun d m8 ⟨w, j1, j2, j3, j4⟩ => ?_
    subst j1
    simp
    exact ⟨ws ++ [w], by simp, by simp [w2], fun z hz => (List.mem_append.mp hz).elim (w3 z) fun q => by cases List.mem_singleton.mp q; exact j2, j3.mono (by omega), w5.trans j4⟩
  · subst w1
    simp at w2 w4
    simp
    refine ⟨by unfold sizeLine; omega, by decide, ⟨nm, 1 + v2, 1 + v4, ws⟩, rfl, ⟨by simp; omega, by simp; omega, by simp; omega, w3⟩, rfl, w4.mono (by omega), ((((((a4.trans b4).trans c4).trans d4).trans g4).trans i4).trans w5)⟩
theorem width_ok {s : Sec} (f : Tap h k m) (hk : k + 100 < 1000000) (o : SecOk s) : wp (bodyN fs wf (n + 2) f_l_width [.ref h, encS s] m) (k := ⟨fun d m' => ∃ W : Nat, d = .int W ∧ (1 ≤ W ∧ W ≤ 40) ∧ (∀ w ∈ s.words, w.length ≤ W) ∧ Tap h (k + 5) m' ∧ Keep (some h) m m'⟩) := by
  rw [wp_body]
  simp [f_l_width, startE]
  have hl := o.len
  refine wcomp_map s.words D.str (fun w => encN w.length) rfl (by simp) (fun w hw => ?_) ?_
  · unfold cturn
    have := (o.words w hw).1
    simp [encN]
    show w.cps.size ≤ sizeLine
    unfold sizeLine
    omega
  · have e : (s.words.map fun w => encN w.length) = (s.words.map Str.length).map encN := by rw [List.map_map]; rfl
    rw [e]
    simp [-List.map_map]
    refine ⟨by unfold sizeLine; omega, by omega, ?_⟩
    obtain ⟨mx, hmx⟩ : ∃ mx, mx = maxI ((s.words.map Str.length).map fun (n : Nat) => (n : Int)) := ⟨_, rfl⟩
    obtain ⟨s1, s2⟩ := maxI_spec (xs := (s.words.map Str.length).map fun (n : Nat) => (n : Int)) (by
      intro z
      have := congrArg List.length z
      simp at this
      rw [this] at hl
      simp at hl)
    rw [← hmx] at s1 s2 ⊢
    obtain ⟨x, hx, rfl⟩ := List.mem_map.mp s1
    obtain ⟨w, hw, rfl⟩ := List.mem_map.mp hx
    have hgw := (o.words w hw).1
    have hall : ∀ v ∈ s.words, v.length ≤ w.length := fun v hv => by
      have := s2 (v.length : Int) (List.mem_map.mpr ⟨v.length, List.mem_map.mpr ⟨v, hv, rfl⟩, rfl⟩)
      omega
    have hwl : 1 ≤ w.length ∧ w.length ≤ 8 := hgw
    generalize w.length = L at *
    refine (take_ok (n := n) f (by omega) (by omega) (by omega)).mono fun d m1 ⟨v1, a1, a2, a3, a4, a5⟩ => ?_
    subst a1
    simp
    refine (take_ok (n := n) a3 (by omega) (by omega) (by omega)).mono fun d m2 ⟨v2, b1, b2, b3, b4, b5⟩ => ?_
    subst b1
    simp
    refine ⟨by decide, ?_⟩
    refine (take_ok (n := n) b3 (by omega) (by omega) (by omega)).mono fun d m3 ⟨v3, c1, c2, c3, c4, c5⟩ => ?_
    subst c1
    simp
    obtain ⟨d, hd, W, rfl, e1, e2⟩ := get_all (xs := [D.int (L : Int), .int ((L : Int) + (v1 : Int)), .int ((L : Int) + (v2 : Int)), .int 30]) (P := Num L 40) (v := v3) (by simp; omega) (by simp [Num]; omega)
    refine ⟨_, hd, ?_⟩
    obtain ⟨W, rfl⟩ := Int.eq_ofNat_of_zero_le (show 0 ≤ W by omega)
    exact ⟨W, rfl, ⟨by omega, by omega⟩, fun v hv => by have := hall v hv; omega, c3.mono (by omega), (a4.trans b4).trans c4⟩
end
/-! ### as many words as fit -/
/-- the signs of words a .. b - 1, each with a blank behind -/
def wsum (ws : List Str) (a b : Nat) : Nat := (((ws.drop a).take (b - a)).map fun w => w.length + 1).sum
theorem wsum_self {ws : List Str} {a : Nat} : wsum ws a a = 0 := by simp [wsum]
theorem wsum_succ {ws : List Str} {a b : Nat} {w : Str} (hab : a ≤ b) (h : ws[b]? = some w) : wsum ws a (b + 1) = wsum ws a b + (w.length + 1) := by
  unfold wsum
  rw [show b + 1 - a = (b - a) + 1 by omega, List.take_add_one, List.getElem?_drop, show a + (b - a) = b by omega, h]
  simp
theorem wsum_mono {ws : List Str} {a b c : Nat} (hbc : b ≤ c) : wsum ws a b ≤ wsum ws a c := by
  unfold wsum
  have : (ws.drop a).take (b - a) = ((ws.drop a).take (c - a)).take (b - a) := by rw [List.take_take, Nat.min_eq_left (by omega)]
  rw [this, List.map_take]
  generalize ((ws.drop a).take (c - a)).map (fun w => w.length + 1) = l
  generalize b - a = n
  induction l generalizing n with
  | nil => simp
  | cons x l ih =>
    cases n with
    | zero => simp
    | succ n =>
      have := ih n
      simp
      omega
/-- line's end: E words fit, one more doesn't -/
structure IsEnd (ws : List Str) (a : Nat) (sp : Int) (E : Nat) : Prop where
  le : a ≤ E ∧ E ≤ ws.length
  fits : ∀ e, a ≤ e → e < E → (wsum ws a (e + 1) : Int) ≤ sp + 1
  out : E < ws.length → sp + 1 < (wsum ws a (E + 1) : Int)
theorem IsEnd.uniq {ws : List Str} {a : Nat} {sp : Int} {E F : Nat} (x : IsEnd ws a sp E) (y : IsEnd ws a sp F) : E = F := by
  rcases Nat.lt_trichotomy E F with h | h | h
  · have := x.out (by have := y.le; omega)
    have := y.fits E x.le.1 h
    omega
  · exact h
  · have := y.out (by have := x.le; omega)
    have := x.fits F y.le.1 h
    omega
/-- less than nothing is nothing -/
theorem IsEnd.zero {ws : List Str} {a : Nat} {sp : Int} {E : Nat} (hw : ∀ w ∈ ws, GoodV w) (x : IsEnd ws a sp E) : IsEnd ws a (max 0 sp) E := by
  refine ⟨x.le, fun e h1 h2 => by have := x.fits e h1 h2; omega, fun h => ?_⟩
  have h1 := x.out h
  have g : ws[E]? = some ws[E] := List.getElem?_eq_getElem h
  have := wsum_succ x.le.1 g
  have := (hw _ (List.getElem_mem h)).1
  have e : (ws[E]).length = (ws[E]).cps.size := rfl
  omega
open Classical in
noncomputable def endE (ws : List Str) (a : Nat) (sp : Int) : Nat := if h : ∃ E, IsEnd ws a sp E then h.choose else 0
theorem endE_of {ws : List Str} {a : Nat} {sp : Int} {E : Nat} (x : IsEnd ws a sp E) : endE ws a sp = E := by
  unfold endE
  rw [dif_pos ⟨E, x⟩]
  exact IsEnd.uniq (Exists.choose_spec (⟨E, x⟩ : ∃ E, IsEnd ws a sp E)) x
section
variable {fs : List Fn} {wf n : Nat} {m : Store} {ws : List Str} {s : Sec} {a i : Nat}
theorem endof_ok {sp : Int} (hw : ∀ w ∈ ws, GoodV w) (ha : a ≤ ws.length) (hl : ws.length < wf) : wp (bodyN fs wf (n + 1) f_end_of [encW ws, .int a, .int sp] m) (k := ⟨fun d m' => d = encN (endE ws a sp) ∧ IsEnd ws a sp (endE ws a sp) ∧ m' = m⟩) := by
  rw [wp_body]
  simp [f_end_of, startE]
  refine s_while' (fun k r m1 => ∃ e : Nat, k = ws.length - e ∧ r = [some (encW ws), some (.int (a : Int)), some (.int sp), some (.int (e : Int)), some (.int (sp - (wsum ws a e : Nat)))] ∧ m1 = m ∧ a ≤ e ∧ e ≤ ws.length ∧ ∀ e', a ≤ e' → e' < e → (wsum ws a (e' + 1) : Int) ≤ sp + 1) (k := ws.length - a) (by omega)
    ⟨a, rfl, by rw [wsum_self]; simp, rfl, Nat.le_refl _, ha, fun e' h1 h2 => by omega⟩ (fun k r m1 ⟨e, hk, hr, hm, h1, h2, h3⟩ => ?_)
  subst hr hm
  simp
  have done : (E : (e < ws.length → sp + 1 < (wsum ws a (e + 1) : Int))) → D.int (e : Int) = encN (endE ws a sp) ∧ IsEnd ws a sp (endE ws a sp) := fun E => by
    have I : IsEnd ws a sp e := ⟨⟨h1, h2⟩, h3, E⟩
    rw [endE_of I]
    exact ⟨rfl, I⟩
  refine ⟨fun hlt => ?_, fun hge => done fun z => by omega⟩
  have g : ws[e]? = some ws[e] := List.getElem?_eq_getElem hlt
  have hs := wsum_succ h1 g
  have hg := (hw _ (List.getElem_mem hlt)).1
  have el : (ws[e]).length = (ws[e]).cps.size := rfl
  refine ⟨_, g, by rw [el]; unfold sizeLine; omega, fun hle => ⟨_, g, by rw [el]; unfold sizeLine; omega, ws.length - (e + 1), by omega, e + 1, rfl, ⟨by omega, by omega⟩, by omega, by omega, fun e' q1 q2 => ?_⟩, fun hgt => done fun _ => by omega⟩
  by_cases z : e' = e
  · subst z
    omega
  · exact h3 e' q1 (by omega)
theorem begins_ok : wp (bodyN fs wf (n + 1) f_begins [encS s, .int (i : Int)] m) (k := ⟨fun d m' => d = encN (if i < s.high then s.wide else 0) ∧ m' = m⟩) := by
  rw [wp_body]
  simp [f_begins, startE, encN]
  constructor
  · intro h
    rw [if_pos h]
  · intro h
    rw [if_neg (by omega)]
    rfl
theorem room_ok [Has fs "begins" f_begins 2] {W : Nat} : wp (bodyN fs wf (n + 2) f_room [encS s, .int (i : Int), .int (W : Int)] m) (k := ⟨fun d m' => d = .int (max 0 ((W : Int) - ((if i < s.high then s.wide else 0 : Nat) : Int))) ∧ m' = m⟩) := by
  rw [wp_body]
  simp [f_room, startE]
  refine (begins_ok (n := n)).mono fun d m1 ⟨z1, z2⟩ => ?_
  subst z1 z2
  simp [encN]
  generalize (if i < s.high then s.wide else 0) = b
  split
  · rw [Int.max_eq_right (by omega)]
  · rw [Int.max_eq_left (by omega)]
/-- a line's room -/
def roomN (s : Sec) (W i : Nat) : Int := max 0 ((W : Int) - ((if i < s.high then s.wide else 0 : Nat) : Int))
/-- where line i begins, among the words -/
noncomputable def lay (s : Sec) (W : Nat) : Nat → Nat
  | 0 => 0
  | i + 1 => endE s.words (lay s W i) (roomN s W i)
/-- so many lines -/
structure IsMany (s : Sec) (W n : Nat) : Prop where
  out : s.high ≤ n ∧ s.words.length ≤ lay s W n
  before : ∀ i, i < n → i < s.high ∨ lay s W i < s.words.length
theorem IsMany.uniq {s : Sec} {W n k : Nat} (x : IsMany s W n) (y : IsMany s W k) : n = k := by
  rcases Nat.lt_trichotomy n k with h | h | h
  · have := y.before n h
    have := x.out
    omega
  · exact h
  · have := x.before k h
    have := y.out
    omega
open Classical in
noncomputable def many (s : Sec) (W : Nat) : Nat := if h : ∃ n, IsMany s W n then h.choose else 0
theorem many_of {s : Sec} {W n : Nat} (x : IsMany s W n) : many s W = n := by
  unfold many
  rw [dif_pos ⟨n, x⟩]
  exact IsMany.uniq (Exists.choose_spec (⟨n, x⟩ : ∃ n, IsMany s W n)) x
/-- the lay that bends as late as may be -/
noncomputable def bentL (s : Sec) (W : Nat) : List Nat := (List.range (many s W)).map fun i => lay s W (i + 1)
/-- a wide enough line has a word more -/
theorem IsEnd.more {ws : List Str} {a E : Nat} {sp : Int} (x : IsEnd ws a sp E) (h : a < ws.length) (hw : ∀ w ∈ ws, (w.length : Int) ≤ sp) : a < E := by
  rcases Nat.lt_or_ge a E with z | z
  · exact z
  · have e : E = a := by have := x.le; omega
    subst e
    have := x.out h
    have g : ws[E]? = some ws[E] := List.getElem?_eq_getElem h
    have h1 := wsum_succ (Nat.le_refl E) g
    rw [wsum_self] at h1
    have := hw _ (List.getElem_mem h)
    omega
theorem bent_ok [Has fs "end_of" f_end_of 3] [HasD fs "room" f_room 3 [.int 30]] [Has fs "begins" f_begins 2] {W : Nat} (o : SecOk s) (hW : ∀ w ∈ s.words, w.length ≤ W) (hwf : 1000 < wf) : wp (bodyN fs wf (n + 3) f_bent [encS s, .int (W : Int)] m) (k := ⟨fun d m' => d = encL (bentL s W) ∧ IsMany s W (many s W) ∧ Keep none m m'⟩) := by
  have hl := o.len
  rw [wp_body]
  simp [f_bent, startE]
  refine wfor_typed s.words.zipIdx (fun p => D.tup [.int (p.2 : Int), .str p.1]) rfl (fun i r m1 => ∃ x3 x4, r = [some (encS s), some (.int (W : Int)), some (encW s.words), x3, x4, none, none] ∧ m1 = m) ⟨_, _, rfl, rfl⟩ (fun i x r m1 hx ⟨x3, x4, hr, hm⟩ => ?_) (fun r m1 ⟨x3, x4, hr, hm⟩ => ?_)
  · subst hr hm
    obtain ⟨w, j⟩ := x
    have hwm : w ∈ s.words := by
      have := List.mem_of_getElem? hx
      exact (List.mem_zipIdx this).2.2 ▸ List.getElem_mem _
    have h1 := (o.words w hwm).1
    have h2 := hW w hwm
    unfold fturn
    simp
    exact ⟨by have : w.length = w.cps.size := rfl; unfold sizeLine; omega, by omega⟩
  · subst hr hm
    simp
    refine s_while' (fun k r m2 => ∃ i, k = (s.high - i) + (s.words.length - lay s W i) ∧ r = [some (encS s), some (.int (W : Int)), some (encW s.words), x3, x4, some (.ref m1.length), some (.int (lay s W i : Nat))] ∧ m2[m1.length]? = some (.lst ((List.range i).map fun j => encN (lay s W (j + 1)))) ∧ lay s W i ≤ s.words.length ∧ (∀ j, j < i → j < s.high ∨ lay s W j < s.words.length) ∧ i ≤ 100 ∧ i + k ≤ 50 ∧ Keep none m1 m2)
      (k := s.high + s.words.length) (by have := o.high; omega) ⟨0, rfl, rfl, by simp, Nat.zero_le _, fun j hj => by omega, by omega, by have := o.high; omega, Keep.new none m1 _⟩ (fun k r m2 ⟨i, hk, hr, h1, h2, h3, h4, h5, h6⟩ => ?_)
    subst hr
    simp [h1]
    have step : (i < s.high ∨ lay s W i < s.words.length) → IsEnd s.words (lay s W i) (roomN s W i) (lay s W (i + 1)) → ∃ k', k' < k ∧ k' = (s.high - (i + 1)) + (s.words.length - lay s W (i + 1)) ∧ i + 1 + k' ≤ 50 ∧ (∀ j, j < i + 1 → j < s.high ∨ lay s W j < s.words.length) := fun hc I => by
      have hle := I.le
      have hm : s.high ≤ i → lay s W i < s.words.length → lay s W i < lay s W (i + 1) := fun q1 q2 => I.more q2 fun w hw => by
        have := hW w hw
        unfold roomN
        rw [if_neg (by omega)]
        omega
      refine ⟨_, ?_, rfl, ?_, fun j hj => ?_⟩
      · rcases Nat.lt_or_ge i s.high with q | q
        · omega
        · have := hm q (by omega)
          omega
      · rcases Nat.lt_or_ge i s.high with q | q
        · omega
        · have := hm q (by omega)
          omega
      · by_cases z : j = i
        · subst z
          exact hc
        · exact h3 j (by omega)
    refine ⟨fun c1 => ?_, fun c1 => ⟨fun c2 => ?_, fun c2 => ?_⟩⟩
    rotate_right
    · have I : IsMany s W i := ⟨⟨c2, c1⟩, h3⟩
      unfold bentL
      rw [many_of I]
      refine ⟨?_, I, h6⟩
      unfold encL tupOf
      rw [List.map_map]
      rfl
    all_goals
      refine (room_ok (n := n)).mono fun d m3 ⟨z1, z2⟩ => ?_
      subst z1 z2
      simp
      refine (endof_ok (n := n + 1) (sp := roomN s W i) (a := lay s W i) o.words (by omega) (by omega)).mono fun d m4 ⟨z3, I, z5⟩ => ?_
      subst z3 z5
      obtain ⟨k', g1, g2, g3, g4⟩ := step (by omega) I
      simp [h1]
      have hle := I.le
      refine ⟨by unfold sizeLine; omega, k', g1, i + 1, g2, rfl, ?_, hle.2, g4, by omega, g3, h6.set_new (Nat.le_refl _) _⟩
      rw [get_set h1, range_succ_map]
      rfl
theorem join_len : ∀ l : List Str, (Txt.join " " l).length = (l.map fun w => w.length + 1).sum - 1 := by
  intro l
  show (Builtin.Str.glued (PySem.Str.ofString " ") _).length = _
  rw [StrLaws.glued_eq_join]
  have e1 : (PySem.Str.ofString " ").length = 1 := by decide
  induction l with
  | nil => rfl
  | cons a r ih =>
    cases r with
    | nil => show a.length = _; simp
    | cons b r =>
      show (a ++ PySem.Str.ofString " " ++ Str.join _ (b :: r)).length = _
      rw [PySem.Str.length_append, PySem.Str.length_append, ih, e1]
      simp
      omega
theorem wsum_le {a b : Nat} (hw : ∀ w ∈ ws, GoodV w) : wsum ws a b ≤ 9 * (b - a) := by
  unfold wsum
  have : ∀ l : List Str, (∀ w ∈ l, GoodV w) → (l.map fun w => w.length + 1).sum ≤ 9 * l.length := fun l => by
    induction l with
    | nil => intro _; simp
    | cons x r ih =>
      intro h
      have h1 := (h x List.mem_cons_self).1
      have h2 := ih fun w hw => h w (List.mem_cons_of_mem _ hw)
      have e : x.length = x.cps.size := rfl
      simp
      omega
  refine Nat.le_trans (this _ fun w h => hw w (List.mem_of_mem_drop (List.mem_of_mem_take h))) ?_
  simp
  omega
theorem wlen_le {a b : Nat} : (((ws.drop a).take (b - a)).map fun w => w.length).sum + ((ws.drop a).take (b - a)).length = wsum ws a b := by
  unfold wsum
  generalize (ws.drop a).take (b - a) = l
  induction l with
  | nil => rfl
  | cons x r ih =>
    simp only [List.map_cons, List.sum_cons, List.length_cons]
    omega
theorem fit_loop {x2 x3 : Option D} {sp : Int} {N : Pf.Env → Store → Prop} {Rr : D → Store → Prop} {B C : Pf.Env → Store → Prop} (o : SecOk s) (ha : a ≤ s.words.length) (hwf : 1000 < wf)
    (hN : ∀ e : Nat, IsEnd s.words a sp e → N [some (encS s), some (.int (a : Int)), x2, x3, some (.int sp), some (.int (e : Int))] m) : Pf.ws (exS (callOf fs (bodyN fs wf n)) wf
      (.whl (.and (.cmp .Lt (.var 5) (.bif .len (.cons (.ix (.var 0) (.cst (.int 3))) .nil))) (.cmp .LtE (.bif .len (.cons (.meth .join (.cst (.str " ")) (.cons (.sl (.ix (.var 0) (.cst (.int 3))) true true (.var 1) (.bin .Add (.var 5) (.cst (.int 1)))) .nil)) .nil)) (.var 4)))
    (.set (.name 5) (.bin .Add (.var 5) (.cst (.int 1))))) [some (encS s), some (.int (a : Int)), x2, x3, some (.int sp), some (.int (a : Int))] m) (k := ⟨N, Rr, B, C⟩) := by
  have hl := o.len
  refine s_while' (fun k r m1 => ∃ e : Nat, k = s.words.length - e ∧ r = [some (encS s), some (.int (a : Int)), x2, x3, some (.int sp), some (.int (e : Int))] ∧ m1 = m ∧ a ≤ e ∧ e ≤ s.words.length ∧ ∀ e', a ≤ e' → e' < e → (wsum s.words a (e' + 1) : Int) ≤ sp + 1) (k := s.words.length - a) (by omega)
    ⟨a, rfl, rfl, rfl, Nat.le_refl _, ha, fun e' h1 h2 => by omega⟩ (fun k r m1 ⟨e, hk, hr, hm, h1, h2, h3⟩ => ?_)
  subst hr hm
  have ec : ((e : Int) + 1) = ((e + 1 : Nat) : Int) := by omega
  simp [ec, cut_nat (show a ≤ e + 1 by omega), -Int.natCast_add]
  have e1 : (Str.ofString " ").length = 1 := by decide
  have b1 := wlen_le (ws := s.words) (a := a) (b := e + 1)
  have b2 := wsum_le (ws := s.words) (a := a) (b := e + 1) o.words
  have bj : (Txt.join (Str.ofString " ") ((s.words.drop a).take (e + 1 - a))).length = wsum s.words a (e + 1) - 1 := join_len _
  refine ⟨fun hlt => ?_, fun hge => hN e ⟨⟨h1, h2⟩, h3, fun z => by omega⟩⟩
  have g : s.words[e]? = some s.words[e] := List.getElem?_eq_getElem hlt
  have hs := wsum_succ h1 g
  refine ⟨(s.words.drop a).take (e + 1 - a), by rw [← List.map_drop, ← List.map_take]; exact optAll_strs, ?_⟩
  rw [bj, e1]
  refine ⟨by simp at b1 b2 ⊢; omega, by unfold sizeLine; omega, fun hle => ⟨s.words.length - (e + 1), by omega, e + 1, rfl, rfl, by omega, by omega, fun e' q1 q2 => ?_⟩, fun hgt => hN e ⟨⟨h1, h2⟩, h3, fun _ => by omega⟩⟩
  by_cases z : e' = e
  · subst z
    omega
  · exact h3 e' q1 (by omega)
theorem fit_ok {W : Nat} (o : SecOk s) (ha : a ≤ s.words.length) (hwf : 1000 < wf) : wp (bodyN fs wf (n + 1) f_l_fit [encS s, .int a, .int i, .int W] m) (k := ⟨fun d m' => d = encN (endE s.words a (roomN s W i)) ∧ IsEnd s.words a (roomN s W i) (endE s.words a (roomN s W i)) ∧ m' = m⟩) := by
  rw [wp_body]
  simp [f_l_fit, startE]
  refine ⟨fun hi => ?_, fun hi => ?_⟩
  · refine fit_loop o ha hwf fun e I => ?_
    have J : IsEnd s.words a (roomN s W i) e := by
      have := I.zero o.words
      unfold roomN
      rw [if_pos hi]
      exact this
    simp
    rw [endE_of J]
    exact ⟨rfl, J⟩
  · refine fit_loop o ha hwf fun e I => ?_
    have J : IsEnd s.words a (roomN s W i) e := by
      have := I.zero o.words
      unfold roomN
      rw [if_neg (by omega)]
      simpa using this
    simp
    rw [endE_of J]
    exact ⟨rfl, J⟩
end
/-! ### bent lays, plainly -/
theorem exEnd {ws : List Str} {a : Nat} {sp : Int} : ∀ (k e : Nat), k = ws.length - e → a ≤ e → e ≤ ws.length → (∀ e', a ≤ e' → e' < e → (wsum ws a (e' + 1) : Int) ≤ sp + 1) → ∃ E, IsEnd ws a sp E
  | 0, e, hk, h1, h2, h3 => ⟨e, ⟨h1, h2⟩, h3, fun z => by omega⟩
  | k + 1, e, hk, h1, h2, h3 => by
    by_cases c : (wsum ws a (e + 1) : Int) ≤ sp + 1
    · refine exEnd k (e + 1) (by omega) (by omega) (by omega) fun e' q1 q2 => ?_
      by_cases z : e' = e
      · subst z
        exact c
      · exact h3 e' q1 (by omega)
    · exact ⟨e, ⟨h1, h2⟩, h3, fun _ => by omega⟩
theorem ends {ws : List Str} {a : Nat} {sp : Int} (ha : a ≤ ws.length) : IsEnd ws a sp (endE ws a sp) := by
  obtain ⟨E, I⟩ := exEnd (sp := sp) (ws.length - a) a rfl (Nat.le_refl a) ha fun e' h1 h2 => by omega
  rw [endE_of I]
  exact I
theorem lay_le {s : Sec} {W : Nat} : ∀ i, lay s W i ≤ s.words.length
  | 0 => Nat.zero_le _
  | i + 1 => (ends (lay_le i)).le.2
theorem lay_step {s : Sec} {W : Nat} (i : Nat) : IsEnd s.words (lay s W i) (roomN s W i) (lay s W (i + 1)) := ends (lay_le i)
theorem lay_grow {s : Sec} {W i : Nat} (hW : ∀ w ∈ s.words, w.length ≤ W) (h1 : s.high ≤ i) (h2 : lay s W i < s.words.length) : lay s W i < lay s W (i + 1) := (lay_step i).more h2 fun w hw => by
  have := hW w hw
  unfold roomN
  rw [if_neg (by omega)]
  omega
theorem exMany {s : Sec} {W : Nat} (hW : ∀ w ∈ s.words, w.length ≤ W) : ∀ (k i : Nat), (s.high - i) + (s.words.length - lay s W i) ≤ k → (∀ j, j < i → j < s.high ∨ lay s W j < s.words.length) → ∃ n, IsMany s W n ∧ n ≤ i + k
  | k, i, hk, hb => by
    by_cases c : i < s.high ∨ lay s W i < s.words.length
    · cases k with
      | zero => omega
      | succ k =>
        have hle := (lay_step (s := s) (W := W) i).le
        have hg := fun h1 h2 => lay_grow (s := s) (W := W) (i := i) hW h1 h2
        obtain ⟨n, I, hn⟩ := exMany hW k (i + 1) (by
          rcases Nat.lt_or_ge i s.high with q | q
          · omega
          · have := hg q (by omega)
            omega) fun j hj => by
          by_cases z : j = i
          · subst z
            exact c
          · exact hb j (by omega)
        exact ⟨n, I, by omega⟩
    · exact ⟨i, ⟨⟨by omega, by omega⟩, hb⟩, by omega⟩
theorem many_is {s : Sec} {W : Nat} (o : SecOk s) (hW : ∀ w ∈ s.words, w.length ≤ W) : IsMany s W (many s W) ∧ many s W ≤ 50 := by
  have h1 := o.high
  have h2 := o.len
  obtain ⟨n, I, hn⟩ := exMany hW (s.high + s.words.length) 0 (by simp [lay]) fun j hj => by omega
  rw [many_of I]
  exact ⟨I, by omega⟩
theorem flat_sec {s : Sec} (o : SecOk s) (hn : GoodS 8 s.name) : Flat 1600 2 (encS s) := by
  have hl := o.len
  refine .tup (n := 4) (b := 399) (fun x hx => ?_) (by simp) (by omega)
  simp only [List.mem_cons, List.mem_nil_iff, or_false] at hx
  have hh := o.high
  have hw := o.wide
  rcases hx with rfl | rfl | rfl | rfl
  · exact hn.flat.mono (by omega) (by omega)
  · exact .int (by omega)
  · exact .int (by omega)
  · exact (flat_tupOf (b := 8) (n := 40) (f := D.str) (fun w hw => (o.words w hw).good.flat) hl.2).mono (by omega) (by omega)
theorem flat_lay {l : List Nat} (h1 : l.length ≤ 100) (h2 : ∀ x ∈ l, x ≤ 40) : Flat 100 1 (encL l) := flat_tupOf (b := 0) (n := 100) (fun n hn => .int (b := 0) (by have := h2 n hn; omega)) h1
theorem bentL_len {s : Sec} {W : Nat} (o : SecOk s) (hW : ∀ w ∈ s.words, w.length ≤ W) : (bentL s W).length ≤ 50 ∧ ∀ x ∈ bentL s W, x ≤ s.words.length := by
  have h := many_is o hW
  refine ⟨by unfold bentL; simp; omega, fun x hx => ?_⟩
  obtain ⟨i, _, rfl⟩ := List.mem_map.mp hx
  exact lay_le _
end Cs

set_option maxHeartbeats 0
set_option exponentiation.threshold 3000
/-! Cs2: lays by draws. -/
namespace Cs
open PySem L2 Pf
/-- first_of: 0 lay, 1 i -/
def f_first_of : Fn := ⟨"first_of", 2, 2, [],
  (.ret (.ite (.cmp .Gt (.var 1) (.cst (.int 0))) (.ix (.var 0) (.bin .Sub (.var 1) (.cst (.int 1)))) (.cst (.int 0))))⟩
/-- line_words: 0 section, 1 lay, 2 i -/
def f_line_words : Fn := ⟨"line_words", 3, 3, [],
  (.seq (.ite (.or (.cmp .Lt (.var 2) (.cst (.int 0))) (.cmp .GtE (.var 2) (.bif .len (.cons (.var 1) .nil))))
    (.raise "NoPlace" ["place"] (.cons (.var 2) .nil))
    .skip)
  (.ret (.sl (.ix (.var 0) (.cst (.int 3))) true true (.call "first_of" (.cons (.var 1) (.cons (.var 2) .nil))) (.ix (.var 1) (.var 2)))))⟩
/-- _law_lay: 0 tap_here, 1 section_here, 2 width_here, 3 found, 4 first, 5 end -/
def f_l_lay : Fn := ⟨"_law_lay", 3, 6, [],
  (.seq (.set (.name 3) (.lst .nil))
  (.seq (.whl (.or (.cmp .Lt (.bif .len (.cons (.var 3) .nil)) (.ix (.var 1) (.cst (.int 1)))) (.cmp .Lt (.ix (.var 3) (.neg (.cst (.int 1)))) (.bif .len (.cons (.ix (.var 1) (.cst (.int 3))) .nil))))
    (.seq (.set (.name 4) (.ite (.cmp .NotEq (.var 3) (.lst .nil)) (.ix (.var 3) (.neg (.cst (.int 1)))) (.cst (.int 0))))
    (.seq (.set (.name 5) (.call "_law_fit" (.cons (.var 1) (.cons (.var 4) (.cons (.bif .len (.cons (.var 3) .nil)) (.cons (.var 2) .nil))))))
    (.seq (.ite (.and (.cmp .Lt (.bif .len (.cons (.var 3) .nil)) (.cst (.int 40))) (.cmp .Eq (.call "_law_take" (.cons (.var 0) (.cons (.cst (.int 3)) .nil))) (.cst (.int 0))))
      (.set (.name 5) (.bin .Add (.var 4) (.call "_law_take" (.cons (.var 0) (.cons (.bin .Add (.bin .Sub (.var 5) (.var 4)) (.cst (.int 1))) .nil)))))
      .skip)
    (.expr (.meth .append (.var 3) (.cons (.var 5) .nil)))))))
  (.ret (.bif .tuple (.cons (.var 3) .nil)))))⟩
/-- the words ahead of line i -/
def fst (l : List Nat) (i : Nat) : Nat := if i = 0 then 0 else l.getD (i - 1) 0
theorem fst_zero {l : List Nat} : fst l 0 = 0 := rfl
theorem fst_succ {l : List Nat} {i : Nat} : fst l (i + 1) = l.getD i 0 := rfl
theorem fst_app {l : List Nat} {x i : Nat} (h : i ≤ l.length) : fst (l ++ [x]) i = fst l i := by
  unfold fst
  split
  · rfl
  · unfold List.getD
    rw [List.getElem?_append_left (by omega)]
theorem fst_end {l : List Nat} {x : Nat} : fst (l ++ [x]) (l.length + 1) = x := by
  unfold fst
  simp
/-- lines of a lay, as far as it goes -/
structure LaySt (s : Sec) (W : Nat) (l : List Nat) : Prop where
  le : ∀ i, i ≤ l.length → fst l i ≤ s.words.length
  step : ∀ i, i < l.length → fst l i ≤ fst l (i + 1) ∧ fst l (i + 1) ≤ endE s.words (fst l i) (roomN s W i)
  go : ∀ i, i < l.length → i < s.high ∨ fst l i < s.words.length
theorem LaySt.nil {s : Sec} {W : Nat} : LaySt s W [] := ⟨fun i h => by
  have : i = 0 := by simpa using h
  subst this
  exact Nat.zero_le _, fun i h => by simp at h, fun i h => by simp at h⟩
theorem LaySt.app {s : Sec} {W : Nat} {l : List Nat} {x : Nat} (h : LaySt s W l) (h1 : fst l l.length ≤ x) (h2 : x ≤ endE s.words (fst l l.length) (roomN s W l.length)) (h3 : l.length < s.high ∨ fst l l.length < s.words.length) : LaySt s W (l ++ [x]) := by
  have hE := (ends (sp := roomN s W l.length) (h.le l.length (Nat.le_refl _))).le.2
  refine ⟨fun i hi => ?_, fun i hi => ?_, fun i hi => ?_⟩
  · rw [List.length_append, List.length_singleton] at hi
    by_cases c : i ≤ l.length
    · rw [fst_app c]
      exact h.le i c
    · have : i = l.length + 1 := by omega
      subst this
      rw [fst_end]
      omega
  · rw [List.length_append, List.length_singleton] at hi
    by_cases c : i < l.length
    · rw [fst_app (by omega), fst_app (by omega)]
      exact h.step i c
    · have : i = l.length := by omega
      subst this
      rw [fst_end, fst_app (Nat.le_refl _)]
      exact ⟨h1, h2⟩
  · rw [List.length_append, List.length_singleton] at hi
    by_cases c : i < l.length
    · rw [fst_app (by omega)]
      exact h.go i c
    · have : i = l.length := by omega
      subst this
      rw [fst_app (Nat.le_refl _)]
      exact h3
structure LayOk (s : Sec) (W : Nat) (l : List Nat) : Prop where
  st : LaySt s W l
  many : s.high ≤ l.length ∧ l.length ≤ 90
  all : fst l l.length = s.words.length
section
variable {fs : List Fn} {wf n : Nat} {m : Store}
theorem first_ok {l : List Nat} {i : Nat} (hi : i ≤ l.length) : wp (bodyN fs wf (n + 1) f_first_of [encL l, .int (i : Int)] m) (k := ⟨fun d m' => d = encN (fst l i) ∧ m' = m⟩) := by
  rw [wp_body]
  simp [f_first_of, startE]
  unfold fst
  constructor
  · intro h
    have h1 : i - 1 < l.length := by omega
    refine ⟨l.getD (i - 1) 0, ?_, ?_⟩
    · rw [show ((i : Int) - 1) = ((i - 1 : Nat) : Int) by omega, Pf.atI_nat, get_getD h1 (d := 0)]
    · rw [if_neg (by omega)]
  · intro h
    rw [if_pos h]
    rfl
end
section
variable {fs : List Fn} [Has fs "_law_take" f_l_take 2] [Has fs "_law_fit" f_l_fit 4] {wf n h k : Nat} {m : Store} {s : Sec} {W : Nat}
theorem llay_ok (f : Tap h k m) (hk : k + 1000 < 1000000) (o : SecOk s) (hW : ∀ w ∈ s.words, w.length ≤ W) (hwf : 1000 < wf) : wp (bodyN fs wf (n + 3) f_l_lay [.ref h, encS s, .int (W : Int)] m) (k := ⟨fun d m' => ∃ l, LayOk s W l ∧ d = encL l ∧ Tap h (k + 200) m' ∧ Keep (some h) m m'⟩) := by
  have hl := o.len
  have hh := o.high
  have hlt := f.lt
  rw [wp_body]
  simp [f_l_lay, startE]
  refine s_while' (fun k' r m2 => ∃ (l : List Nat) (x4 x5 : Option D), k' = (40 - l.length) + (s.words.length - fst l l.length) ∧ r = [some (.ref h), some (encS s), some (.int (W : Int)), some (.ref m.length), x4, x5] ∧ m2[m.length]? = some (.lst (l.map encN)) ∧ LaySt s W l ∧ l.length + k' ≤ 80 ∧ Tap h (k + 2 * l.length) m2 ∧ Keep (some h) m m2)
    (k := 40 + s.words.length) (by omega) ⟨[], none, none, rfl, rfl, by simp, .nil, by simp; omega, f.keep (Keep.new none m _), Keep.new _ m _⟩ (fun k' r m2 ⟨l, x4, x5, hk', hr, h1, h2, h3, h4, h5⟩ => ?_)
  subst hr
  have hs : ∀ x ∈ l.map encN, Simple 0 x := fun x hx => by
    obtain ⟨j, _, rfl⟩ := List.mem_map.mp hx
    exact .int _
  have hle := h2.le l.length (Nat.le_refl _)
  have last : ∀ x, l.getLast? = some x → x = fst l l.length := fun x hx => by
    have hne : l ≠ [] := fun z => by rw [z] at hx; cases hx
    obtain ⟨j, hj⟩ : ∃ j, l.length = j + 1 := ⟨l.length - 1, by have := List.length_pos_iff.mpr hne; omega⟩
    rw [List.getLast?_eq_getElem?] at hx
    rw [hj, fst_succ]
    unfold List.getD
    rw [show l.length - 1 = j by omega] at hx
    rw [hx]
    rfl
  have ex : l ≠ [] → ∃ x, l.getLast? = some x := fun hne => by
    cases q : l.getLast? with
    | none => exact absurd (List.getLast?_eq_none_iff.mp q) hne
    | some x => exact ⟨x, rfl⟩
  have hE := fun (hc : l.length < s.high ∨ fst l l.length < s.words.length) => (ends (sp := roomN s W l.length) hle).le
  have hgrow : s.high ≤ l.length → fst l l.length < s.words.length → fst l l.length < endE s.words (fst l l.length) (roomN s W l.length) := fun q1 q2 => (ends (sp := roomN s W l.length) hle).more q2 fun w hw => by
    have := hW w hw
    unfold roomN
    rw [if_neg (by omega)]
    omega
  have z0 : ∀ a : Int, l = [] → a = 0 → a = ((fst l l.length : Nat) : Int) := fun a hz ha => by rw [hz, ha]; rfl
  simp [h1]
  have nn : ∀ {Q : R → Store → Prop}, wp (cmpR .NotEq (.d (.ref m.length)) (.tl []) m2) (k := ⟨Q⟩) ↔ Q (.d (.bl (!decide (l.map encN = [])))) m2 := fun {Q} => by
    rw [ne_ref_tl h1 rfl hs (d' := 0) (by simp) (by omega) (by omega)]
    exact Iff.rfl
  have main : ∀ (x : Nat) (m3 : Store), m3[m.length]? = some (.lst (l.map encN)) → (l.length < s.high ∨ fst l l.length < s.words.length) → fst l l.length ≤ x → x ≤ endE s.words (fst l l.length) (roomN s W l.length) → (l.length < 40 ∨ x = endE s.words (fst l l.length) (roomN s W l.length)) → Tap h (k + 2 * l.length + 2) m3 → Keep (some h) m m3 →
      ∃ k'', k'' < k' ∧ k'' = (40 - (l ++ [x]).length) + (s.words.length - fst (l ++ [x]) (l ++ [x]).length) ∧ (m3.set m.length (.lst (l.map encN ++ [encN x])))[m.length]? = some (.lst ((l ++ [x]).map encN)) ∧ LaySt s W (l ++ [x]) ∧ (l ++ [x]).length + k'' ≤ 80 ∧ Tap h (k + 2 * (l ++ [x]).length) (m3.set m.length (.lst (l.map encN ++ [encN x]))) ∧ Keep (some h) m (m3.set m.length (.lst (l.map encN ++ [encN x]))) := fun x m3 g1 hc hx1 hx2 hx3 hf hkp => by
    have h9 := hE hc
    have eL : (l ++ [x]).length = l.length + 1 := by simp
    have eF : fst (l ++ [x]) (l ++ [x]).length = x := by rw [eL]; exact fst_end
    have hg : l.length < 40 ∨ fst l l.length < x := by
      rcases hx3 with q | q
      · exact .inl q
      · rcases Nat.lt_or_ge l.length 40 with z | z
        · exact .inl z
        · exact .inr (by have := hgrow (by omega) (by omega); omega)
    rw [eF, eL]
    exact ⟨_, by omega, rfl, (get_set g1 _).trans (by rw [List.map_append]; rfl), h2.app hx1 hx2 hc, by omega, (hf.set (by omega)).mono (by omega), hkp.set_new (by omega) _⟩
  refine ⟨fun hi => ?_, fun hi => ?_⟩
  · rw [nn]
    simp [h1]
    refine ⟨fun hne => ?_, fun hz => ?_⟩
    · obtain ⟨x, hx⟩ := ex hne
      refine ⟨_, ⟨x, hx, rfl⟩, ?_⟩
      rw [last x hx]
      have hc : l.length < s.high ∨ fst l l.length < s.words.length := .inl hi
      refine (fit_ok (n := n + 1) (a := fst l l.length) (i := l.length) (W := W) o hle hwf).mono fun d m3 ⟨z1, I, z2⟩ => ?_
      subst z1 z2
      have h9 := I.le
      simp [h1]
      refine ⟨fun h40 => ?_, fun h40 => ?_⟩
      · refine (take_ok (n := n + 1) h4 (by omega) (by omega) (by omega)).mono fun d m4 ⟨v, a1, a2, a3, a4, a5⟩ => ?_
        subst a1
        have g4 := a4.cell h1 (by simp; omega)
        simp
        refine ⟨fun hv => ?_, fun hv => ?_⟩
        · simp [encN]
          refine (take_ok (n := n + 1) a3 (by omega) (by omega) (by omega)).mono fun d m5 ⟨v2, b1, b2, b3, b4, b5⟩ => ?_
          subst b1
          have g5 := b4.cell g4 (by simp; omega)
          simp [g5, encN]
          rw [show D.int (((fst l l.length : Nat) : Int) + (v2 : Int)) = encN (fst l l.length + v2) by unfold encN; rw [Int.natCast_add]]
          obtain ⟨k'', q1, q2, q3⟩ := main (fst l l.length + v2) m5 g5 hc (by omega) (by omega) (.inl (by omega)) (b3.mono (by omega)) ((h5.trans a4).trans b4)
          exact ⟨by unfold sizeLine; omega, k'', q1, _, q2, q3⟩
        · simp [g4]
          obtain ⟨k'', q1, q2, q3⟩ := main _ m4 g4 hc h9.1 (Nat.le_refl _) (.inr rfl) (a3.mono (by omega)) (h5.trans a4)
          exact ⟨by unfold sizeLine; omega, k'', q1, _, q2, q3⟩
      · obtain ⟨k'', q1, q2, q3⟩ := main _ m3 h1 hc h9.1 (Nat.le_refl _) (.inr rfl) (h4.mono (by omega)) h5
        exact ⟨by unfold sizeLine; omega, k'', q1, _, q2, q3⟩
    · have ef : fst l l.length = 0 := by rw [hz]; rfl
      rw [show [encS s, D.int 0, D.int (l.length : Int), D.int (W : Int)] = [encS s, encN (fst l l.length), D.int (l.length : Int), D.int (W : Int)] by rw [ef]; rfl]
      have hc : l.length < s.high ∨ fst l l.length < s.words.length := .inl hi
      refine (fit_ok (n := n + 1) (a := fst l l.length) (i := l.length) (W := W) o hle hwf).mono fun d m3 ⟨z1, I, z2⟩ => ?_
      subst z1 z2
      have h9 := I.le
      simp [h1]
      refine ⟨fun h40 => ?_, fun h40 => ?_⟩
      · refine (take_ok (n := n + 1) h4 (by omega) (by omega) (by omega)).mono fun d m4 ⟨v, a1, a2, a3, a4, a5⟩ => ?_
        subst a1
        have g4 := a4.cell h1 (by simp; omega)
        simp
        refine ⟨fun hv => ?_, fun hv => ?_⟩
        · simp [encN]
          refine (take_ok (n := n + 1) a3 (by omega) (by omega) (by omega)).mono fun d m5 ⟨v2, b1, b2, b3, b4, b5⟩ => ?_
          subst b1
          have g5 := b4.cell g4 (by simp; omega)
          simp [g5, encN]
          rw [show D.int (v2 : Int) = encN (fst l l.length + v2) by rw [ef, Nat.zero_add]; rfl]
          obtain ⟨k'', q1, q2, q3⟩ := main (fst l l.length + v2) m5 g5 hc (by omega) (by omega) (.inl (by omega)) (b3.mono (by omega)) ((h5.trans a4).trans b4)
          exact ⟨by unfold sizeLine; omega, k'', q1, _, q2, q3⟩
        · simp [g4]
          obtain ⟨k'', q1, q2, q3⟩ := main _ m4 g4 hc h9.1 (Nat.le_refl _) (.inr rfl) (a3.mono (by omega)) (h5.trans a4)
          exact ⟨by unfold sizeLine; omega, k'', q1, _, q2, q3⟩
      · obtain ⟨k'', q1, q2, q3⟩ := main _ m3 h1 hc h9.1 (Nat.le_refl _) (.inr rfl) (h4.mono (by omega)) h5
        exact ⟨by unfold sizeLine; omega, k'', q1, _, q2, q3⟩
  · have hne : l ≠ [] := fun z => by rw [z] at hi; simp at hi; omega
    obtain ⟨x, hx⟩ := ex hne
    refine ⟨_, ⟨x, hx, rfl⟩, ?_⟩
    rw [last x hx]
    simp [encN]
    refine ⟨fun hlt => ?_, fun hge => ?_⟩
    · rw [nn]
      simp [h1, hne]
      refine ⟨_, ⟨x, hx, rfl⟩, ?_⟩
      rw [last x hx]
      have hc : l.length < s.high ∨ fst l l.length < s.words.length := .inr hlt
      refine (fit_ok (n := n + 1) (a := fst l l.length) (i := l.length) (W := W) o hle hwf).mono fun d m3 ⟨z1, I, z2⟩ => ?_
      subst z1 z2
      have h9 := I.le
      simp [h1]
      refine ⟨fun h40 => ?_, fun h40 => ?_⟩
      · refine (take_ok (n := n + 1) h4 (by omega) (by omega) (by omega)).mono fun d m4 ⟨v, a1, a2, a3, a4, a5⟩ => ?_
        subst a1
        have g4 := a4.cell h1 (by simp; omega)
        simp
        refine ⟨fun hv => ?_, fun hv => ?_⟩
        · simp [encN]
          refine (take_ok (n := n + 1) a3 (by omega) (by omega) (by omega)).mono fun d m5 ⟨v2, b1, b2, b3, b4, b5⟩ => ?_
          subst b1
          have g5 := b4.cell g4 (by simp; omega)
          simp [g5, encN]
          rw [show D.int (((fst l l.length : Nat) : Int) + (v2 : Int)) = encN (fst l l.length + v2) by unfold encN; rw [Int.natCast_add]]
          obtain ⟨k'', q1, q2, q3⟩ := main (fst l l.length + v2) m5 g5 hc (by omega) (by omega) (.inl (by omega)) (b3.mono (by omega)) ((h5.trans a4).trans b4)
          exact ⟨by unfold sizeLine; omega, k'', q1, _, q2, q3⟩
        · simp [g4]
          obtain ⟨k'', q1, q2, q3⟩ := main _ m4 g4 hc h9.1 (Nat.le_refl _) (.inr rfl) (a3.mono (by omega)) (h5.trans a4)
          exact ⟨by unfold sizeLine; omega, k'', q1, _, q2, q3⟩
      · obtain ⟨k'', q1, q2, q3⟩ := main _ m3 h1 hc h9.1 (Nat.le_refl _) (.inr rfl) (h4.mono (by omega)) h5
        exact ⟨by unfold sizeLine; omega, k'', q1, _, q2, q3⟩
    · refine ⟨_, h1, rfl, l, ⟨h2, ⟨hi, by omega⟩, by omega⟩, rfl, h4.mono (by omega), h5⟩
end
end Cs

set_option maxHeartbeats 0
set_option exponentiation.threshold 3000
/-! Cs3: lays let by; bent lays let by; wider, less, higher. -/
namespace Cs
open PySem L2 Pf
/-- long_of: 0 words, 1 .0, 2 word -/
def f_long_of : Fn := ⟨"long_of", 1, 3, [],
  (.ret (.bif .max2 (.cons (.cst (.int 0)) (.cons (.bin .Sub (.bif .sum (.cons (.comp [1, 2] (.name 2) (.seq (.var 0)) (.cst (.bl true)) (.bin .Add (.bif .len (.cons (.var 2) .nil)) (.cst (.int 1)))) .nil)) (.cst (.int 1))) .nil))))⟩
/-- is_number: 0 thing -/
def f_is_number : Fn := ⟨"is_number", 1, 1, [],
  (.ret (.and (.isi [.int] (.var 0)) (.not (.isi [.bool] (.var 0)))))⟩
/-- ask_line: 0 section, 1 ahead, 2 end, 3 i, 4 width -/
def f_ask_line : Fn := ⟨"ask_line", 5, 5, [],
  (.seq (.ite (.cmp .Lt (.var 2) (.var 1))
    (.raise "NoPaper" ["word", "at"] (.cons (.cst (.str "falls")) (.cons (.var 3) .nil)))
    .skip)
  (.seq (.ite (.cmp .Gt (.var 2) (.bif .len (.cons (.ix (.var 0) (.cst (.int 3))) .nil)))
    (.raise "NoPaper" ["word", "at"] (.cons (.cst (.str "words")) (.cons (.var 3) .nil)))
    .skip)
  (.ite (.cmp .Gt (.call "long_of" (.cons (.sl (.ix (.var 0) (.cst (.int 3))) true true (.var 1) (.var 2)) .nil)) (.call "room" (.cons (.var 0) (.cons (.var 3) (.cons (.var 4) .nil)))))
    (.raise "NoPaper" ["word", "at"] (.cons (.cst (.str "room")) (.cons (.var 3) .nil)))
    .skip)))⟩
/-- lets_lay: 0 section, 1 thing, 2 width, 3 ahead, 4 i, 5 end, 6 many, 7 .0, 8 one -/
def f_lets_lay : Fn := ⟨"lets_lay", 3, 9, [(.int 30)],
  (.seq (.ite (.or (.not (.isi [.tuple] (.var 1))) (.not (.bif .all (.cons (.comp [7, 8] (.name 8) (.seq (.var 1)) (.cst (.bl true)) (.call "is_number" (.cons (.var 8) .nil))) .nil))))
    (.raise "NoPaper" ["word", "at"] (.cons (.cst (.str "shape")) (.cons (.neg (.cst (.int 1))) .nil)))
    .skip)
  (.seq (.set (.name 3) (.cst (.int 0)))
  (.seq (.for_ (.tup [4, 5]) (.enum (.var 1))
    (.seq (.expr (.call "ask_line" (.cons (.var 0) (.cons (.var 3) (.cons (.var 5) (.cons (.var 4) (.cons (.var 2) .nil)))))))
    (.set (.name 3) (.var 5))))
  (.seq (.set (.name 6) (.bif .len (.cons (.var 1) .nil)))
  (.seq (.ite (.cmp .Lt (.var 3) (.bif .len (.cons (.ix (.var 0) (.cst (.int 3))) .nil)))
    (.raise "NoPaper" ["word", "at"] (.cons (.cst (.str "words")) (.cons (.var 6) .nil)))
    .skip)
  (.seq (.ite (.cmp .Lt (.var 6) (.ix (.var 0) (.cst (.int 1))))
    (.raise "NoPaper" ["word", "at"] (.cons (.cst (.str "high")) (.cons (.var 6) .nil)))
    .skip)
  (.seq (.ite (.and (.cmp .Gt (.var 6) (.ix (.var 0) (.cst (.int 1)))) (.cmp .Eq (.ix (.var 1) (.neg (.cst (.int 1)))) (.ix (.var 1) (.neg (.cst (.int 2))))))
    (.raise "NoPaper" ["word", "at"] (.cons (.cst (.str "void")) (.cons (.var 6) .nil)))
    .skip)
  (.ret (.var 6)))))))))⟩
/-- lets_bent: 0 section, 1 thing, 2 width, 3 many, 4 i, 5 end, 6 more -/
def f_lets_bent : Fn := ⟨"lets_bent", 3, 7, [(.int 30)],
  (.seq (.set (.name 3) (.call "lets_lay" (.cons (.var 0) (.cons (.var 1) (.cons (.var 2) .nil)))))
  (.seq (.for_ (.tup [4, 5]) (.enum (.var 1))
    (.seq (.set (.name 6) (.sl (.ix (.var 0) (.cst (.int 3))) true true (.call "first_of" (.cons (.var 1) (.cons (.var 4) .nil))) (.bin .Add (.var 5) (.cst (.int 1)))))
    (.ite (.and (.cmp .Lt (.var 5) (.bif .len (.cons (.ix (.var 0) (.cst (.int 3))) .nil))) (.cmp .LtE (.call "long_of" (.cons (.var 6) .nil)) (.call "room" (.cons (.var 0) (.cons (.var 4) (.cons (.var 2) .nil))))))
      (.raise "NoPaper" ["word", "at"] (.cons (.cst (.str "ahead")) (.cons (.var 4) .nil)))
      .skip)))
  (.ret (.var 3))))⟩
theorem zip_at {α : Type} {l : List α} {i j : Nat} {a : α} (h : l.zipIdx[i]? = some (a, j)) : j = i ∧ l[i]? = some a := by
  rw [List.getElem?_zipIdx] at h
  cases e : l[i]? with
  | none => rw [e] at h; cases h
  | some z => rw [e] at h; simp at h; exact ⟨h.2.symm, by rw [h.1]⟩
theorem fst_at {l : List Nat} {i a : Nat} (h : l[i]? = some a) : fst l (i + 1) = a := by
  rw [fst_succ]
  unfold List.getD
  rw [h]
  rfl
theorem atI_neg2 {α : Type} {xs : List α} (h : 2 ≤ xs.length) : atI xs (-2) = xs[xs.length - 2]? := by
  unfold L2.atI L2.ixN
  rw [if_neg (by omega), if_pos (by omega)]
  show xs[(-2 + (xs.length : Int)).toNat]? = _
  congr 1
  omega
/-- a lay that fits -/
structure Fits (s : Sec) (W : Nat) (l : List Nat) : Prop where
  rise : ∀ i, i < l.length → fst l i ≤ fst l (i + 1) ∧ fst l (i + 1) ≤ s.words.length
  room : ∀ i, i < l.length → (wsum s.words (fst l i) (fst l (i + 1)) : Int) ≤ roomN s W i + 1
  all : fst l l.length = s.words.length
  many : s.high ≤ l.length ∧ l.length ≤ 90
  void : s.high < l.length → fst l (l.length - 1) < fst l l.length
section
variable {fs : List Fn} {wf n : Nat} {m : Store} {s : Sec} {W i : Nat} {l : List Nat}
theorem number_ok {i : Int} : wp (bodyN fs wf (n + 1) f_is_number [.int i] m) (k := ⟨fun d m' => d = .bl true ∧ m' = m⟩) := by
  rw [wp_body]
  simp [f_is_number, startE]
theorem long_ok {ws : List Str} {a b : Nat} (hw : ∀ w ∈ ws, GoodV w) (hl : ws.length ≤ 40) : wp (bodyN fs wf (n + 1) f_long_of [encW ((ws.drop a).take (b - a))] m) (k := ⟨fun d m' => d = .int ((wsum ws a b - 1 : Nat) : Int) ∧ m' = m⟩) := by
  have hg : ∀ w ∈ (ws.drop a).take (b - a), w.cps.size ≤ 8 := fun w h => (hw w (List.mem_of_mem_drop (List.mem_of_mem_take h))).1.2
  have hlen : ((ws.drop a).take (b - a)).length ≤ 40 := by simp; omega
  have es : wsum ws a b = (((ws.drop a).take (b - a)).map fun w => w.length + 1).sum := rfl
  generalize (ws.drop a).take (b - a) = l at *
  rw [wp_body]
  simp [f_long_of, startE]
  refine wcomp_map l D.str (fun w => encN (w.length + 1)) rfl (by simp) (fun w hw => ?_) ?_
  · unfold cturn
    have := hg w hw
    have e : w.length = w.cps.size := rfl
    simp [encN]
    rw [e]
    unfold sizeLine
    omega
  · have e : (l.map fun w => encN (w.length + 1)) = (l.map fun w => w.length + 1).map encN := by rw [List.map_map]; rfl
    rw [e]
    simp [-List.map_map]
    refine ⟨by unfold sizeLine; omega, ?_⟩
    rw [sum_nat, ← es]
    split <;> omega
theorem ask_ok [HasD fs "room" f_room 3 [.int 30]] [Has fs "begins" f_begins 2] [Has fs "long_of" f_long_of 1] {a b : Nat} (o : SecOk s) (h1 : a ≤ b) (h2 : b ≤ s.words.length) (h3 : (wsum s.words a b : Int) ≤ roomN s W i + 1) : wp (bodyN fs wf (n + 3) f_ask_line [encS s, .int a, .int b, .int i, .int W] m) (k := ⟨fun d m' => d = .non ∧ m' = m⟩) := by
  have hl := o.len
  rw [wp_body]
  simp [f_ask_line, startE]
  refine ⟨by omega, fun _ => ⟨by omega, fun _ => ?_⟩⟩
  rw [cut_nat h1]
  refine (long_ok (n := n + 1) (a := a) (b := b) o.words hl.2).mono fun d m1 ⟨z1, z2⟩ => ?_
  subst z1 z2
  simp
  refine (room_ok (n := n)).mono fun d m2 ⟨z1, z2⟩ => ?_
  subst z1 z2
  simp
  unfold roomN at h3
  omega
theorem letslay_ok [HasD fs "room" f_room 3 [.int 30]] [Has fs "begins" f_begins 2] [Has fs "long_of" f_long_of 1] [Has fs "is_number" f_is_number 1] [Has fs "ask_line" f_ask_line 5] (o : SecOk s) (F : Fits s W l) : wp (bodyN fs wf (n + 4) f_lets_lay [encS s, encL l, .int W] m) (k := ⟨fun d m' => d = .int (l.length : Nat) ∧ Keep none m m'⟩) := by
  have hl := o.len
  have hm := F.many
  rw [wp_body]
  simp [f_lets_lay, startE]
  refine wcomp_map l encN (fun _ => D.bl true) rfl (by simp) (fun a _ => ?_) ?_
  · unfold cturn
    simp [encN]
    refine (number_ok (n := n + 2)).mono fun d m1 ⟨z1, z2⟩ => ?_
    subst z1 z2
    simp
  · have e : (l.map fun _ => D.bl true) = (l.map fun _ => true).map D.bl := by rw [List.map_map]; rfl
    simp
    rw [e]
    refine ⟨by unfold sizeLine; omega, _, optAll_bls, ?_⟩
    simp
    refine wfor_typed l.zipIdx (fun p => D.tup [.int (p.2 : Int), encN p.1]) rfl (fun i r m1 => ∃ x4 x5, r = [some (encS s), some (encL l), some (.int W), some (.int (fst l i : Nat)), x4, x5, none, none, none] ∧ m1 = m) ⟨_, _, rfl, rfl⟩ (fun i x r m1 hx ⟨x4, x5, hr, hm1⟩ => ?_) (fun r m1 ⟨x4, x5, hr, hm1⟩ => ?_)
    · subst hr hm1
      obtain ⟨a, j⟩ := x
      obtain ⟨hji, ha⟩ := zip_at hx
      subst hji
      have hi := lt_get ha
      have ea : fst l (j + 1) = a := fst_at ha
      obtain ⟨r1, r2⟩ := F.rise j hi
      have r3 := F.room j hi
      rw [ea] at r1 r2 r3
      unfold fturn
      simp [encN]
      refine (ask_ok (n := n) o r1 r2 r3).mono fun d m2 ⟨z1, z2⟩ => ?_
      subst z1 z2
      simp [ea, encN]
    · subst hr hm1
      have hz : fst l l.zipIdx.length = s.words.length := by rw [List.length_zipIdx, F.all]
      rw [hz]
      simp
      refine ⟨by omega, fun _ => ⟨fun hv => ?_, fun _ => Keep.refl _ _⟩⟩
      obtain ⟨L, hL⟩ : ∃ L, l.length = L + 2 := ⟨l.length - 2, by have := o.high; omega⟩
      have g1 : l[L + 1]? = some (l.getD (L + 1) 0) := get_getD (by omega)
      have g2 : l[L]? = some (l.getD L 0) := get_getD (by omega)
      have hv := F.void hv
      rw [hL, show L + 2 - 1 = L + 1 by omega, show L + 2 = (L + 1) + 1 by omega, fst_succ, fst_succ] at hv
      refine ⟨_, by rw [List.getLast?_eq_getElem?, hL]; exact g1, _, by rw [atI_neg2 (by omega), hL]; exact g2, ?_⟩
      generalize l.getD (L + 1) 0 = u at *
      generalize l.getD L 0 = v at *
      simp [encN]
      exact ⟨by omega, fun _ => Keep.refl _ _⟩
theorem bentL_get {i : Nat} (h : i < many s W) : (bentL s W)[i]? = some (lay s W (i + 1)) := by
  unfold bentL
  rw [List.getElem?_map, List.getElem?_range h]
  rfl
theorem bentL_len2 : (bentL s W).length = many s W := by simp [bentL]
theorem bent_fst {i : Nat} (h : i ≤ many s W) : fst (bentL s W) i = lay s W i := by
  cases i with
  | zero => rfl
  | succ i => exact fst_at (bentL_get (by omega))
theorem bent_fits (o : SecOk s) (hW : ∀ w ∈ s.words, w.length ≤ W) : Fits s W (bentL s W) := by
  obtain ⟨I, h50⟩ := many_is o hW
  have e := bentL_len2 (s := s) (W := W)
  refine ⟨fun i hi => ?_, fun i hi => ?_, ?_, ?_, fun hv => ?_⟩
  · rw [e] at hi
    rw [bent_fst (by omega), bent_fst (by omega)]
    exact (lay_step i).le
  · rw [e] at hi
    rw [bent_fst (by omega), bent_fst (by omega)]
    have S := lay_step (s := s) (W := W) i
    have hr : 0 ≤ roomN s W i := by unfold roomN; omega
    rcases Nat.eq_or_lt_of_le S.le.1 with q | q
    · rw [← q, wsum_self]
      omega
    · have := S.fits (lay s W (i + 1) - 1) (by omega) (by omega)
      rw [show lay s W (i + 1) - 1 + 1 = lay s W (i + 1) by omega] at this
      exact this
  · rw [e, bent_fst (Nat.le_refl _)]
    have := I.out
    have := lay_le (s := s) (W := W) (many s W)
    omega
  · rw [e]
    exact ⟨I.out.1, by omega⟩
  · rw [e] at hv ⊢
    rw [bent_fst (by omega), bent_fst (Nat.le_refl _)]
    have hb := I.before (many s W - 1) (by omega)
    have hg := lay_grow (s := s) (W := W) (i := many s W - 1) hW (by omega) (by omega)
    rw [show many s W - 1 + 1 = many s W by omega] at hg
    exact hg
theorem letsbent_ok [HasD fs "room" f_room 3 [.int 30]] [Has fs "begins" f_begins 2] [Has fs "long_of" f_long_of 1] [Has fs "is_number" f_is_number 1] [Has fs "ask_line" f_ask_line 5] [HasD fs "lets_lay" f_lets_lay 3 [.int 30]] [Has fs "first_of" f_first_of 2] (o : SecOk s) (hW : ∀ w ∈ s.words, w.length ≤ W) : wp (bodyN fs wf (n + 5) f_lets_bent [encS s, encL (bentL s W), .int W] m) (k := ⟨fun d m' => d = .int ((bentL s W).length : Nat) ∧ Keep none m m'⟩) := by
  have hl := o.len
  have F := bent_fits o hW
  have e := bentL_len2 (s := s) (W := W)
  rw [wp_body]
  simp [f_lets_bent, startE]
  refine (letslay_ok (n := n) o F).mono fun d m1 ⟨z1, k1⟩ => ?_
  subst z1
  simp
  refine wfor_typed (bentL s W).zipIdx (fun p => D.tup [.int (p.2 : Int), encN p.1]) rfl (fun i r m2 => ∃ x4 x5 x6, r = [some (encS s), some (encL (bentL s W)), some (.int W), some (.int ((bentL s W).length : Nat)), x4, x5, x6] ∧ m2 = m1) ⟨_, _, _, rfl, rfl⟩ (fun i x r m2 hx ⟨x4, x5, x6, hr, hm1⟩ => ?_) (fun r m2 ⟨x4, x5, x6, hr, hm1⟩ => ?_)
  · subst hr hm1
    obtain ⟨a, j⟩ := x
    obtain ⟨hji, ha⟩ := zip_at hx
    subst hji
    have hi := lt_get ha
    have hj : j < many s W := by omega
    have S := lay_step (s := s) (W := W) j
    have hr : 0 ≤ roomN s W j := by unfold roomN; omega
    rw [bentL_get hj] at ha
    cases ha
    unfold fturn
    simp
    refine (first_ok (n := n + 3) (i := j) (by omega)).mono fun d m3 ⟨z1, z2⟩ => ?_
    subst z1 z2
    rw [bent_fst (by omega)]
    simp [encN]
    intro hlt
    have ec : ((lay s W (j + 1) : Nat) : Int) + 1 = ((lay s W (j + 1) + 1 : Nat) : Int) := by omega
    have hle := S.le
    rw [ec, cut_nat (show lay s W j ≤ lay s W (j + 1) + 1 by omega)]
    refine (long_ok (n := n + 3) (a := lay s W j) (b := lay s W (j + 1) + 1) o.words hl.2).mono fun d m4 ⟨z1, z2⟩ => ?_
    subst z1 z2
    simp
    refine (room_ok (n := n + 2)).mono fun d m5 ⟨z1, z2⟩ => ?_
    subst z1 z2
    have out := S.out hlt
    simp
    unfold roomN at out
    omega
  · subst hr hm1
    simp [k1]
end
/-! ### more room, fewer words -/
theorem wsum_pre {ws vs : List Str} {a b : Nat} (h : vs = ws.take vs.length) (hb : b ≤ vs.length) : wsum vs a b = wsum ws a b := by
  unfold wsum
  rw [h, List.drop_take, List.take_take, Nat.min_eq_left (by omega)]
theorem wsum_anti {ws : List Str} {a c b : Nat} (h : a ≤ c) : wsum ws c b ≤ wsum ws a b := by
  unfold wsum
  have e : (ws.drop c).take (b - c) = ((ws.drop a).take (b - a)).drop (c - a) := by
    rw [List.drop_take, List.drop_drop, show a + (c - a) = c by omega, show b - a - (c - a) = b - c by omega]
  rw [e, List.map_drop]
  generalize ((ws.drop a).take (b - a)).map (fun w => w.length + 1) = l
  generalize c - a = k
  induction l generalizing k with
  | nil => simp
  | cons x l ih =>
    cases k with
    | zero => simp
    | succ k =>
      have := ih k
      simp
      omega
/-- t by V has room at least as s by W -/
structure Ahead (s : Sec) (W : Nat) (t : Sec) (V : Nat) : Prop where
  pre : t.words = s.words.take t.words.length
  room : ∀ i, roomN s W i ≤ roomN t V i
  high : t.high ≤ s.high
theorem lay_ahead {s t : Sec} {W V : Nat} (h : Ahead s W t V) : ∀ i, min (lay s W i) t.words.length ≤ lay t V i
  | 0 => by simp [lay]
  | i + 1 => by
    have ih := lay_ahead h i
    have S := lay_step (s := s) (W := W) i
    have T := lay_step (s := t) (W := V) i
    have hr := h.room i
    have h1 := S.le
    have h2 := T.le
    rcases Nat.lt_or_ge (lay t V (i + 1)) (min (lay s W (i + 1)) t.words.length) with q | q
    · exfalso
      have out := T.out (by omega)
      have fits := S.fits (lay t V (i + 1)) (by omega) (by omega)
      have e1 := wsum_pre (a := lay t V i) (b := lay t V (i + 1) + 1) h.pre (by omega)
      have e2 := wsum_anti (ws := s.words) (a := lay s W i) (c := lay t V i) (b := lay t V (i + 1) + 1) (by omega)
      omega
    · exact q
theorem many_ahead {s t : Sec} {W V : Nat} (o : SecOk s) (o2 : SecOk t) (hW : ∀ w ∈ s.words, w.length ≤ W) (hV : ∀ w ∈ t.words, w.length ≤ V) (h : Ahead s W t V) : many t V ≤ many s W := by
  obtain ⟨I, _⟩ := many_is o hW
  obtain ⟨J, _⟩ := many_is o2 hV
  rcases Nat.lt_or_ge (many s W) (many t V) with q | q
  · exfalso
    have h1 := J.before _ q
    have h2 := I.out
    have h3 := lay_ahead h (many s W)
    have h4 := h.high
    have h5 : t.words.length ≤ s.words.length := by
      rw [h.pre]
      simp
      omega
    omega
  · exact q
theorem Fits.wider {s : Sec} {W V : Nat} {l : List Nat} (F : Fits s W l) (h : W ≤ V) : Fits s V l := ⟨F.rise, fun i hi => by
  have := F.room i hi
  have : roomN s W i ≤ roomN s V i := by unfold roomN; omega
  omega, F.all, F.many, F.void⟩
end Cs

set_option maxHeartbeats 0
set_option exponentiation.threshold 3000
/-! Cx1: what a refusal is under; bent refused. -/
namespace Cs
open PySem L2 Pf
/-- _law_flags: 0 e, 1 found -/
def f_l_flags : Fn := ⟨"_law_flags", 1, 2, [],
  (.seq (.set (.name 1) (.lst (.cons (.and (.ise 0 ["NoPaper", "NoLay", "NoReading", "NoWorld", "NoPage", "NoText", "NoRow", "NoName", "NoPlace", "NoStep"] ["NoPaper", "NoLay", "NoReading", "NoWorld", "NoPage", "NoText", "NoRow"]) (.ise 0 ["NoPaper", "NoLay", "NoReading", "NoWorld", "NoPage", "NoText", "NoRow", "NoName", "NoPlace", "NoStep"] ["NoPaper", "NoLay", "NoReading", "NoWorld", "NoPage", "NoText", "NoRow"])) (.cons (.ise 0 ["NoPaper", "NoLay", "NoReading", "NoWorld", "NoPage", "NoText", "NoRow", "NoName", "NoPlace", "NoStep"] ["NoName", "NoPlace", "NoStep"]) .nil))))
  (.seq (.set (.name 1) (.bin .Add (.var 1) (.lst (.cons (.ise 0 ["NoPaper", "NoLay", "NoReading", "NoWorld", "NoPage", "NoText", "NoRow", "NoName", "NoPlace", "NoStep"] ["NoPaper"]) (.cons (.ise 0 ["NoPaper", "NoLay", "NoReading", "NoWorld", "NoPage", "NoText", "NoRow", "NoName", "NoPlace", "NoStep"] ["NoLay"]) (.cons (.ise 0 ["NoPaper", "NoLay", "NoReading", "NoWorld", "NoPage", "NoText", "NoRow", "NoName", "NoPlace", "NoStep"] ["NoReading"]) (.cons (.ise 0 ["NoPaper", "NoLay", "NoReading", "NoWorld", "NoPage", "NoText", "NoRow", "NoName", "NoPlace", "NoStep"] ["NoWorld"]) .nil)))))))
  (.seq (.set (.name 1) (.bin .Add (.var 1) (.lst (.cons (.ise 0 ["NoPaper", "NoLay", "NoReading", "NoWorld", "NoPage", "NoText", "NoRow", "NoName", "NoPlace", "NoStep"] ["NoPage"]) (.cons (.ise 0 ["NoPaper", "NoLay", "NoReading", "NoWorld", "NoPage", "NoText", "NoRow", "NoName", "NoPlace", "NoStep"] ["NoText"]) (.cons (.ise 0 ["NoPaper", "NoLay", "NoReading", "NoWorld", "NoPage", "NoText", "NoRow", "NoName", "NoPlace", "NoStep"] ["NoRow"]) (.cons (.ise 0 ["NoPaper", "NoLay", "NoReading", "NoWorld", "NoPage", "NoText", "NoRow", "NoName", "NoPlace", "NoStep"] ["NoName"]) .nil)))))))
  (.ret (.bin .Add (.var 1) (.lst (.cons (.ise 0 ["NoPaper", "NoLay", "NoReading", "NoWorld", "NoPage", "NoText", "NoRow", "NoName", "NoPlace", "NoStep"] ["NoPlace"]) (.cons (.ise 0 ["NoPaper", "NoLay", "NoReading", "NoWorld", "NoPage", "NoText", "NoRow", "NoName", "NoPlace", "NoStep"] ["NoStep"]) .nil))))))))⟩
def tens : List Str := ["NoPaper", "NoLay", "NoReading", "NoWorld", "NoPage", "NoText", "NoRow", "NoName", "NoPlace", "NoStep"]
def flagsOf (c : Str) : List Bool := [decide (c ∈ (["NoPaper", "NoLay", "NoReading", "NoWorld", "NoPage", "NoText", "NoRow"] : List Str)) , decide (c ∈ (["NoName", "NoPlace", "NoStep"] : List Str)), decide (c = "NoPaper"), decide (c = "NoLay"), decide (c = "NoReading"), decide (c = "NoWorld"), decide (c = "NoPage"), decide (c = "NoText"), decide (c = "NoRow"), decide (c = "NoName"), decide (c = "NoPlace"), decide (c = "NoStep")]
/-! ### lists of truths, compared -/
theorem bls_dat {m : Store} {n : Nat} : ∀ {bs : List Bool}, optAll (dat m n) (bs.map D.bl) = some (D.pys (bs.map D.bl))
  | [] => rfl
  | b :: bs => by
    have h : dat m n (D.bl b) = some (.bool b) := by cases n <;> rfl
    simp only [List.map_cons, optAll, h, bls_dat (bs := bs), D.pys, D.py]
theorem bls_lay : ∀ {bs : List Bool}, PyData.canLayAll0 (D.pys (bs.map D.bl)) = true
  | [] => rfl
  | b :: bs => by
    have := bls_lay (bs := bs)
    simp only [List.map_cons, D.pys, D.py, PyData.canLayAll0, this, Bool.and_true]
    rfl
theorem bls_eqv : ∀ {bs cs : List Bool}, PyData.eqvAll (D.pys (bs.map D.bl)) (D.pys (cs.map D.bl)) = decide (bs = cs)
  | [], [] => rfl
  | [], _ :: _ => rfl
  | _ :: _, [] => rfl
  | b :: bs, c :: cs => by
    have ih := bls_eqv (bs := bs) (cs := cs)
    have h : PyData.eqv (.bool b) (.bool c) = decide (b = c) := by cases b <;> cases c <;> rfl
    simp only [List.map_cons, D.pys, D.py, PyData.eqvAll, ih, h, List.cons.injEq, Bool.decide_and]
theorem eq_ref_bls {Ek : ErrK} {h : Nat} {m : Store} {bs cs : List Bool} {Q : R → Store → Prop} (e : m[h]? = some (.lst (bs.map D.bl))) : wp (cmpR .Eq (.d (.ref h)) (.tl (cs.map D.bl)) m) (k := ⟨Q⟩) ↔ Q (.d (.bl (decide (bs = cs)))) m := by
  have e1 : datR (.d (.ref h)) m = .ok (PyData.list (D.pys (bs.map D.bl))) m := by
    have e : dat m deepest (.ref h) = some (PyData.list (D.pys (bs.map D.bl))) := by
      show (match m[h]? with
        | some c => if c.isL then (optAll (dat m 59) c.items).map PyData.list else none
        | none => none) = _
      rw [e]
      show (if true = true then (optAll (dat m 59) (bs.map D.bl)).map PyData.list else none) = _
      rw [bls_dat]
      rfl
    rw [datR_d e]
  have e2 : datR (.tl (cs.map D.bl)) m = .ok (PyData.list (D.pys (cs.map D.bl))) m := by
    show (match optAll (dat m deepest) (cs.map D.bl) with
      | some ps => Res.ok (PyData.list ps) m
      | none => .stuck) = _
    rw [bls_dat]
  show wp ((eqR (.d (.ref h)) (.tl (cs.map D.bl)) >>= fun b => pure (R.d (.bl b))) m) (k := ⟨Q⟩) ↔ _
  rw [wpM_bind]
  show wp ((datR (.d (.ref h)) >>= fun p => datR (.tl (cs.map D.bl)) >>= fun q => chk (p.canLay0 = true ∧ q.canLay0 = true) >>= fun _ => (pure (PyData.eqv p q) : M Bool)) m) (k := ⟨fun b m1 => wp ((pure (R.d (.bl b)) : M R) m1) (k := ⟨Q⟩)⟩) ↔ _
  rw [wpM_bind, e1, wpM_ok, wpM_bind, e2, wpM_ok]
  simp [PyData.canLay0, bls_lay, PyData.eqv, bls_eqv]
section
variable {fs : List Fn} {wf n : Nat} {m : Store} {s : Sec} {W : Nat}
theorem flags_ok {c : Str} {h : Nat} {fl : List (Str × D)} (hc : c ∈ tens) (hm : m[h]? = some (.exc fl)) : wp (bodyN fs wf (n + 1) f_l_flags [.tup [.str c, .ref h]] m) (k := ⟨fun d m' => ∃ a, d = .ref a ∧ m'[a]? = some (.lst ((flagsOf c).map D.bl)) ∧ Keep none m m'⟩) := by
  have hlt : h < m.length := lt_get hm
  have E1 : tens.Nodup := by decide
  have E2 : tens.reverse.Nodup := by decide
  simp only [tens, List.reverse_cons, List.reverse_nil, List.nil_append, List.cons_append, List.nodup_cons, List.mem_cons, List.mem_nil_iff, or_false, not_or] at hc E1 E2
  have hm' : m[h] = .exc fl := by
    rw [List.getElem?_eq_getElem hlt] at hm
    exact Option.some.inj hm
  have k4 : ∀ a b c d : List Cell, Keep none m (m ++ (a ++ b ++ c ++ d)) := fun a b c d => Keep.new none m _
  rcases hc with rfl | rfl | rfl | rfl | rfl | rfl | rfl | rfl | rfl | rfl <;> (
    rw [wp_body]
    simp [f_l_flags, startE, hm', hlt, E1, E2, List.getElem?_append_left hlt, flagsOf]
    refine ⟨by decide, by decide, by decide, by decide, by decide, by decide, by decide, ?_⟩
    exact Keep.new none m _)
theorem nolay_ok [Has fs "end_of" f_end_of 3] [HasD fs "room" f_room 3 [.int 30]] [Has fs "begins" f_begins 2] {k : Nat} {w : Str} (o : SecOk s) (hk : s.words[k]? = some w) (hw : W < w.length) (hb : ∀ j v, j < k → s.words[j]? = some v → v.length ≤ W) : wp (E := ⟨fun e m' => e = ⟨"NoLay", [("word", .int (k : Int))]⟩ ∧ m' = m⟩) (bodyN fs wf (n + 3) f_bent [encS s, .int (W : Int)] m) (k := ⟨fun _ _ => False⟩) := by
  have hl := o.len
  rw [wp_body]
  simp [f_bent, startE]
  refine wfor_typed s.words.zipIdx (fun p => D.tup [.int (p.2 : Int), .str p.1]) rfl (fun i r m1 => ∃ x3 x4, r = [some (encS s), some (.int (W : Int)), some (encW s.words), x3, x4, none, none] ∧ m1 = m ∧ i ≤ k) ⟨_, _, rfl, rfl, Nat.zero_le _⟩ (fun i x r m1 hx ⟨x3, x4, hr, hm, hi⟩ => ?_) (fun r m1 ⟨x3, x4, hr, hm, hi⟩ => ?_)
  · subst hr hm
    obtain ⟨v, j⟩ := x
    have hwm : v ∈ s.words := by
      have := List.mem_of_getElem? hx
      exact (List.mem_zipIdx this).2.2 ▸ List.getElem_mem _
    have hji : j = i ∧ s.words[i]? = some v := by
      rw [List.getElem?_zipIdx] at hx
      cases e : s.words[i]? with
      | none => rw [e] at hx; cases hx
      | some z => rw [e] at hx; simp at hx; exact ⟨hx.2.symm, by rw [hx.1]⟩
    obtain ⟨rfl, hv⟩ := hji
    have h1 := (o.words v hwm).1
    unfold fturn
    simp
    refine ⟨by have : v.length = v.cps.size := rfl; unfold sizeLine; omega, fun z => ?_, fun z => ?_⟩
    · rcases Nat.lt_or_ge j k with q | q
      · have := hb j v q hv
        omega
      · rw [show j = k by omega]
    · rcases Nat.lt_or_ge j k with q | q
      · omega
      · have : j = k := by omega
        subst this
        rw [hk] at hv
        cases hv
        omega
  · exfalso
    have := lt_get hk
    simp at hi
    omega
end
end Cs

set_option maxHeartbeats 0
set_option exponentiation.threshold 3000
/-! Cs6: lays judged: things of any kind. -/
namespace Cs
open PySem L2 Pf
/-- _law_odd: 0 tap_here, 1 some -/
def f_l_odd : Fn := ⟨"_law_odd", 1, 2, [],
  (.seq (.set (.name 1) (.lst (.cons (.cst .non) (.cons (.cst (.bl true)) (.cons (.cst (.bl false)) (.cons (.cst (.int 0)) (.cons (.cst (.int 1)) (.cons (.neg (.cst (.int 1))) (.cons (.bin .Pow (.cst (.int 10)) (.cst (.int 50))) (.cons (.cst (.str "")) (.cons (.cst (.str "a")) (.cons (.cst (.str "A")) (.cons (.cst (.str "abcdefghi")) (.cons (.tup .nil) (.cons (.lst .nil) (.cons (.tup (.cons (.cst (.str "a")) .nil)) (.cons (.lst (.cons (.cst (.str "a")) .nil)) (.cons (.cst (.str "ab")) .nil))))))))))))))))))
  (.ret (.ix (.var 1) (.call "_law_take" (.cons (.var 0) (.cons (.cst (.int 16)) .nil))))))⟩
/-- _law_is_number: 0 thing -/
def f_l_is_number : Fn := ⟨"_law_is_number", 1, 1, [],
  (.ret (.and (.isi [.int] (.var 0)) (.not (.isi [.bool] (.var 0)))))⟩
/-- _law_no: 0 e -/
def f_l_no : Fn := ⟨"_law_no", 1, 1, [],
  (.seq (.ite (.cmp .NotEq (.hcall "_law_flags" 0 .nil) (.bin .Add (.lst (.cons (.cst (.bl true)) (.cons (.cst (.bl false)) (.cons (.cst (.bl true)) .nil)))) (.bin .Mult (.lst (.cons (.cst (.bl false)) .nil)) (.cst (.int 9)))))
    (.ret (.tup (.cons (.cst (.str "other")) .nil)))
    .skip)
  (.ret (.tup (.cons (.cst (.str "no")) (.cons (.xf 0 "word") (.cons (.xf 0 "at") .nil))))))⟩
/-- _law_fault: 0 section_here, 1 thing, 2 width_here, 3 words, 4 many, 5 first, 6 i, 7 space, 8 .0, 9 one -/
def f_l_fault : Fn := ⟨"_law_fault", 3, 10, [],
  (.seq (.ite (.or (.not (.isi [.tuple] (.var 1))) (.cmp .NotEq (.comp [8, 9] (.name 9) (.seq (.var 1)) (.not (.call "_law_is_number" (.cons (.var 9) .nil))) (.var 9)) (.lst .nil)))
    (.ret (.tup (.cons (.cst (.str "shape")) (.cons (.neg (.cst (.int 1))) .nil))))
    .skip)
  (.seq (.par3 3 4 5 (.ix (.var 0) (.cst (.int 3))) (.bif .len (.cons (.var 1) .nil)) (.cst (.int 0)))
  (.seq (.for_ (.name 6) (.range1 (.var 4))
    (.seq (.ite (.cmp .Lt (.ix (.var 1) (.var 6)) (.var 5))
      (.ret (.tup (.cons (.cst (.str "falls")) (.cons (.var 6) .nil))))
      .skip)
    (.seq (.ite (.cmp .Gt (.ix (.var 1) (.var 6)) (.bif .len (.cons (.var 3) .nil)))
      (.ret (.tup (.cons (.cst (.str "words")) (.cons (.var 6) .nil))))
      .skip)
    (.seq (.set (.name 7) (.ite (.cmp .Lt (.var 6) (.ix (.var 0) (.cst (.int 1)))) (.bin .Sub (.var 2) (.ix (.var 0) (.cst (.int 2)))) (.var 2)))
    (.seq (.ite (.and (.cmp .Gt (.ix (.var 1) (.var 6)) (.var 5)) (.cmp .Gt (.bif .len (.cons (.meth .join (.cst (.str " ")) (.cons (.sl (.var 3) true true (.var 5) (.ix (.var 1) (.var 6))) .nil)) .nil)) (.var 7)))
      (.ret (.tup (.cons (.cst (.str "room")) (.cons (.var 6) .nil))))
      .skip)
    (.set (.name 5) (.ix (.var 1) (.var 6))))))))
  (.seq (.ite (.cmp .NotEq (.var 5) (.bif .len (.cons (.var 3) .nil)))
    (.ret (.tup (.cons (.cst (.str "words")) (.cons (.var 4) .nil))))
    .skip)
  (.seq (.ite (.cmp .Lt (.var 4) (.ix (.var 0) (.cst (.int 1))))
    (.ret (.tup (.cons (.cst (.str "high")) (.cons (.var 4) .nil))))
    .skip)
  (.seq (.ite (.and (.cmp .Gt (.var 4) (.ix (.var 0) (.cst (.int 1)))) (.cmp .Eq (.ix (.var 1) (.bin .Sub (.var 4) (.cst (.int 2)))) (.ix (.var 1) (.bin .Sub (.var 4) (.cst (.int 1))))))
    (.ret (.tup (.cons (.cst (.str "void")) (.cons (.var 4) .nil))))
    .skip)
  (.ret (.cst .non))))))))⟩
/-- _law_spoilt: 0 tap_here, 1 lay_here, 2 at, 3 by, 4 found, 5 .0, 6 step, 7 k -/
def f_l_spoilt : Fn := ⟨"_law_spoilt", 2, 8, [],
  (.seq (.set (.tup [2, 3]) (.tup (.cons (.call "_law_take" (.cons (.var 0) (.cons (.bif .len (.cons (.var 1) .nil)) .nil))) (.cons (.call "_law_take" (.cons (.var 0) (.cons (.bif .len (.cons (.var 1) .nil)) .nil))) .nil))))
  (.seq (.set (.name 4) (.comp [5, 6] (.name 6) (.seq (.tup (.cons (.cst (.int 1)) (.cons (.neg (.cst (.int 1))) (.cons (.cst (.int 9)) .nil))))) (.cst (.bl true)) (.bin .Add (.bin .Add (.sl (.var 1) false true .never (.var 2)) (.tup (.cons (.bin .Add (.ix (.var 1) (.var 2)) (.var 6)) .nil))) (.sl (.var 1) true false (.bin .Add (.var 2) (.cst (.int 1))) .never))))
  (.seq (.set (.name 4) (.bin .Add (.var 4) (.lst (.cons (.bin .Add (.sl (.var 1) false true .never (.var 2)) (.sl (.var 1) true false (.bin .Add (.var 2) (.cst (.int 1))) .never)) (.cons (.bin .Add (.bin .Add (.sl (.var 1) false true .never (.var 2)) (.sl (.var 1) true true (.var 2) (.bin .Add (.var 2) (.cst (.int 1))))) (.sl (.var 1) true false (.var 2) .never)) (.cons (.bin .Add (.var 1) (.sl (.var 1) true false (.neg (.cst (.int 1))) .never)) .nil))))))
  (.seq (.set (.name 4) (.bin .Add (.var 4) (.lst (.cons (.rev (.var 1)) (.cons (.bif .list (.cons (.var 1) .nil)) .nil)))))
  (.seq (.set (.name 4) (.bin .Add (.var 4) (.lst (.cons (.bin .Add (.bin .Add (.sl (.var 1) false true .never (.var 2)) (.tup (.cons (.cst (.bl true)) .nil))) (.sl (.var 1) true false (.bin .Add (.var 2) (.cst (.int 1))) .never)) (.cons (.bin .Add (.bin .Add (.sl (.var 1) false true .never (.var 2)) (.tup (.cons (.cst .non) .nil))) (.sl (.var 1) true false (.bin .Add (.var 2) (.cst (.int 1))) .never)) (.cons (.sl (.var 1) true false (.neg (.cst (.int 1))) .never) (.cons (.tup .nil) (.cons (.sl (.var 1) false true .never (.neg (.cst (.int 1)))) .nil))))))))
  (.seq (.expr (.meth .append (.var 4) (.cons (.bin .Add (.bin .Add (.sl (.var 1) false true .never (.var 2)) (.tup (.cons (.ix (.var 1) (.var 3)) .nil))) (.sl (.var 1) true false (.bin .Add (.var 2) (.cst (.int 1))) .never)) .nil)))
  (.ret (.comp [5, 7] (.name 7) (.range1 (.cst (.int 6))) (.cst (.bl true)) (.ix (.var 4) (.call "_law_take" (.cons (.var 0) (.cons (.bif .len (.cons (.var 4) .nil)) .nil))))))))))))⟩
/-! ### things -/
/-- neither list nor tuple -/
inductive Sc : D → Prop
  | non : Sc .non
  | bl (b : Bool) : Sc (.bl b)
  | int {i : Int} (h : i.natAbs < 10 ^ 60) : Sc (.int i)
  | str {x : Str} (h : GoodS 9 x) : Sc (.str x)
/-- a thing: its lists stand from lo on -/
inductive Ob (m : Store) (lo : Nat) : D → Prop
  | sc {x : D} (h : Sc x) : Ob m lo x
  | tup {xs : List D} (h : ∀ x ∈ xs, Sc x) (l : xs.length ≤ 200) : Ob m lo (.tup xs)
  | ref {h : Nat} {xs : List D} (hl : lo ≤ h) (e : m[h]? = some (.lst xs)) (hx : ∀ x ∈ xs, Sc x) (l : xs.length ≤ 200) : Ob m lo (.ref h)
theorem Sc.flat {x : D} (h : Sc x) : Flat 9 0 x := by
  cases h with
  | non => exact .non
  | bl b => exact .bl b
  | int h => exact .int h
  | str h => exact h.flat
theorem Sc.dat {x : D} (h : Sc x) (m : Store) (n : Nat) : Pf.dat m n x = some x.py ∧ x.py.canLay0 = true := by
  cases h with
  | non => exact ⟨by cases n <;> rfl, rfl⟩
  | bl b => exact ⟨by cases n <;> rfl, rfl⟩
  | int h => exact ⟨by cases n <;> rfl, rfl⟩
  | str h => exact ⟨by cases n <;> rfl, h.simple.lay.1⟩
theorem Ob.sz {m : Store} {lo : Nat} {x : D} (h : Ob m lo x) : Sz m 2000 1 x := by
  cases h with
  | sc h => exact .flat (h.flat.mono (by omega) (by omega))
  | tup h l => exact .tup (n := 200) (b := 9) (fun x hx => .flat (h x hx).flat) l (by omega)
  | ref hl e hx l => exact .ref (n := 200) (b := 9) e rfl (fun x h => .flat (hx x h).flat) l (by omega)
theorem Ob.to {m m' : Store} {lo : Nat} {x : D} (h : Ob m lo x) (k : ∀ j c, lo ≤ j → m[j]? = some c → m'[j]? = some c) : Ob m' lo x := by
  cases h with
  | sc h => exact .sc h
  | tup h l => exact .tup h l
  | ref hl e hx l => exact .ref hl (k _ _ hl e) hx l
theorem Ob.keep {m m' : Store} {lo h : Nat} {x : D} (o : Ob m lo x) (k : Keep (some h) m m') (hh : h < lo) : Ob m' lo x := o.to fun j c hj e => k.cell e fun z => by
  cases z
  omega
theorem Ob.keep0 {m m' : Store} {lo : Nat} {x : D} (o : Ob m lo x) (k : Keep none m m') : Ob m' lo x := o.to fun j c hj e => k.cell e (by simp)
theorem Ob.set {m : Store} {lo p : Nat} {c : Cell} {x : D} (o : Ob m lo x) (hp : p < lo) : Ob (m.set p c) lo x := o.to fun j c hj e => by
  rw [List.getElem?_set_ne (by omega)]
  exact e
theorem ne_tl_nil {Ek : ErrK} {xs : List D} {m : Store} {Q : R → Store → Prop} (h : ∀ x ∈ xs, Sc x) : wp (cmpR .NotEq (.tl xs) (.tl []) m) (k := ⟨Q⟩) ↔ Q (.d (.bl (!decide (xs = [])))) m := by
  have key : ∀ l : List D, (∀ x ∈ l, Sc x) → optAll (dat m deepest) l = some (D.pys l) ∧ PyData.canLayAll0 (D.pys l) = true := by
    intro l
    induction l with
    | nil => intro _; exact ⟨rfl, rfl⟩
    | cons x l ih =>
      intro hx
      obtain ⟨a1, a2⟩ := ih fun y hy => hx y (List.mem_cons_of_mem _ hy)
      obtain ⟨b1, b2⟩ := (hx x List.mem_cons_self).dat m deepest
      exact ⟨by simp only [optAll, a1, b1, D.pys], by simp only [D.pys, PyData.canLayAll0, a2, b2, Bool.and_self]⟩
  obtain ⟨a1, a2⟩ := key xs h
  have e1 : datR (.tl xs) m = .ok (PyData.list (D.pys xs)) m := by
    show (match optAll (dat m deepest) xs with
      | some ps => Res.ok (PyData.list ps) m
      | none => .stuck) = _
    rw [a1]
  have e2 : datR (.tl []) m = .ok (PyData.list []) m := rfl
  show wp ((eqR (.tl xs) (.tl []) >>= fun b => pure (R.d (.bl (!b)))) m) (k := ⟨Q⟩) ↔ _
  rw [wpM_bind]
  show wp ((datR (.tl xs) >>= fun p => datR (.tl []) >>= fun q => chk (p.canLay0 = true ∧ q.canLay0 = true) >>= fun _ => (pure (PyData.eqv p q) : M Bool)) m) (k := ⟨fun b m1 => wp ((pure (R.d (.bl (!b))) : M R) m1) (k := ⟨Q⟩)⟩) ↔ _
  rw [wpM_bind, e1, wpM_ok, wpM_bind, e2, wpM_ok]
  have e3 : PyData.eqv (PyData.list (D.pys xs)) (PyData.list []) = decide (xs = []) := by
    cases xs with
    | nil => rfl
    | cons x xs =>
      show PyData.eqvAll (D.py x :: D.pys xs) [] = _
      simp [PyData.eqvAll]
  have e4 : (PyData.list (D.pys xs)).canLay0 = true := by
    show PyData.canLayAll0 (D.pys xs) = true
    exact a2
  have e5 : (PyData.list []).canLay0 = true := rfl
  simp [e3, e4, e5]
theorem ne_ref_bls {Ek : ErrK} {h : Nat} {m : Store} {bs cs : List Bool} {Q : R → Store → Prop} (e : m[h]? = some (.lst (bs.map D.bl))) : wp (cmpR .NotEq (.d (.ref h)) (.tl (cs.map D.bl)) m) (k := ⟨Q⟩) ↔ Q (.d (.bl (!decide (bs = cs)))) m := by
  have q := eq_ref_bls (Ek := Ek) (cs := cs) (Q := fun r m' => match r with
    | .d (.bl b) => Q (.d (.bl (!b))) m'
    | _ => False) e
  have e1 : wp (cmpR .NotEq (.d (.ref h)) (.tl (cs.map D.bl)) m) (k := ⟨Q⟩) ↔ wp (eqR (.d (.ref h)) (.tl (cs.map D.bl)) m) (k := ⟨fun b m' => Q (.d (.bl (!b))) m'⟩) := by
    show wp ((eqR (.d (.ref h)) (.tl (cs.map D.bl)) >>= fun b => pure (R.d (.bl (!b)))) m) (k := ⟨Q⟩) ↔ _
    rw [wpM_bind]
    exact wp_iff fun _ _ => wpM_pure
  have e2 : wp (cmpR .Eq (.d (.ref h)) (.tl (cs.map D.bl)) m) (k := ⟨fun r m' => match r with
    | .d (.bl b) => Q (.d (.bl (!b))) m'
    | _ => False⟩) ↔ wp (eqR (.d (.ref h)) (.tl (cs.map D.bl)) m) (k := ⟨fun b m' => Q (.d (.bl (!b))) m'⟩) := by
    show wp ((eqR (.d (.ref h)) (.tl (cs.map D.bl)) >>= fun b => pure (R.d (.bl b))) m) (k := ⟨_⟩) ↔ _
    rw [wpM_bind]
    exact wp_iff fun _ _ => wpM_pure
  rw [e1, ← e2, q]
theorem wcomp_mapE {Ek : ErrK} {cf : CF} {r : Pf.Env} {m : Store} {Qs : List D → Store → Prop} {c e : E} {xs : List D} {α : Type} {own : List Nat} {t : T} {ck : List (Nat × List D)} (l : List α) (enc : α → D) (f : α → D) (hx : xs = l.map enc)
    (hck : wp (chkAll ck m) (k := ⟨fun _ m1 => m1 = m⟩))
    (step : ∀ a ∈ l, cturn cf own t c e r (enc a) m fun y m2 => m2 = m ∧ y = some (f a))
    (hend : Qs (l.map f) m) : wp (wcomp cf own t c e r ck xs m) (k := ⟨Qs⟩) :=
  wcomp_pure l enc (fun _ => true) f hx hck (fun a ha => by simpa using step a ha) (by rw [List.filter_eq_self.mpr fun _ _ => rfl]; exact hend)
/-! ### what is amiss -/
/-- the numbers of a tuple of numbers -/
def zsOf : D → Option (List Int)
  | .tup xs => optAll intOf xs
  | _ => none
def stepZ (s : Sec) (W i : Nat) (f z : Int) : Option (Str × Int) := if z < f then some ("falls", (i : Int)) else if (s.words.length : Int) < z then some ("words", (i : Int)) else if roomN s W i + 1 < (wsum s.words f.toNat z.toNat : Int) then some ("room", (i : Int)) else none
def scan (s : Sec) (W : Nat) : Nat → Int → List Int → Option (Str × Int)
  | _, _, [] => none
  | i, f, z :: r => match stepZ s W i f z with
    | some p => some p
    | none => scan s W (i + 1) z r
theorem scan_cons {s : Sec} {W i : Nat} {f z : Int} {r : List Int} : scan s W i f (z :: r) = (match stepZ s W i f z with
    | some p => some p
    | none => scan s W (i + 1) z r) := rfl
def lastZ (f : Int) : List Int → Int
  | [] => f
  | z :: r => lastZ z r
def faultZ (s : Sec) (W : Nat) (zs : List Int) : Option (Str × Int) := match scan s W 0 0 zs with
  | some p => some p
  | none => if lastZ 0 zs < s.words.length then some ("words", (zs.length : Int)) else if zs.length < s.high then some ("high", (zs.length : Int)) else if s.high < zs.length ∧ zs[zs.length - 1]? = zs[zs.length - 2]? then some ("void", (zs.length : Int)) else none
def faultT (s : Sec) (W : Nat) (x : D) : Option (Str × Int) := match zsOf x with
  | none => some ("shape", -1)
  | some zs => faultZ s W zs
def papE (p : Str × Int) : Exc := ⟨"NoPaper", [("word", .str p.1), ("at", .int p.2)]⟩
structure PapOf (o : Option (Str × Int)) (e : Exc) : Prop where
  ex : ∃ p, o = some p ∧ e = papE p
theorem stepZ_none {s : Sec} {W i : Nat} {f z : Int} (h : stepZ s W i f z = none) : f ≤ z ∧ z ≤ s.words.length := by
  unfold stepZ at h
  split at h
  · cases h
  · split at h
    · cases h
    · omega
theorem scan_last {s : Sec} {W : Nat} : ∀ (zs : List Int) (i : Nat) (f : Int), f ≤ s.words.length → scan s W i f zs = none → f ≤ lastZ f zs ∧ lastZ f zs ≤ s.words.length
  | [], _, _, hf, _ => ⟨Int.le_refl _, hf⟩
  | z :: r, i, f, hf, h => by
    unfold scan at h
    cases e : stepZ s W i f z with
    | some p => rw [e] at h; cases h
    | none =>
      rw [e] at h
      obtain ⟨h1, h2⟩ := stepZ_none e
      obtain ⟨h3, h4⟩ := scan_last r (i + 1) z h2 h
      exact ⟨Int.le_trans h1 h3, h4⟩
theorem drop_cons {α : Type} {l : List α} {i : Nat} {a : α} (h : l[i]? = some a) : l.drop i = a :: l.drop (i + 1) := by
  obtain ⟨hi, e⟩ := List.getElem?_eq_some_iff.mp h
  rw [List.drop_eq_getElem_cons hi, e]
def isI (x : D) : Bool := (intOf x).isSome
theorem ints_all {xs : List D} : (xs.map isI).all id = (optAll intOf xs).isSome := by
  induction xs with
  | nil => rfl
  | cons x xs ih =>
    simp only [List.map_cons, List.all_cons, ih, id, optAll, isI]
    cases intOf x with
    | none => rfl
    | some i => cases optAll intOf xs <;> rfl
theorem ints_no {xs : List D} : false ∈ xs.map isI ↔ optAll intOf xs = none := by
  have h := ints_all (xs := xs)
  constructor
  · intro hf
    cases e : optAll intOf xs with
    | none => rfl
    | some z =>
      rw [e] at h
      have := List.all_eq_true.mp h false hf
      cases this
  · intro hn
    rw [hn] at h
    refine Classical.byContradiction fun c => ?_
    have : (xs.map isI).all id = true := List.all_eq_true.mpr fun b hb => by
      cases b
      · exact absurd hb c
      · rfl
    rw [this] at h
    cases h
theorem ints_is {xs : List D} {zs : List Int} (h : optAll intOf xs = some zs) : xs = zs.map D.int := by
  induction xs generalizing zs with
  | nil => cases h; rfl
  | cons x xs ih =>
    simp only [optAll] at h
    cases e : intOf x with
    | none => rw [e] at h; cases h
    | some i =>
      rw [e] at h
      cases e2 : optAll intOf xs with
      | none => rw [e2] at h; cases h
      | some r =>
        rw [e2] at h
        cases h
        rw [ih e2]
        cases x <;> first | (cases e; rfl) | cases e
section
variable {fs : List Fn} {wf n : Nat} {m : Store} {s : Sec} {W i lo : Nat}
theorem isnum_any {x : D} (h : Sc x) : wp (bodyN fs wf (n + 1) f_is_number [x] m) (k := ⟨fun d m' => d = .bl (isI x) ∧ m' = m⟩) := by
  rw [wp_body]
  cases h <;> simp [f_is_number, startE, isI, intOf]
theorem lisnum_any {x : D} (h : Sc x) : wp (bodyN fs wf (n + 1) f_l_is_number [x] m) (k := ⟨fun d m' => d = .bl (isI x) ∧ m' = m⟩) := by
  rw [wp_body]
  cases h <;> simp [f_l_is_number, startE, isI, intOf]
theorem ask_any [HasD fs "room" f_room 3 [.int 30]] [Has fs "begins" f_begins 2] [Has fs "long_of" f_long_of 1] {f z : Int} (o : SecOk s) (h0 : 0 ≤ f) : wp (E := ⟨fun e m' => m' = m ∧ PapOf (stepZ s W i f z) e⟩) (bodyN fs wf (n + 3) f_ask_line [encS s, .int f, .int z, .int (i : Nat), .int (W : Nat)] m) (k := ⟨fun d m' => stepZ s W i f z = none ∧ m' = m⟩) := by
  have hl := o.len
  rw [wp_body]
  simp [f_ask_line, startE]
  refine ⟨fun c => ⟨by decide, ⟨("falls", (i : Int)), by unfold stepZ; rw [if_pos c], rfl⟩⟩, fun c => ⟨fun c2 => ⟨by decide, ⟨("words", (i : Int)), by unfold stepZ; rw [if_neg (by omega), if_pos c2], rfl⟩⟩, fun c2 => ?_⟩⟩
  obtain ⟨a, rfl⟩ := Int.eq_ofNat_of_zero_le h0
  obtain ⟨b, rfl⟩ := Int.eq_ofNat_of_zero_le (show 0 ≤ z by omega)
  rw [cut_nat (by omega)]
  refine (long_ok (n := n + 1) (a := a) (b := b) o.words hl.2).mono fun d m1 ⟨z1, z2⟩ => ?_
  subst z1 z2
  simp
  refine (room_ok (n := n)).mono fun d m2 ⟨z1, z2⟩ => ?_
  subst z1 z2
  simp
  have er : roomN s W i = max 0 ((W : Int) - ((if i < s.high then s.wide else 0 : Nat) : Int)) := rfl
  have e1 : stepZ s W i a b = if roomN s W i + 1 < (wsum s.words a b : Int) then some (("room" : Str), (i : Int)) else none := by
    unfold stepZ
    rw [if_neg (by omega), if_neg (by omega)]
    rfl
  rw [e1, er]
  exact ⟨fun h1 => ⟨by decide, ⟨(("room" : Str), (i : Int)), by rw [if_pos (by omega)], rfl⟩⟩, fun h1 => by rw [if_neg (by omega)]⟩
theorem letslay_any [HasD fs "room" f_room 3 [.int 30]] [Has fs "begins" f_begins 2] [Has fs "long_of" f_long_of 1] [Has fs "is_number" f_is_number 1] [Has fs "ask_line" f_ask_line 5] {x : D} (o : SecOk s) (hx : Ob m lo x) : wp (E := ⟨fun e m' => m' = m ∧ PapOf (faultT s W x) e⟩) (bodyN fs wf (n + 4) f_lets_lay [encS s, x, .int (W : Nat)] m) (k := ⟨fun d m' => faultT s W x = none ∧ m' = m ∧ ∃ zs : List Int, x = .tup (zs.map .int) ∧ d = .int zs.length⟩) := by
  have hl := o.len
  have shape : zsOf x = none → PapOf (faultT s W x) ⟨"NoPaper", [("word", .str "shape"), ("at", .int (-1))]⟩ := fun h => ⟨(("shape" : Str), (-1 : Int)), by unfold faultT; rw [h], rfl⟩
  rw [wp_body]
  simp [f_lets_lay, startE]
  cases hx with
  | sc h =>
    cases h <;> simp <;> exact ⟨by decide, shape rfl⟩
  | ref hl e hx l =>
    simp [e]
    exact ⟨by decide, shape rfl⟩
  | @tup xs h l =>
    simp
    refine wcomp_mapE xs (fun x => x) (fun x => D.bl (isI x)) (show xs = xs.map (fun x => x) by simp) (by simp) (fun a ha => ?_) ?_
    · unfold cturn
      simp
      refine (isnum_any (n := n + 2) (h a ha)).mono fun d m1 ⟨z1, z2⟩ => ?_
      subst z1 z2
      simp
    have e : (xs.map fun x => D.bl (isI x)) = (xs.map isI).map D.bl := by rw [List.map_map]; rfl
    simp
    rw [e]
    refine ⟨by unfold sizeLine; omega, _, optAll_bls, ?_⟩
    rw [ints_no]
    cases hz : optAll intOf xs with
    | none =>
      simp
      exact ⟨by decide, shape hz⟩
    | some zs =>
      have ex := ints_is hz
      subst ex
      have ef : faultT s W (.tup (zs.map D.int)) = faultZ s W zs := by
        unfold faultT
        rw [show zsOf (.tup (zs.map D.int)) = some zs from optAll_ints]
      rw [ef]
      simp
      refine wfor_typed zs.zipIdx (fun p => D.tup [.int (p.2 : Int), .int p.1]) (by rw [enumD_map]) (fun i r m1 => ∃ x4 x5 f, r = [some (encS s), some (.tup (zs.map D.int)), some (.int W), some (.int f), x4, x5, none, none, none] ∧ m1 = m ∧ 0 ≤ f ∧ f ≤ s.words.length ∧ lastZ 0 zs = lastZ f (zs.drop i) ∧ scan s W 0 0 zs = scan s W i f (zs.drop i)) ⟨_, _, 0, rfl, rfl, Int.le_refl _, by omega, rfl, rfl⟩ (fun i x r m1 hx ⟨x4, x5, f, hr, hm1, f0, f1, f2, f3⟩ => ?_) (fun r m1 ⟨x4, x5, f, hr, hm1, f0, f1, f2, f3⟩ => ?_)
      · subst hr hm1
        obtain ⟨z, j⟩ := x
        obtain ⟨hji, ha⟩ := zip_at hx
        subst hji
        have hd := drop_cons ha
        rw [hd] at f2 f3
        rw [scan_cons] at f3
        unfold fturn
        simp
        refine (ask_any (n := n) (i := j) (W := W) o f0).monoE (fun d m2 ⟨z1, z2⟩ => ?_) fun e m2 ⟨z1, ⟨p, z2, z3⟩⟩ => ?_
        · subst z2
          simp
          rw [z1] at f3
          obtain ⟨g1, g2⟩ := stepZ_none z1
          exact ⟨_, _, z, ⟨rfl, rfl, rfl⟩, by omega, g2, f2, f3⟩
        · subst z1
          simp
          refine ⟨p, ?_, z3⟩
          unfold faultZ
          rw [f3, z2]
      · subst hr hm1
        simp at f2 f3
        have es : scan s W 0 0 zs = none := f3
        have ez : lastZ 0 zs = f := f2
        have e1 : faultZ s W zs = if f < s.words.length then some (("words" : Str), (zs.length : Int)) else if zs.length < s.high then some (("high" : Str), (zs.length : Int)) else if s.high < zs.length ∧ zs[zs.length - 1]? = zs[zs.length - 2]? then some (("void" : Str), (zs.length : Int)) else none := by
          unfold faultZ
          rw [es, ez]
        have hh := o.high.1
        simp
        refine ⟨fun c => ⟨by decide, ⟨(("words" : Str), (zs.length : Int)), by rw [e1, if_pos c], rfl⟩⟩, fun c => ⟨fun c2 => ⟨by decide, ⟨(("high" : Str), (zs.length : Int)), by rw [e1, if_neg (by omega), if_pos c2], rfl⟩⟩, fun c2 => ⟨fun c3 => ?_, fun c3 => ⟨?_, zs, rfl, rfl⟩⟩⟩⟩
        · have g1 : zs[zs.length - 1]? = some zs[zs.length - 1] := List.getElem?_eq_getElem (by omega)
          have g2 : zs[zs.length - 2]? = some zs[zs.length - 2] := List.getElem?_eq_getElem (by omega)
          rw [g1, g2] at e1
          generalize zs[zs.length - 1] = a at *
          generalize zs[zs.length - 2] = b at *
          refine ⟨_, ⟨a, by rw [List.getLast?_eq_getElem?, g1], rfl⟩, .int b, ?_, ?_⟩
          · rw [atI_neg2 (by simp; omega)]
            simp [g2]
          simp
          rw [e1]
          refine ⟨fun q => ⟨by decide, ⟨(("void" : Str), (zs.length : Int)), by rw [if_neg (by omega), if_neg (by omega), if_pos ⟨c3, by rw [q]⟩], rfl⟩⟩, fun q => ⟨by rw [if_neg (by omega), if_neg (by omega), if_neg (fun z => q (Option.some.inj z.2))], zs, rfl, rfl⟩⟩
        · rw [e1, if_neg (by omega), if_neg (by omega), if_neg (by omega)]
/-- what the law's own look tells -/
def faultD : Option (Str × Int) → D
  | none => .non
  | some p => .tup [.str p.1, .int p.2]
theorem lfault_any [Has fs "_law_is_number" f_l_is_number 1] {x : D} (o : SecOk s) (hx : Ob m lo x) : wp (bodyN fs wf (n + 2) f_l_fault [encS s, x, .int (W : Nat)] m) (k := ⟨fun d m' => d = faultD (faultT s W x) ∧ m' = m⟩) := by
  have hl := o.len
  have shape : zsOf x = none → D.tup [.str "shape", .int (-1)] = faultD (faultT s W x) := fun h => by unfold faultT; rw [h]; rfl
  rw [wp_body]
  simp [f_l_fault, startE]
  cases hx with
  | sc h =>
    cases h <;> simp <;> exact ⟨by decide, shape rfl⟩
  | ref hl e hx l =>
    simp [e]
    exact ⟨by decide, shape rfl⟩
  | @tup xs h l =>
    simp
    refine wcomp_pure xs (fun x => x) (fun x => !isI x) (fun x => x) (show xs = xs.map (fun x => x) by simp) (by simp) (fun a ha => ?_) ?_
    · unfold cturn
      simp
      refine (lisnum_any (n := n) (h a ha)).mono fun d m1 ⟨z1, z2⟩ => ?_
      subst z1 z2
      cases isI a <;> simp
    have hlen := List.length_filter_le (fun x => !isI x) xs
    simp
    refine ⟨by unfold sizeLine; omega, ?_⟩
    rw [ne_tl_nil fun x hx => h x (by
      have := (List.mem_filter (p := fun x => !isI x)).mp (by simpa using hx)
      exact this.1)]
    simp
    refine ⟨fun y hy hf => ⟨by decide, shape (ints_no.mp (List.mem_map.mpr ⟨y, hy, hf⟩))⟩, fun hall => ⟨by unfold small62; omega, ?_⟩⟩
    obtain ⟨zs, hz⟩ : ∃ zs, optAll intOf xs = some zs := by
      cases e : optAll intOf xs with
      | some zs => exact ⟨zs, rfl⟩
      | none =>
        obtain ⟨y, hy, q⟩ := List.mem_map.mp (ints_no.mpr e)
        rw [hall y hy] at q
        cases q
    have ex := ints_is hz
    subst ex
    have ef : faultT s W (.tup (zs.map D.int)) = faultZ s W zs := by
      unfold faultT
      rw [show zsOf (.tup (zs.map D.int)) = some zs from optAll_ints]
    rw [ef]
    simp
    clear shape hlen hall hz ef h
    simp at l
    refine wfor_inv (fun i r m1 => ∃ x6 x7 f, r = [some (encS s), some (.tup (zs.map D.int)), some (.int W), some (encW s.words), some (.int zs.length), some (.int f), x6, x7, none, none] ∧ m1 = m ∧ 0 ≤ f ∧ f ≤ s.words.length ∧ lastZ 0 zs = lastZ f (zs.drop i) ∧ scan s W 0 0 zs = scan s W i f (zs.drop i)) ⟨_, _, 0, rfl, rfl, Int.le_refl _, by omega, rfl, rfl⟩ (fun i x r m1 hx ⟨x6, x7, f, hr, hm1, f0, f1, f2, f3⟩ => ?_) (fun r m1 ⟨x6, x7, f, hr, hm1, f0, f1, f2, f3⟩ => ?_)
    · subst hr hm1
      obtain ⟨hi, rfl⟩ := upto_get hx
      have hz : zs[i]? = some zs[i] := List.getElem?_eq_getElem hi
      generalize zs[i] = z at hz
      have hd := drop_cons hz
      rw [hd] at f2 f3
      rw [scan_cons] at f3
      have bad : ∀ p, stepZ s W i f z = some p → faultD (some p) = faultD (faultZ s W zs) := fun p hp => by
        unfold faultZ
        rw [f3, hp]
      have good : stepZ s W i f z = none → scan s W 0 0 zs = scan s W (i + 1) z (zs.drop (i + 1)) := fun hp => by
        rw [f3, hp]
      unfold fturn
      simp [hz]
      have hst : f ≤ z → z ≤ s.words.length → stepZ s W i f z = if roomN s W i + 1 < (wsum s.words f.toNat z.toNat : Int) then some (("room" : Str), (i : Int)) else none := fun h1 h2 => by
        unfold stepZ
        rw [if_neg (by omega), if_neg (by omega)]
      have hj : f < z → z ≤ s.words.length → ((cut s.words (some f) (some z)).map fun x => x.length).sum + (cut s.words (some f) (some z)).length * (Str.ofString " ").length ≤ 16777216 ∧ (Txt.join (Str.ofString " ") (cut s.words (some f) (some z))).length ≤ sizeLine ∧
          ((Txt.join (Str.ofString " ") (cut s.words (some f) (some z))).length : Int) = (wsum s.words f.toNat z.toNat : Int) - 1 ∧ 2 ≤ (wsum s.words f.toNat z.toNat : Int) := fun h1 h2 => by
        obtain ⟨a, rfl⟩ := Int.eq_ofNat_of_zero_le f0
        obtain ⟨b, rfl⟩ := Int.eq_ofNat_of_zero_le (show 0 ≤ z by omega)
        rw [cut_nat (by omega)]
        have e1 : (Str.ofString " ").length = 1 := by decide
        have b1 := wlen_le (ws := s.words) (a := a) (b := b)
        have b2 := wsum_le (ws := s.words) (a := a) (b := b) o.words
        have bj : (Txt.join (Str.ofString " ") ((s.words.drop a).take (b - a))).length = wsum s.words a b - 1 := join_len _
        have hb : s.words[b - 1]? = some s.words[b - 1] := List.getElem?_eq_getElem (by omega)
        have hs := wsum_succ (a := a) (show a ≤ b - 1 by omega) hb
        rw [show b - 1 + 1 = b by omega] at hs
        have hw : 1 ≤ (s.words[b - 1]).length := (o.words _ (List.getElem_mem (by omega))).1.1
        rw [bj, e1, show ((a : Nat) : Int).toNat = a from rfl, show ((b : Nat) : Int).toNat = b from rfl]
        have : sizeLine = 16777216 := by unfold sizeLine; rfl
        omega
      have fin : stepZ s W i f z = none → (0 ≤ z ∧ z ≤ s.words.length) ∧ lastZ 0 zs = lastZ z (zs.drop (i + 1)) ∧ scan s W 0 0 zs = scan s W (i + 1) z (zs.drop (i + 1)) := fun hp => ⟨⟨by have := stepZ_none hp; omega, (stepZ_none hp).2⟩, f2, good hp⟩
      refine ⟨fun c => ⟨by decide, bad (("falls" : Str), (i : Int)) (by unfold stepZ; rw [if_pos c])⟩, fun c => ⟨fun c2 => ⟨by decide, bad (("words" : Str), (i : Int)) (by unfold stepZ; rw [if_neg (by omega), if_pos c2])⟩, fun c2 => ?_⟩⟩
      have hs := hst c c2
      refine ⟨fun q => ⟨fun c3 => ?_, fun c3 => ?_⟩, fun q => ⟨fun c3 => ?_, fun c3 => ?_⟩⟩
      all_goals have er : roomN s W i = max 0 ((W : Int) - ((if i < s.high then s.wide else 0 : Nat) : Int)) := rfl
      · obtain ⟨j1, j2, j3, j4⟩ := hj c3 c2
        rw [if_pos q] at er
        refine ⟨j1, j2, fun c4 => ⟨by decide, bad (("room" : Str), (i : Int)) (by rw [hs, if_pos (by omega)])⟩, fun c4 => ?_⟩
        obtain ⟨p1, p2⟩ := fin (by rw [hs, if_neg (by omega)])
        exact ⟨_, _, z, ⟨rfl, rfl, rfl⟩, p1.1, p1.2, p2⟩
      · have : z = f := by omega
        subst this
        rw [wsum_self] at hs
        obtain ⟨p1, p2⟩ := fin (by rw [hs, if_neg (by omega)])
        exact ⟨_, _, z, ⟨rfl, rfl, rfl⟩, p1.1, p1.2, p2⟩
      · obtain ⟨j1, j2, j3, j4⟩ := hj c3 c2
        rw [if_neg (by omega)] at er
        refine ⟨j1, j2, fun c4 => ⟨by decide, bad (("room" : Str), (i : Int)) (by rw [hs, if_pos (by omega)])⟩, fun c4 => ?_⟩
        obtain ⟨p1, p2⟩ := fin (by rw [hs, if_neg (by omega)])
        exact ⟨_, _, z, ⟨rfl, rfl, rfl⟩, p1.1, p1.2, p2⟩
      · have : z = f := by omega
        subst this
        rw [wsum_self] at hs
        obtain ⟨p1, p2⟩ := fin (by rw [hs, if_neg (by omega)])
        exact ⟨_, _, z, ⟨rfl, rfl, rfl⟩, p1.1, p1.2, p2⟩
    · subst hr hm1
      simp at f2 f3
      have es : scan s W 0 0 zs = none := f3
      have ez : lastZ 0 zs = f := f2
      have e1 : faultZ s W zs = if f < s.words.length then some (("words" : Str), (zs.length : Int)) else if zs.length < s.high then some (("high" : Str), (zs.length : Int)) else if s.high < zs.length ∧ zs[zs.length - 1]? = zs[zs.length - 2]? then some (("void" : Str), (zs.length : Int)) else none := by
        unfold faultZ
        rw [es, ez]
      have hh := o.high.1
      simp
      refine ⟨fun c => ⟨by decide, by rw [e1, if_pos (by omega)]; rfl⟩, fun c => ⟨fun c2 => ⟨by decide, by rw [e1, if_neg (by omega), if_pos c2]; rfl⟩, fun c2 => ⟨fun c3 => ?_, fun c3 => by rw [e1, if_neg (by omega), if_neg (by omega), if_neg (by omega)]; rfl⟩⟩⟩
      have g1 : zs[zs.length - 1]? = some zs[zs.length - 1] := List.getElem?_eq_getElem (by omega)
      have g2 : zs[zs.length - 2]? = some zs[zs.length - 2] := List.getElem?_eq_getElem (by omega)
      rw [g1, g2] at e1
      generalize zs[zs.length - 1] = a at *
      generalize zs[zs.length - 2] = b at *
      refine ⟨.int b, ?_, .int a, ?_, ?_⟩
      · rw [show (zs.length : Int) - 2 = ((zs.length - 2 : Nat) : Int) by omega, Pf.atI_nat]
        simp [g2]
      · rw [show (zs.length : Int) - 1 = ((zs.length - 1 : Nat) : Int) by omega, Pf.atI_nat]
        simp [g1]
      simp
      rw [e1]
      refine ⟨fun q => ⟨by decide, by rw [if_neg (by omega), if_neg (by omega), if_pos ⟨c3, by rw [q]⟩]; rfl⟩, fun q => by rw [if_neg (by omega), if_neg (by omega), if_neg (fun z => q (Option.some.inj z.2).symm)]; rfl⟩
end
end Cs

set_option maxHeartbeats 0
set_option exponentiation.threshold 3000
/-! Cs7: refusals by a paper, odd things, lays spoilt. -/
namespace Cs
open PySem L2 Pf
theorem sc_nat {x : Nat} (h : x ≤ 1000) : Sc (encN x) := .int (by omega)
theorem ob_nats {m : Store} {lo : Nat} {l : List Nat} (h : ∀ x ∈ l, x ≤ 40) (hl : l.length ≤ 200) : Ob m lo (tupOf encN l) := .tup (fun x hx => by
  obtain ⟨a, ha, rfl⟩ := List.mem_map.mp hx
  exact sc_nat (by have := h a ha; omega)) (by simpa using hl)
theorem ob_one {m : Store} {lo a : Nat} {l : List Nat} {y : D} (h : ∀ x ∈ l, x ≤ 40) (hl : l.length ≤ 100) (hy : Sc y) : Ob m lo (.tup (List.take a (List.map encN l) ++ y :: List.drop (a + 1) (List.map encN l))) := .tup (fun x hx => by
  have hn : ∀ z ∈ List.map encN l, Sc z := fun z hz => by
    obtain ⟨a, ha, rfl⟩ := List.mem_map.mp hz
    exact sc_nat (by have := h a ha; omega)
  rcases List.mem_append.mp hx with z | z
  · exact hn x (List.mem_of_mem_take z)
  · rcases List.mem_cons.mp z with z | z
    · rw [z]
      exact hy
    · exact hn x (List.mem_of_mem_drop z)) (by simp; omega)
theorem cut_in {α : Type} {l : List α} {lo hi : Option Int} : (∀ x ∈ cut l lo hi, x ∈ l) ∧ (cut l lo hi).length ≤ l.length := by
  unfold cut
  exact ⟨fun x hx => List.mem_of_mem_drop (List.mem_of_mem_take hx), by simp; omega⟩
section
variable {fs : List Fn} {wf n h k lo : Nat} {m : Store}
theorem lno_ok [Has fs "_law_flags" f_l_flags 1] {p : Str × Int} (hm : m[h]? = some (.exc [("word", .str p.1), ("at", .int p.2)])) : wp (bodyN fs wf (n + 2) f_l_no [.tup [.str "NoPaper", .ref h]] m) (k := ⟨fun d m' => d = .tup [.str "no", .str p.1, .int p.2] ∧ Keep none m m'⟩) := by
  rw [wp_body]
  simp [f_l_no, startE]
  refine (flags_ok (n := n) (c := "NoPaper") (by decide) hm).mono fun d m1 ⟨a, z1, g1, k1⟩ => ?_
  subst z1
  have hm1 := k1.cell hm (by simp)
  simp
  refine ⟨by decide, by decide, by decide, ?_⟩
  rw [show [D.bl true, D.bl false, D.bl true, D.bl false, D.bl false, D.bl false, D.bl false, D.bl false, D.bl false, D.bl false, D.bl false, D.bl false] = List.map D.bl [true, false, true, false, false, false, false, false, false, false, false, false] from rfl, ne_ref_bls g1]
  have e1 : flagsOf "NoPaper" = [true, false, true, false, false, false, false, false, false, false, false, false] := by decide
  simp [e1, hm1]
  exact ⟨by decide, .int p.2, by with_unfolding_all rfl, by decide, rfl, k1⟩
theorem odd_ok [Has fs "_law_take" f_l_take 2] (f : Tap h k m) (hk : k + 10 < 1000000) (hlo : lo ≤ m.length) : wp (bodyN fs wf (n + 2) f_l_odd [.ref h] m) (k := ⟨fun d m' => Ob m' lo d ∧ Tap h (k + 1) m' ∧ Keep (some h) m m'⟩) := by
  have hlt := f.lt
  rw [wp_body]
  simp [f_l_odd, startE]
  refine ⟨by decide, by decide, ?_⟩
  have k0 : Keep (some h) m (m ++ [Cell.lst [], Cell.lst [D.str "a"], Cell.lst
                [D.non, D.bl true, D.bl false, D.int 0, D.int 1, D.int (-1),
                  D.int 100000000000000000000000000000000000000000000000000, D.str "",
                  D.str "a", D.str "A", D.str "abcdefghi", D.tup [],
                  D.ref m.length, D.tup [D.str "a"], D.ref (m.length + 1),
                  D.str "ab"]]) := Keep.new _ _ _
  have f0 : Tap h k (m ++ [Cell.lst [], Cell.lst [D.str "a"], Cell.lst
                [D.non, D.bl true, D.bl false, D.int 0, D.int 1, D.int (-1),
                  D.int 100000000000000000000000000000000000000000000000000, D.str "",
                  D.str "a", D.str "A", D.str "abcdefghi", D.tup [],
                  D.ref m.length, D.tup [D.str "a"], D.ref (m.length + 1),
                  D.str "ab"]]) := f.app
  have g0 : (m ++ [Cell.lst [], Cell.lst [D.str "a"], Cell.lst
                [D.non, D.bl true, D.bl false, D.int 0, D.int 1, D.int (-1),
                  D.int 100000000000000000000000000000000000000000000000000, D.str "",
                  D.str "a", D.str "A", D.str "abcdefghi", D.tup [],
                  D.ref m.length, D.tup [D.str "a"], D.ref (m.length + 1),
                  D.str "ab"]])[m.length]? = some (.lst []) := by simp
  have g1 : (m ++ [Cell.lst [], Cell.lst [D.str "a"], Cell.lst
                [D.non, D.bl true, D.bl false, D.int 0, D.int 1, D.int (-1),
                  D.int 100000000000000000000000000000000000000000000000000, D.str "",
                  D.str "a", D.str "A", D.str "abcdefghi", D.tup [],
                  D.ref m.length, D.tup [D.str "a"], D.ref (m.length + 1),
                  D.str "ab"]])[m.length + 1]? = some (.lst [D.str "a"]) := by simp
  have g2 : (m ++ [Cell.lst [], Cell.lst [D.str "a"], Cell.lst
                [D.non, D.bl true, D.bl false, D.int 0, D.int 1, D.int (-1),
                  D.int 100000000000000000000000000000000000000000000000000, D.str "",
                  D.str "a", D.str "A", D.str "abcdefghi", D.tup [],
                  D.ref m.length, D.tup [D.str "a"], D.ref (m.length + 1),
                  D.str "ab"]])[m.length + 2]? = some (.lst
                [D.non, D.bl true, D.bl false, D.int 0, D.int 1, D.int (-1),
                  D.int 100000000000000000000000000000000000000000000000000, D.str "",
                  D.str "a", D.str "A", D.str "abcdefghi", D.tup [],
                  D.ref m.length, D.tup [D.str "a"], D.ref (m.length + 1),
                  D.str "ab"]) := by simp
  generalize m ++ _ = m0 at *
  refine (take_ok (n := n) f0 (by omega) (by omega) (by omega)).mono fun d m1 ⟨v, z1, hv, f1, k1, _⟩ => ?_
  subst z1
  have kh : ∀ j, m.length ≤ j → some j ≠ some h := fun j hj z => by
    cases z
    omega
  have g0' := k1.cell g0 (kh _ (Nat.le_refl _))
  have g1' := k1.cell g1 (kh _ (by omega))
  have g2' := k1.cell g2 (kh _ (by omega))
  have sa : Sc (D.str "a") := .str (by unfold GoodS; decide)
  simp [g2']
  obtain ⟨d, hd, hP⟩ := get_all (xs := [D.non, D.bl true, D.bl false, D.int 0, D.int 1, D.int (-1),
                  D.int 100000000000000000000000000000000000000000000000000, D.str "",
                  D.str "a", D.str "A", D.str "abcdefghi", D.tup [],
                  D.ref m.length, D.tup [D.str "a"], D.ref (m.length + 1),
                  D.str "ab"]) (P := Ob m1 lo) (v := v) (by simp; omega) (fun x hx => by
    simp only [List.mem_cons, List.mem_nil_iff, or_false] at hx
    rcases hx with rfl | rfl | rfl | rfl | rfl | rfl | rfl | rfl | rfl | rfl | rfl | rfl | rfl | rfl | rfl | rfl
    · exact .sc .non
    · exact .sc (.bl _)
    · exact .sc (.bl _)
    · exact .sc (.int (by decide))
    · exact .sc (.int (by decide))
    · exact .sc (.int (by decide))
    · exact .sc (.int (by decide))
    · exact .sc (.str (by unfold GoodS; decide))
    · exact .sc (.str (by unfold GoodS; decide))
    · exact .sc (.str (by unfold GoodS; decide))
    · exact .sc (.str (by unfold GoodS; decide))
    · exact .tup (fun x z => nomatch z) (by decide)
    · exact .ref hlo g0' (fun x z => nomatch z) (by decide)
    · exact .tup (fun x z => by rw [List.mem_singleton.mp z]; exact sa) (by decide)
    · exact .ref (by omega) g1' (fun x z => by rw [List.mem_singleton.mp z]; exact sa) (by decide)
    · exact .sc (.str (by unfold GoodS; decide)))
  exact ⟨d, hd, hP, f1, k0.trans k1⟩
theorem spoilt_ok [Has fs "_law_take" f_l_take 2] {l : List Nat} (f : Tap h k m) (hk : k + 20 < 1000000) (hh : h < lo) (hlo : lo ≤ m.length) (h1 : 1 ≤ l.length) (h2 : l.length ≤ 100) (h3 : ∀ x ∈ l, x ≤ 40) : wp (bodyN fs wf (n + 2) f_l_spoilt [.ref h, encL l] m) (k := ⟨fun d m' => ∃ a xs, d = .ref a ∧ m'[a]? = some (.lst xs) ∧ m.length ≤ a ∧ xs.length = 6 ∧ (∀ x ∈ xs, Ob m' lo x) ∧ Tap h (k + 8) m' ∧ Keep (some h) m m'⟩) := by
  have hlt := f.lt
  rw [wp_body]
  simp [f_l_spoilt, startE]
  refine (take_ok (n := n) f (by omega) (by omega) (by omega)).mono fun d m1 ⟨a, z1, ha, f1, k1, _⟩ => ?_
  subst z1
  simp
  refine (take_ok (n := n) f1 (by omega) (by omega) (by omega)).mono fun d m2 ⟨b, z1, hb, f2, k2, _⟩ => ?_
  subst z1
  have ha : a < l.length := by omega
  have hb : b < l.length := by omega
  have ga : l[a]? = some l[a] := List.getElem?_eq_getElem ha
  have gb : l[b]? = some l[b] := List.getElem?_eq_getElem hb
  have ma := h3 _ (List.getElem_mem ha)
  have mb := h3 _ (List.getElem_mem hb)
  generalize l[a] = xa at *
  generalize l[b] = xb at *
  have ec : cut l (some ((a : Int) + 1)) none = l.drop (a + 1) := by rw [show (a : Int) + 1 = ((a + 1 : Nat) : Int) by omega, cut_from]
  have ec2 : cut l (some (a : Int)) (some ((a : Int) + 1)) = (l.drop a).take 1 := by rw [show (a : Int) + 1 = ((a + 1 : Nat) : Int) by omega, cut_nat (by omega), show a + 1 - a = 1 by omega]
  simp
  refine ⟨by decide, by decide, wcomp_map ([1, -1, 9] : List Int) D.int (fun z => .tup ((l.take a).map encN ++ (D.int ((xa : Int) + z) :: (l.drop (a + 1)).map encN))) rfl (by simp) (fun z hz => ?_) ?_⟩
  · unfold cturn
    simp [ga, ec, encN]
    exact ⟨by decide, by unfold sizeLine; omega, by unfold sizeLine; omega⟩
  simp [ec, ec2, ga, gb]
  obtain ⟨ci, cl⟩ := cut_in (l := l) (lo := some (-1)) (hi := none)
  obtain ⟨ci2, cl2⟩ := cut_in (l := l) (lo := none) (hi := some (-1))
  have sl : sizeLine = 16777216 := by unfold sizeLine; rfl
  refine ⟨by decide, by omega, by omega, by omega, by omega, by decide, by decide, by decide, by decide, by decide, by omega, by omega, by decide, by omega, by omega, by decide, by decide, by decide, by omega, by omega, by decide, by decide, ?_⟩
  have kM : ∀ L : List Cell, Keep (some h) m2 (m2 ++ L) := fun L => Keep.new _ _ _
  have fM : ∀ L : List Cell, Tap h (k + 1 + 1) (m2 ++ L) := fun L => f2.app
  generalize hM : m2 ++ [_, _, _, _, _] = M
  have km := k2.len
  have km1 := k1.len
  have k2M : Keep (some h) m2 M := by rw [← hM]; exact kM _
  have f2M : Tap h (k + 1 + 1) M := by rw [← hM]; exact fM _
  have gL : M[m2.length + 2]? = some (.lst (l.map encN)) := by
    rw [← hM, List.getElem?_append_right (by omega), show m2.length + 2 - m2.length = 2 by omega]
    rfl
  obtain ⟨F, gF, hF, hF2⟩ : ∃ F, M[m2.length + 4]? = some (.lst F) ∧ (∀ x ∈ F, Ob M lo x) ∧ F.length = 14 := by
    refine ⟨?_, ?a, ?b, ?c⟩
    case a =>
      rw [← hM, List.getElem?_append_right (by omega), show m2.length + 4 - m2.length = 4 by omega]
      rfl
    case c => rfl
    case b =>
      intro x hx
      simp only [List.mem_cons, List.mem_nil_iff, or_false] at hx
      rcases hx with rfl | rfl | rfl | rfl | rfl | rfl | rfl | rfl | rfl | rfl | rfl | rfl | rfl | rfl
      · exact ob_one h3 h2 (.int (by omega))
      · exact ob_one h3 h2 (.int (by omega))
      · exact ob_one h3 h2 (.int (by omega))
      · exact ob_nats (fun x hx => h3 x ((List.mem_append.mp hx).elim List.mem_of_mem_take List.mem_of_mem_drop)) (by simp; omega)
      · exact ob_nats (fun x hx => h3 x ((List.mem_append.mp hx).elim List.mem_of_mem_take fun z => (List.mem_append.mp z).elim (fun z => List.mem_of_mem_drop (List.mem_of_mem_take z)) List.mem_of_mem_drop)) (by simp; omega)
      · exact ob_nats (fun x hx => h3 x ((List.mem_append.mp hx).elim id (ci x))) (by simp; omega)
      · exact ob_nats (fun x hx => h3 x (by simpa using hx)) (by simp; omega)
      · exact .ref (by omega) gL (fun x hx => by
          obtain ⟨a, ha, rfl⟩ := List.mem_map.mp hx
          exact sc_nat (by have := h3 a ha; omega)) (by simp; omega)
      · exact ob_one h3 h2 (.bl _)
      · exact ob_one h3 h2 .non
      · exact ob_nats (fun x hx => h3 x (ci x hx)) (by omega)
      · exact .tup (fun x z => nomatch z) (by decide)
      · exact ob_nats (fun x hx => h3 x (ci2 x hx)) (by omega)
      · exact ob_one h3 h2 (sc_nat (by omega))
  clear hM
  have kh : ∀ j, m.length ≤ j → some j ≠ some h := fun j hj z => by
    cases z
    omega
  refine wcomp_inv (fun j acc m7 => acc.length = j ∧ (∀ x ∈ acc, Ob m7 lo x) ∧ Tap h (k + 2 + j) m7 ∧ Keep (some h) M m7)
    ⟨rfl, (fun _ z => nomatch z), f2M, Keep.refl _ _⟩ (fun j x acc m7 hx ⟨w1, w2, w3, w4⟩ => ?_) (fun acc m7 ⟨w1, w2, w3, w4⟩ => ?_)
  · obtain ⟨hj, rfl⟩ := upto_get hx
    have g7 := w4.cell gF (kh _ (by omega))
    unfold cturn
    simp [g7, hF2]
    refine (take_ok (n := n) w3 (by omega) (by omega) (by omega)).mono fun d m8 ⟨v, z1, hv, f8, k8, _⟩ => ?_
    subst z1
    have g8 := k8.cell g7 (kh _ (by omega))
    obtain ⟨y, hy, hP⟩ := get_all (xs := F) (P := Ob M lo) (v := v) (by omega) hF
    simp [g8, hy]
    refine ⟨w1, fun x hx => ?_, f8.mono (by omega), w4.trans k8⟩
    rcases hx with z | rfl
    · exact (w2 x z).keep k8 hh
    · exact (hP.keep w4 hh).keep k8 hh
  · simp at w1 w3
    simp
    have w5 := w4.len
    have w6 := k2M.len
    refine ⟨by omega, by omega, w1, fun x hx => ?_, w3.app, (((k1.trans k2).trans k2M).trans w4).app _⟩
    exact (w2 x hx).keep0 (Keep.new _ _ _)
end
end Cs

set_option maxHeartbeats 0
set_option exponentiation.threshold 3000
/-! Ca1: lines anew: what a step costs, its rows. -/
namespace Cs
open PySem L2 Pf
/-- sized: 0 section, 1 high, 2 wide -/
def f_sized : Fn := ⟨"sized", 3, 3, [],
  (.ret (.tup (.cons (.ix (.var 0) (.cst (.int 0))) (.cons (.var 1) (.cons (.var 2) (.cons (.ix (.var 0) (.cst (.int 3))) .nil))))))⟩
/-- line_of: 0 section, 1 lay, 2 i -/
def f_line_of : Fn := ⟨"line_of", 3, 3, [],
  (.seq (.ite (.or (.cmp .GtE (.var 2) (.bif .len (.cons (.var 1) .nil))) (.cmp .Eq (.call "first_of" (.cons (.var 1) (.cons (.var 2) .nil))) (.ix (.var 1) (.var 2))))
    (.ret (.cst .non))
    .skip)
  (.ret (.tup (.cons (.call "first_of" (.cons (.var 1) (.cons (.var 2) .nil))) (.cons (.ix (.var 1) (.var 2)) (.cons (.call "begins" (.cons (.var 0) (.cons (.var 2) .nil))) .nil))))))⟩
/-- anew_lines: 0 section, 1 lay, 2 high, 3 wide, 4 newer, 5 other, 6 many, 7 .0, 8 i -/
def f_anew_lines : Fn := ⟨"anew_lines", 5, 9, [],
  (.seq (.set (.name 5) (.call "sized" (.cons (.var 0) (.cons (.var 2) (.cons (.var 3) .nil)))))
  (.seq (.set (.name 6) (.bif .max2 (.cons (.bif .len (.cons (.var 1) .nil)) (.cons (.bif .len (.cons (.var 4) .nil)) .nil))))
  (.ret (.bif .tuple (.cons (.comp [7, 8] (.name 8) (.range1 (.var 6)) (.cmp .NotEq (.call "line_of" (.cons (.var 0) (.cons (.var 1) (.cons (.var 8) .nil)))) (.call "line_of" (.cons (.var 5) (.cons (.var 4) (.cons (.var 8) .nil))))) (.var 8)) .nil)))))⟩
/-- most_lines: 0 other, 1 lay, 2 width, 3 most, 4 many -/
def f_most_lines : Fn := ⟨"most_lines", 4, 5, [],
  (.seq (.set (.name 4) (.bif .len (.cons (.call "bent" (.cons (.var 0) (.cons (.var 2) .nil))) .nil)))
  (.seq (.ite (.cmp .Is (.var 3) (.cst .non))
    (.ret (.bif .max2 (.cons (.var 4) (.cons (.bif .len (.cons (.var 1) .nil)) .nil))))
    .skip)
  (.seq (.ite (.cmp .Gt (.var 4) (.var 3))
    (.raise "NoLay" ["word"] (.cons (.cst (.str "most")) .nil))
    .skip)
  (.ret (.var 3)))))⟩
/-- ends_from: 0 other, 1 i, 2 count, 3 width, 4 most -/
def f_ends_from : Fn := ⟨"ends_from", 5, 5, [],
  (.seq (.ite (.cmp .GtE (.var 1) (.var 4))
    (.ret (.lst (.cons (.var 2) .nil)))
    .skip)
  (.ret (.lrg2 (.var 2) (.bin .Add (.call "end_of" (.cons (.ix (.var 0) (.cst (.int 3))) (.cons (.var 2) (.cons (.call "room" (.cons (.var 0) (.cons (.var 1) (.cons (.var 3) .nil)))) .nil)))) (.cst (.int 1))))))⟩
/-- cost_of: 0 elder, 1 other, 2 i, 3 count, 4 end, 5 line -/
def f_cost_of : Fn := ⟨"cost_of", 5, 6, [],
  (.seq (.set (.name 5) (.ite (.cmp .Eq (.var 3) (.var 4)) (.cst .non) (.tup (.cons (.var 3) (.cons (.var 4) (.cons (.call "begins" (.cons (.var 1) (.cons (.var 2) .nil))) .nil))))))
  (.ret (.ite (.cmp .Eq (.var 5) (.var 0)) (.cst (.int 0)) (.cst (.int 1)))))⟩
/-- step_rows: 0 section, 1 lay, 2 other, 3 i, 4 width, 5 most, 6 elder, 7 found, 8 count, 9 ends, 10 .0, 11 end -/
def f_step_rows : Fn := ⟨"step_rows", 6, 12, [],
  (.seq (.set (.name 6) (.call "line_of" (.cons (.var 0) (.cons (.var 1) (.cons (.var 3) .nil)))))
  (.seq (.set (.name 7) (.lst .nil))
  (.seq (.for_ (.name 8) (.range1 (.bin .Add (.bif .len (.cons (.ix (.var 2) (.cst (.int 3))) .nil)) (.cst (.int 1))))
    (.seq (.set (.name 9) (.call "ends_from" (.cons (.var 2) (.cons (.var 3) (.cons (.var 8) (.cons (.var 4) (.cons (.var 5) .nil)))))))
    (.expr (.meth .append (.var 7) (.cons (.comp [10, 11] (.name 11) (.seq (.var 9)) (.cst (.bl true)) (.tup (.cons (.var 11) (.cons (.call "cost_of" (.cons (.var 6) (.cons (.var 2) (.cons (.var 3) (.cons (.var 8) (.cons (.var 11) .nil)))))) .nil)))) .nil)))))
  (.ret (.var 7)))))⟩
/-- prices_of: 0 steps, 1 words, 2 far, 3 found, 4 line, 5 behind, 6 .0, 7 some, 8 end, 9 cost -/
def f_prices_of : Fn := ⟨"prices_of", 2, 10, [],
  (.seq (.set (.name 2) (.bin .Add (.bif .len (.cons (.var 0) .nil)) (.cst (.int 1))))
  (.seq (.set (.name 3) (.lst (.cons (.bif .tuple (.cons (.bin .Add (.bin .Mult (.lst (.cons (.var 2) .nil)) (.var 1)) (.lst (.cons (.cst (.int 0)) .nil))) .nil)) .nil)))
  (.seq (.for_ (.name 4) (.rvl (.var 0))
    (.seq (.set (.name 5) (.ix (.var 3) (.cst (.int 0))))
    (.expr (.meth .insert (.var 3) (.cons (.cst (.int 0)) (.cons (.bif .tuple (.cons (.comp [6, 7] (.name 7) (.seq (.var 4)) (.cst (.bl true)) (.bif .min2 (.cons (.var 2) (.cons (.bif .min1 (.cons (.comp [6, 8, 9] (.tup [8, 9]) (.seq (.var 7)) (.cst (.bl true)) (.bin .Add (.var 9) (.ix (.var 5) (.var 8)))) .nil)) .nil)))) .nil)) .nil))))))
  (.ret (.bif .tuple (.cons (.var 3) .nil))))))⟩
/-- fewest_anew: 0 section, 1 lay, 2 high, 3 wide, 4 width, 5 most, 6 other, 7 limit, 8 many, 9 i, 10 steps, 11 prices, 12 newer, 13 count, 14 fine, 15 .0, 16 end, 17 cost -/
def f_fewest_anew : Fn := ⟨"fewest_anew", 6, 18, [(.int 30), .non],
  (.seq (.set (.name 6) (.call "sized" (.cons (.var 0) (.cons (.var 2) (.cons (.var 3) .nil)))))
  (.seq (.set (.name 7) (.call "most_lines" (.cons (.var 6) (.cons (.var 1) (.cons (.var 4) (.cons (.var 5) .nil))))))
  (.seq (.set (.name 8) (.bif .max2 (.cons (.var 7) (.cons (.bif .len (.cons (.var 1) .nil)) .nil))))
  (.seq (.set (.name 10) (.comp [15, 9] (.name 9) (.range1 (.var 8)) (.cst (.bl true)) (.call "step_rows" (.cons (.var 0) (.cons (.var 1) (.cons (.var 6) (.cons (.var 9) (.cons (.var 4) (.cons (.var 7) .nil)))))))))
  (.seq (.set (.name 11) (.call "prices_of" (.cons (.var 10) (.cons (.bif .len (.cons (.ix (.var 0) (.cst (.int 3))) .nil)) .nil))))
  (.seq (.set (.name 12) (.lst .nil))
  (.seq (.set (.name 13) (.cst (.int 0)))
  (.seq (.for_ (.name 9) (.range1 (.var 8))
    (.seq (.set (.name 14) (.comp [15, 16, 17] (.tup [16, 17]) (.seq (.ix (.ix (.var 10) (.var 9)) (.var 13))) (.cmp .Eq (.bin .Add (.var 17) (.ix (.ix (.var 11) (.bin .Add (.var 9) (.cst (.int 1)))) (.var 16))) (.ix (.ix (.var 11) (.var 9)) (.var 13))) (.var 16)))
    (.seq (.set (.name 13) (.ix (.var 14) (.cst (.int 0))))
    (.expr (.meth .append (.var 12) (.cons (.var 13) .nil))))))
  (.seq (.whl (.and (.cmp .Gt (.bif .len (.cons (.var 12) .nil)) (.var 2)) (.cmp .Eq (.ix (.var 12) (.neg (.cst (.int 1)))) (.ix (.var 12) (.neg (.cst (.int 2))))))
    (.expr (.meth .pop (.var 12) .nil)))
  (.ret (.tup (.cons (.ix (.ix (.var 11) (.cst (.int 0))) (.cst (.int 0))) (.cons (.bif .tuple (.cons (.var 12) .nil)) (.cons (.var 11) .nil))))))))))))))⟩
/-- is_numbers: 0 thing, 1 .0, 2 one -/
def f_is_numbers : Fn := ⟨"is_numbers", 1, 3, [],
  (.ret (.and (.isi [.tuple] (.var 0)) (.bif .all (.cons (.comp [1, 2] (.name 2) (.seq (.var 0)) (.cst (.bl true)) (.call "is_number" (.cons (.var 2) .nil))) .nil))))⟩
/-- is_lay: 0 other, 1 thing, 2 width, 3 most, 4 many -/
def f_is_lay : Fn := ⟨"is_lay", 4, 5, [],
  (.seq (.try_ (.set (.name 4) (.call "lets_lay" (.cons (.var 0) (.cons (.var 1) (.cons (.var 2) .nil)))))
    (.cons ["NoPaper", "NoLay"] ["NoPaper"] none
    (.ret (.cst (.bl false)))
    .nil))
  (.ret (.cmp .LtE (.var 4) (.var 3))))⟩
/-- ask_rows: 0 rows, 1 lines, 2 counts, 3 k -/
def f_ask_rows : Fn := ⟨"ask_rows", 3, 4, [],
  (.for_ (.name 3) (.range1 (.bif .max2 (.cons (.bif .len (.cons (.var 0) .nil)) (.cons (.var 1) .nil))))
    (.ite (.or (.cmp .GtE (.var 3) (.bif .len (.cons (.var 0) .nil))) (.or (.cmp .GtE (.var 3) (.var 1)) (.or (.not (.call "is_numbers" (.cons (.ix (.var 0) (.var 3)) .nil))) (.cmp .NotEq (.bif .len (.cons (.ix (.var 0) (.var 3)) .nil)) (.var 2)))))
      (.raise "NoPaper" ["word", "at"] (.cons (.cst (.str "row")) (.cons (.var 3) .nil)))
      .skip))⟩
/-- is_price: 0 line, 1 here, 2 behind, 3 count, 4 some, 5 .0, 6 end, 7 cost -/
def f_is_price : Fn := ⟨"is_price", 3, 8, [],
  (.seq (.for_ (.tup [3, 4]) (.enum (.var 0))
    (.ite (.bif .any (.cons (.comp [5, 6, 7] (.tup [6, 7]) (.seq (.var 4)) (.cst (.bl true)) (.cmp .Gt (.bin .Sub (.ix (.var 1) (.var 3)) (.ix (.var 2) (.var 6))) (.var 7))) .nil))
      (.ret (.cst (.bl false)))
      .skip))
  (.ret (.cst (.bl true))))⟩
/-- lets_anew: 0 section, 1 lay, 2 high, 3 wide, 4 thing, 5 width, 6 most, 7 other, 8 limit, 9 number, 10 newer, 11 prices, 12 many, 13 i -/
def f_lets_anew : Fn := ⟨"lets_anew", 7, 14, [(.int 30), .non],
  (.seq (.set (.name 7) (.call "sized" (.cons (.var 0) (.cons (.var 2) (.cons (.var 3) .nil)))))
  (.seq (.set (.name 8) (.call "most_lines" (.cons (.var 7) (.cons (.var 1) (.cons (.var 5) (.cons (.var 6) .nil))))))
  (.seq (.ite (.or (.not (.isi [.tuple] (.var 4))) (.or (.cmp .NotEq (.bif .len (.cons (.var 4) .nil)) (.cst (.int 3))) (.not (.call "is_number" (.cons (.ix (.var 4) (.cst (.int 0))) .nil)))))
    (.raise "NoPaper" ["word", "at"] (.cons (.cst (.str "shape")) (.cons (.neg (.cst (.int 1))) .nil)))
    .skip)
  (.seq (.set (.tup [9, 10, 11]) (.var 4))
  (.seq (.ite (.or (.not (.call "is_numbers" (.cons (.var 10) .nil))) (.not (.isi [.tuple] (.var 11))))
    (.raise "NoPaper" ["word", "at"] (.cons (.cst (.str "shape")) (.cons (.neg (.cst (.int 1))) .nil)))
    .skip)
  (.seq (.ite (.not (.call "is_lay" (.cons (.var 7) (.cons (.var 10) (.cons (.var 5) (.cons (.var 8) .nil))))))
    (.raise "NoPaper" ["word", "at"] (.cons (.cst (.str "lay")) (.cons (.neg (.cst (.int 1))) .nil)))
    .skip)
  (.seq (.set (.name 12) (.bif .max2 (.cons (.var 8) (.cons (.bif .len (.cons (.var 1) .nil)) .nil))))
  (.seq (.expr (.call "ask_rows" (.cons (.var 11) (.cons (.bin .Add (.var 12) (.cst (.int 1))) (.cons (.bin .Add (.bif .len (.cons (.ix (.var 0) (.cst (.int 3))) .nil)) (.cst (.int 1))) .nil)))))
  (.seq (.for_ (.name 13) (.range1 (.var 12))
    (.ite (.not (.call "is_price" (.cons (.call "step_rows" (.cons (.var 0) (.cons (.var 1) (.cons (.var 7) (.cons (.var 13) (.cons (.var 5) (.cons (.var 8) .nil))))))) (.cons (.ix (.var 11) (.var 13)) (.cons (.ix (.var 11) (.bin .Add (.var 13) (.cst (.int 1)))) .nil)))))
      (.raise "NoPaper" ["word", "at"] (.cons (.cst (.str "price")) (.cons (.var 13) .nil)))
      .skip))
  (.seq (.ite (.cmp .NotEq (.var 9) (.bif .len (.cons (.call "anew_lines" (.cons (.var 0) (.cons (.var 1) (.cons (.var 2) (.cons (.var 3) (.cons (.var 10) .nil)))))) .nil)))
    (.raise "NoPaper" ["word", "at"] (.cons (.cst (.str "number")) (.cons (.neg (.cst (.int 1))) .nil)))
    .skip)
  (.seq (.ite (.cmp .NotEq (.var 9) (.bin .Sub (.ix (.ix (.var 11) (.cst (.int 0))) (.cst (.int 0))) (.ix (.ix (.var 11) (.neg (.cst (.int 1)))) (.neg (.cst (.int 1))))))
    (.raise "NoPaper" ["word", "at"] (.cons (.cst (.str "few")) (.cons (.neg (.cst (.int 1))) .nil)))
    .skip)
  (.ret (.var 9)))))))))))))⟩
/-- a line's words and column -/
def lineD (s : Sec) (l : List Nat) (i : Nat) : D := if l.length ≤ i then .non else if fst l i = l.getD i 0 then .non else .tup [encN (fst l i), encN (l.getD i 0), encN (if i < s.high then s.wide else 0)]
theorem line_simple {s : Sec} {l : List Nat} {i : Nat} : Simple 1 (lineD s l i) := by
  unfold lineD
  split
  · exact .non
  · split
    · exact .non
    · refine .tup fun x hx => ?_
      simp only [List.mem_cons, List.mem_nil_iff, or_false] at hx
      rcases hx with rfl | rfl | rfl <;> exact .int _
/-- another size -/
def sizedS (s : Sec) (h w : Nat) : Sec := ⟨s.name, h, w, s.words⟩
def lineC (o : Sec) (i c e : Nat) : D := if c = e then .non else .tup [encN c, encN e, encN (if i < o.high then o.wide else 0)]
theorem lineC_simple {o : Sec} {i c e : Nat} : Simple 1 (lineC o i c e) := by
  unfold lineC
  split
  · exact .non
  · refine .tup fun x hx => ?_
    simp only [List.mem_cons, List.mem_nil_iff, or_false] at hx
    rcases hx with rfl | rfl | rfl <;> exact .int _
def costN (x : D) (o : Sec) (i c e : Nat) : Nat := if lineC o i c e = x then 0 else 1
/-- the counts to which a step goes -/
noncomputable def endsL (o : Sec) (W most i c : Nat) : List Nat := if most ≤ i then [c] else (List.range (endE o.words c (roomN o W i) + 1 - c)).map (c + ·)
noncomputable def rowOf (s : Sec) (l : List Nat) (o : Sec) (W most i c : Nat) : List (Nat × Nat) := (endsL o W most i c).map fun e => (e, costN (lineD s l i) o i c e)
def encP (p : Nat × Nat) : D := .tup [encN p.1, encN p.2]
noncomputable def rowsOf (s : Sec) (l : List Nat) (o : Sec) (W most i : Nat) : List (List (Nat × Nat)) := (List.range (o.words.length + 1)).map (rowOf s l o W most i)
def anew (s : Sec) (l : List Nat) (o : Sec) (k : List Nat) : List Nat := (List.range (max l.length k.length)).filter fun i => !decide (lineD s l i = lineD o k i)
theorem anew_len {s o : Sec} {l k : List Nat} : (anew s l o k).length ≤ max l.length k.length := by
  have := List.length_filter_le (fun i => !decide (lineD s l i = lineD o k i)) (List.range (max l.length k.length))
  rw [List.length_range] at this
  exact this
section
variable {fs : List Fn} {wf n : Nat} {m : Store} {s o : Sec} {l k : List Nat} {i W most : Nat}
theorem line_ne (h : i < l.length) (e : fst l i ≠ l.getD i 0) : lineD s l i = .tup [encN (fst l i), encN (l.getD i 0), encN (if i < s.high then s.wide else 0)] := by
  unfold lineD
  rw [if_neg (Nat.not_le.mpr h), if_neg e]
theorem line_eq (h : i < l.length) (e : fst l i = l.getD i 0) : lineD s l i = .non := by
  unfold lineD
  rw [if_neg (Nat.not_le.mpr h), if_pos e]
theorem sized_ok {h w : Nat} : wp (bodyN fs wf (n + 1) f_sized [encS s, .int (h : Int), .int (w : Int)] m) (k := ⟨fun d m' => d = encS (sizedS s h w) ∧ m' = m⟩) := by
  rw [wp_body]
  simp [f_sized, startE, sizedS, encS]
  decide
theorem line_ok [Has fs "first_of" f_first_of 2] [Has fs "begins" f_begins 2] : wp (bodyN fs wf (n + 2) f_line_of [encS s, encL l, .int (i : Int)] m) (k := ⟨fun d m' => d = lineD s l i ∧ m' = m⟩) := by
  rw [wp_body]
  simp [f_line_of, startE]
  refine ⟨fun h => ?_, fun h => ?_⟩
  · unfold lineD
    rw [if_pos h]
  · have hg := get_getD (xs := l) (d := 0) h
    have F := first_ok (fs := fs) (wf := wf) (n := n) (m := m) (l := l) (i := i) (by omega)
    refine F.mono fun d m1 ⟨z1, z2⟩ => ?_
    subst z1 z2
    generalize hv : l.getD i 0 = v at *
    have hv2 : l[i] = v := at_eq hg h
    simp [encN, hg]
    refine ⟨fun e => ?_, fun e => ?_⟩
    · rw [line_eq h (by rw [hv]; omega)]
    · refine F.mono fun d m2 ⟨z1, z2⟩ => ?_
      subst z1 z2
      simp [hg]
      refine (begins_ok (n := n)).mono fun d m3 ⟨z1, z2⟩ => ?_
      subst z1 z2
      simp
      refine ⟨by decide, ?_⟩
      rw [line_ne h (by rw [hv]; omega), hv]
theorem anew_ok [Has fs "first_of" f_first_of 2] [Has fs "begins" f_begins 2] [Has fs "line_of" f_line_of 3] [Has fs "sized" f_sized 3] {h w : Nat} (h1 : l.length ≤ 200) (h2 : k.length ≤ 200) : wp (bodyN fs wf (n + 3) f_anew_lines [encS s, encL l, .int (h : Int), .int (w : Int), encL k] m) (k := ⟨fun d m' => d = encL (anew s l (sizedS s h w) k) ∧ m' = m⟩) := by
  rw [wp_body]
  simp [f_anew_lines, startE]
  refine (sized_ok (n := n + 1)).mono fun d m1 ⟨z1, z2⟩ => ?_
  subst z1 z2
  simp
  have e : (if l.length < k.length then (k.length : Int) else (l.length : Int)) = ((max l.length k.length : Nat) : Int) := by
    split <;> omega
  simp only [e]
  refine ⟨⟨by omega, by omega⟩, ?_⟩
  refine wcomp_pure (List.range (max l.length k.length)) encN (fun i => !decide (lineD s l i = lineD (sizedS s h w) k i)) encN (by rw [Int.toNat_natCast, upto_encN]) (by simp) (fun i hi => ?_) ?_
  · unfold cturn
    simp [encN]
    refine (line_ok (n := n) (l := l)).mono fun d m1 ⟨z1, z2⟩ => ?_
    subst z1 z2
    simp
    refine (line_ok (n := n) (l := k)).mono fun d m1 ⟨z1, z2⟩ => ?_
    subst z1 z2
    rw [ne_simple line_simple line_simple (by omega) (by omega)]
    by_cases q : lineD s l i = lineD (sizedS s h w) k i <;> simp [q]
  · have := anew_len (s := s) (l := l) (o := sizedS s h w) (k := k)
    unfold anew at *
    simp
    exact ⟨by unfold sizeLine; omega, rfl⟩
theorem ends_ok [Has fs "end_of" f_end_of 3] [HasD fs "room" f_room 3 [.int 30]] [Has fs "begins" f_begins 2] {c : Nat} (oo : SecOk o) (hc : c ≤ o.words.length) (hwf : 1000 < wf) : wp (bodyN fs wf (n + 3) f_ends_from [encS o, .int (i : Int), .int (c : Int), .int (W : Int), .int (most : Int)] m) (k := ⟨fun d m' => d = .ref m.length ∧ m' = m ++ [.lst ((endsL o W most i c).map encN)]⟩) := by
  have hl := oo.len
  rw [wp_body]
  simp [f_ends_from, startE]
  refine ⟨fun h => ⟨by decide, ?_⟩, fun h => ?_⟩
  · unfold endsL
    rw [if_pos h]
    rfl
  · refine (room_ok (n := n)).mono fun d m1 ⟨z1, z2⟩ => ?_
    subst z1 z2
    simp
    refine (endof_ok (n := n + 1) oo.words hc (by omega)).mono fun d m2 ⟨z1, I, z2⟩ => ?_
    subst z1 z2
    have hle := I.le
    have er : roomN o W i = max 0 ((W : Int) - ((if i < o.high then o.wide else 0 : Nat) : Int)) := rfl
    rw [← er] at hle ⊢
    simp [encN]
    refine ⟨⟨by unfold small62; omega, by unfold small62; omega, by omega⟩, ?_⟩
    unfold endsL
    rw [if_neg (by omega)]
    generalize endE o.words c (roomN o W i) = E at *
    unfold upto
    rw [List.map_map]
    refine List.map_congr_left fun j _ => ?_
    show D.int ((c : Int) + (j : Int)) = D.int ((c + j : Nat) : Int)
    congr 1
theorem cost_ok [Has fs "begins" f_begins 2] {x : D} {c e : Nat} (hx : Simple 1 x) : wp (bodyN fs wf (n + 2) f_cost_of [x, encS o, .int (i : Int), .int (c : Int), .int (e : Int)] m) (k := ⟨fun d m' => d = encN (costN x o i c e) ∧ m' = m⟩) := by
  have fin : ∀ y : D, lineC o i c e = y → (decide (y = x) = true → D.int 0 = encN (costN x o i c e)) ∧ (¬ decide (y = x) = true → D.int 1 = encN (costN x o i c e)) := fun y hy => by
    unfold costN
    rw [hy]
    refine ⟨fun h => by rw [if_pos (of_decide_eq_true h)]; rfl, fun h => by rw [if_neg (fun z => h (decide_eq_true z))]; rfl⟩
  rw [wp_body]
  simp [f_cost_of, startE]
  refine ⟨fun h => ?_, fun h => ?_⟩
  · have hq : lineC o i c e = .non := by unfold lineC; rw [if_pos (by omega)]
    have F := fin _ hq
    rw [eq_simple (d := 1) .non hx (by omega) (by omega)]
    simp at F ⊢
    exact F
  · refine (begins_ok (n := n)).mono fun d m1 ⟨z1, z2⟩ => ?_
    subst z1 z2
    have hq : lineC o i c e = .tup [.int (c : Int), .int (e : Int), encN (if i < o.high then o.wide else 0)] := by unfold lineC; rw [if_neg (by omega)]; rfl
    have hs := lineC_simple (o := o) (i := i) (c := c) (e := e)
    have F := fin _ hq
    rw [hq] at hs
    simp
    refine ⟨by decide, ?_⟩
    rw [eq_simple (d := 1) hs hx (by omega) (by omega)]
    generalize D.tup [.int (c : Int), .int (e : Int), encN (if i < o.high then o.wide else 0)] = y at *
    simp at F ⊢
    exact F
end
end Cs

set_option maxHeartbeats 0
set_option exponentiation.threshold 3000
/-! Ca2: the rows of a line's steps. -/
namespace Cs
open PySem L2 Pf
/-- at a: lists, one per count -/
structure RowsAt (m : Store) (a : Nat) (rows : List (List (Nat × Nat))) : Prop where
  ex : ∃ rs : List Nat, m[a]? = some (Cell.lst (rs.map D.ref)) ∧ rs.length = rows.length ∧ ∀ (j r : Nat) (row : List (Nat × Nat)), rs[j]? = some r → rows[j]? = some row → m[r]? = some (Cell.lst (row.map encP))
theorem RowsAt.keep {m m' : Store} {a : Nat} {rows : List (List (Nat × Nat))} (h : RowsAt m a rows) (k : Keep none m m') : RowsAt m' a rows := by
  obtain ⟨rs, h1, h2, h3⟩ := h.ex
  exact ⟨rs, k.cell h1 (by simp), h2, fun j r row g1 g2 => k.cell (h3 j r row g1 g2) (by simp)⟩
structure SInv (m : Store) (q : Nat) (f : Nat → List (Nat × Nat)) (j : Nat) (m1 : Store) : Prop where
  ex : ∃ rs : List Nat, m1[q]? = some (Cell.lst (rs.map D.ref)) ∧ rs.length = j ∧ (∀ (i r : Nat), rs[i]? = some r → q < r ∧ m1[r]? = some (Cell.lst ((f i).map encP))) ∧ Keep none m m1
theorem row_len {s o : Sec} {l : List Nat} {W most i c : Nat} (oo : SecOk o) (hc : c ≤ o.words.length) : (rowOf s l o W most i c).length ≤ 41 := by
  have hl := oo.len
  unfold rowOf endsL
  rw [List.length_map]
  split
  · simp
  · have := (ends (ws := o.words) (a := c) (sp := roomN o W i) hc).le
    simp
    omega
section
variable {fs : List Fn} {wf n : Nat} {m : Store} {s o : Sec} {l : List Nat} {i W most : Nat}
theorem step_ok [Has fs "first_of" f_first_of 2] [Has fs "begins" f_begins 2] [Has fs "line_of" f_line_of 3] [Has fs "end_of" f_end_of 3] [HasD fs "room" f_room 3 [.int 30]] [Has fs "ends_from" f_ends_from 5] [Has fs "cost_of" f_cost_of 5] (oo : SecOk o) (hwf : 1000 < wf) :
    wp (bodyN fs wf (n + 4) f_step_rows [encS s, encL l, encS o, .int (i : Int), .int (W : Int), .int (most : Int)] m) (k := ⟨fun d m' => ∃ a, d = .ref a ∧ RowsAt m' a (rowsOf s l o W most i) ∧ Keep none m m'⟩) := by
  have hl := oo.len
  rw [wp_body]
  simp [f_step_rows, startE]
  refine (line_ok (n := n + 1) (s := s) (l := l) (i := i)).mono fun d m1 ⟨z1, z2⟩ => ?_
  subst z1 z2
  simp
  refine ⟨by unfold small62; omega, ?_⟩
  refine wfor_inv (fun j r m2 => ∃ x8 x9, r = [some (encS s), some (encL l), some (encS o), some (.int i), some (.int W), some (.int most), some (lineD s l i), some (.ref m1.length), x8, x9, none, none] ∧ SInv m1 m1.length (rowOf s l o W most i) j m2) ⟨_, _, rfl, ⟨[], by simp, rfl, fun i r h => by simp at h, Keep.new none m1 _⟩⟩ (fun j x r m2 hx ⟨x8, x9, hr, ⟨rs, g1, g2, g3, g4⟩⟩ => ?_) (fun r m2 ⟨x8, x9, hr, ⟨rs, g1, g2, g3, g4⟩⟩ => ?_)
  · obtain ⟨hj, rfl⟩ := upto_get hx
    subst hr
    unfold fturn
    simp
    refine (ends_ok (n := n) (i := i) (W := W) (most := most) (c := j) oo (by omega) hwf).mono fun d m3 ⟨z1, z2⟩ => ?_
    subst z1 z2
    have hml := g4.len
    have h1 := lt_get g1
    simp
    have g1' : ∀ L : List Cell, (m2 ++ L)[m1.length]? = some (Cell.lst (rs.map D.ref)) := fun L => by rw [List.getElem?_append_left h1]; exact g1
    refine ⟨⟨_, g1' _⟩, ?_⟩
    refine wcomp_map (endsL o W most i j) encN (fun e => encP (e, costN (lineD s l i) o i j e)) rfl (by simp) (fun e he => ?_) ?_
    · unfold cturn
      simp [encN]
      refine (cost_ok (n := n + 1) (x := lineD s l i) (o := o) (i := i) (c := j) (e := e) line_simple).mono fun d m4 ⟨z1, z2⟩ => ?_
      subst z1 z2
      simp
      exact ⟨by decide, rfl⟩
    have hrl := row_len (s := s) (l := l) (W := W) (most := most) (i := i) oo (show j ≤ o.words.length by omega)
    have ee : (endsL o W most i j).map (fun e => encP (e, costN (lineD s l i) o i j e)) = (rowOf s l o W most i j).map encP := by
      unfold rowOf
      rw [List.map_map]
      rfl
    rw [ee]
    simp
    have g4' : ∀ L : List Cell, Keep none m1 (m2 ++ L) := fun L => g4.app L
    refine ⟨by unfold sizeLine; omega, _, g1' _, by unfold sizeLine; simp; omega, ⟨rs ++ [m2.length + 1], ?_, by simp [g2], fun i' r hr => ?_, (g4' _).set_new (Nat.le_refl _) _⟩⟩
    · rw [get_set (g1' _)]
      simp
    · rcases Nat.lt_or_ge i' rs.length with c | c
      · rw [List.getElem?_append_left c] at hr
        obtain ⟨q1, q2⟩ := g3 i' r hr
        refine ⟨q1, ?_⟩
        rw [List.getElem?_set_ne (by omega), List.getElem?_append_left (lt_get q2)]
        exact q2
      · rw [List.getElem?_append_right c] at hr
        have hi' : i' - rs.length = 0 := by
          have := (List.getElem?_eq_some_iff.mp hr).1
          simpa using this
        rw [hi'] at hr
        obtain rfl : m2.length + 1 = r := by simpa using hr
        obtain rfl : i' = j := by omega
        refine ⟨by omega, ?_⟩
        rw [List.getElem?_set_ne (by omega), List.getElem?_append_right (by omega), show m2.length + 1 - m2.length = 1 by omega]
        rfl
  · subst hr
    simp
    refine ⟨⟨rs, g1, by rw [g2]; simp [rowsOf], fun j r row q1 q2 => ?_⟩, g4⟩
    have hj := lt_get q1
    simp at g2
    unfold rowsOf at q2
    rw [List.getElem?_map, List.getElem?_range (by omega)] at q2
    cases q2
    exact (g3 j r q1).2
end
end Cs

set_option maxHeartbeats 0
set_option exponentiation.threshold 3000
/-! Ca3: prices. -/
namespace Cs
open PySem L2 Pf
theorem foldl_min : ∀ (xs : List Int) (a : Int), (xs.foldl min a = a ∨ xs.foldl min a ∈ xs) ∧ xs.foldl min a ≤ a ∧ ∀ x ∈ xs, xs.foldl min a ≤ x
  | [], a => ⟨.inl rfl, Int.le_refl _, fun _ h => nomatch h⟩
  | y :: ys, a => by
    obtain ⟨h1, h2, h3⟩ := foldl_min ys (min a y)
    refine ⟨?_, by show ys.foldl min (min a y) ≤ a; omega, fun x hx => ?_⟩
    · show ys.foldl min (min a y) = a ∨ _
      rcases h1 with h | h
      · rcases Int.le_total a y with c | c
        · exact .inl (by rw [h]; omega)
        · refine .inr ?_
          show ys.foldl min (min a y) ∈ y :: ys
          rw [h]
          exact List.mem_cons.mpr (.inl (by omega))
      · exact .inr (List.mem_cons_of_mem _ h)
    · show ys.foldl min (min a y) ≤ x
      rcases List.mem_cons.mp hx with rfl | h
      · omega
      · exact h3 x h
theorem minI_spec {xs : List Int} (h : xs ≠ []) : minI xs ∈ xs ∧ ∀ x ∈ xs, minI xs ≤ x := by
  cases xs with
  | nil => exact absurd rfl h
  | cons y ys =>
    obtain ⟨h1, h2, h3⟩ := foldl_min ys y
    show ys.foldl min y ∈ y :: ys ∧ ∀ x ∈ y :: ys, ys.foldl min y ≤ x
    refine ⟨?_, fun x hx => ?_⟩
    · rcases h1 with q | q
      · rw [q]; exact List.mem_cons_self
      · exact List.mem_cons_of_mem _ q
    · rcases List.mem_cons.mp hx with rfl | q
      · exact h2
      · exact h3 x q
def minN (l : List Nat) : Nat := (minI (l.map fun (n : Nat) => (n : Int))).toNat
theorem minN_spec {l : List Nat} (h : l ≠ []) : minN l ∈ l ∧ (∀ x ∈ l, minN l ≤ x) ∧ minI (l.map fun (n : Nat) => (n : Int)) = (minN l : Int) := by
  obtain ⟨h1, h2⟩ := minI_spec (xs := l.map fun (n : Nat) => (n : Int)) (by simpa using h)
  unfold minN
  obtain ⟨a, ha, ea⟩ := List.mem_map.mp h1
  rw [← ea]
  refine ⟨ha, fun x hx => ?_, by simp⟩
  have := h2 _ (List.mem_map.mpr ⟨x, hx, rfl⟩)
  rw [← ea] at this
  simp
  omega
/-! ### prices, plainly -/
abbrev Rows := List (List (Nat × Nat))
def priceOf (far : Nat) (b : List Nat) (row : List (Nat × Nat)) : Nat := min far (minN (row.map fun p => p.2 + b.getD p.1 0))
def pricesL (far n : Nat) : List Rows → List (List Nat)
  | [] => [List.replicate n far ++ [0]]
  | rows :: rest => rows.map (priceOf far ((pricesL far n rest).headD [])) :: pricesL far n rest
structure RowsOk (n : Nat) (rows : Rows) : Prop where
  len : rows.length = n + 1
  row : ∀ row ∈ rows, row ≠ [] ∧ row.length ≤ 41 ∧ ∀ p ∈ row, p.1 ≤ n ∧ p.2 ≤ 1
theorem prices_ne {far n : Nat} {ss : List Rows} : ∃ R rest, pricesL far n ss = R :: rest := by
  cases ss with
  | nil => exact ⟨_, _, rfl⟩
  | cons a b => exact ⟨_, _, rfl⟩
theorem prices_len {far n : Nat} : ∀ (ss : List Rows), (pricesL far n ss).length = ss.length + 1
  | [] => rfl
  | a :: b => by simp [pricesL, prices_len b]
theorem prices_row {far n : Nat} : ∀ (ss : List Rows), (∀ rows ∈ ss, RowsOk n rows) → ∀ R ∈ pricesL far n ss, R.length = n + 1 ∧ ∀ x ∈ R, x ≤ far
  | [], _, R, hR => by
    rw [List.mem_singleton.mp hR]
    refine ⟨by simp, fun x hx => ?_⟩
    rcases List.mem_append.mp hx with h | h
    · rw [(List.mem_replicate.mp h).2]; exact Nat.le_refl _
    · rw [List.mem_singleton.mp h]; exact Nat.zero_le _
  | a :: b, h, R, hR => by
    rcases List.mem_cons.mp hR with h1 | h1
    · rw [h1]
      refine ⟨by rw [List.length_map]; exact (h a List.mem_cons_self).len, fun x hx => ?_⟩
      obtain ⟨row, _, rfl⟩ := List.mem_map.mp hx
      exact Nat.min_le_left _ _
    · exact prices_row b (fun rows hr => h rows (List.mem_cons_of_mem _ hr)) R h1
structure StepsAt (m : Store) (S : Nat) (ss : List Rows) : Prop where
  ex : ∃ as : List Nat, m[S]? = some (Cell.lst (as.map D.ref)) ∧ as.length = ss.length ∧ ∀ (j a : Nat) (rows : Rows), as[j]? = some a → ss[j]? = some rows → RowsAt m a rows
theorem StepsAt.keep {m m' : Store} {S : Nat} {ss : List Rows} (h : StepsAt m S ss) (k : Keep none m m') : StepsAt m' S ss := by
  obtain ⟨as, h1, h2, h3⟩ := h.ex
  exact ⟨as, k.cell h1 (by simp), h2, fun j a rows g1 g2 => (h3 j a rows g1 g2).keep k⟩
theorem as_range {α : Type} (l : List α) (d : α) : l = (List.range l.length).map fun j => l.getD j d := by
  refine List.ext_getElem? fun i => ?_
  by_cases h : i < l.length
  · rw [List.getElem?_map, List.getElem?_range h, get_getD (d := d) h]
    rfl
  · rw [List.getElem?_eq_none (by omega), List.getElem?_eq_none (by simp; omega)]
section
variable {fs : List Fn} {wf n : Nat} {m : Store}
theorem prices_ok {S n0 : Nat} {ss : List Rows} (hS : StepsAt m S ss) (hR : ∀ rows ∈ ss, RowsOk n0 rows) (hn : n0 ≤ 40) (hss : ss.length ≤ 400) :
    wp (bodyN fs wf (n + 1) f_prices_of [.ref S, .int (n0 : Int)] m) (k := ⟨fun d m' => d = .tup ((pricesL (ss.length + 1) n0 ss).map (tupOf encN)) ∧ Keep none m m'⟩) := by
  obtain ⟨as, g1, g2, g3⟩ := hS.ex
  rw [wp_body]
  simp [f_prices_of, startE, g1]
  have e0 : D.tup (List.replicate n0 (D.int ((as.length : Int) + 1)) ++ [D.int 0]) = tupOf encN (List.replicate n0 (ss.length + 1) ++ [0]) := by
    unfold tupOf
    rw [List.map_append, List.map_replicate, ← g2]
    rfl
  rw [e0]
  have hlt := lt_get g1
  have k0 : Keep none m (m ++ [Cell.lst [tupOf encN (List.replicate n0 (ss.length + 1) ++ [0])]]) := Keep.new none m _
  refine ⟨by decide, ⟨by omega, by unfold sizeLine; omega⟩, by decide, by unfold sizeLine; omega, by decide, _, k0.cell g1 (by simp), rfl, ?_⟩
  refine wfor_inv (fun j r m1 => ∃ x4 x5, r = [some (.ref S), some (.int n0), some (.int ((as.length : Int) + 1)), some (.ref m.length), x4, x5, none, none, none, none] ∧ m1[m.length]? = some (Cell.lst ((pricesL (ss.length + 1) n0 (ss.drop (ss.length - j))).map (tupOf encN))) ∧ Keep none m m1) ⟨_, _, rfl, by simp [pricesL], k0⟩ (fun j x r m1 hx ⟨x4, x5, hr, h1, hk⟩ => ?_) (fun r m1 ⟨x4, x5, hr, h1, hk⟩ => ?_)
  · have gS := hk.cell g1 (by simp)
    simp [gS]
    have hj : j < as.length := by
      have := lt_get hx
      simpa [Cell.items] using this
    rw [show (Cell.lst (as.map D.ref)).items = as.map D.ref from rfl, List.getElem?_reverse (by simpa using hj), List.getElem?_map] at hx
    obtain ⟨a, ha, rfl⟩ := Option.map_eq_some_iff.mp hx
    simp only [List.length_map] at ha
    have hs : ss[as.length - 1 - j]? = some ss[as.length - 1 - j] := List.getElem?_eq_getElem (by omega)
    generalize hrows : ss[as.length - 1 - j] = rows at hs
    have rA := (g3 _ a rows ha hs).keep hk
    have rO := hR rows (List.mem_of_getElem? hs)
    obtain ⟨rs, q1, q2, q3⟩ := rA.ex
    have hd : ss.drop (ss.length - (j + 1)) = rows :: ss.drop (ss.length - j) := by
      have := drop_cons hs
      rw [show as.length - 1 - j = ss.length - (j + 1) by omega] at this
      rw [this]
      congr 2
      omega
    have hP := prices_row (far := ss.length + 1) (ss.drop (ss.length - j)) (fun rows hr => hR rows (List.mem_of_mem_drop hr))
    have hlen := prices_len (far := ss.length + 1) (n := n0) (ss.drop (ss.length - j))
    obtain ⟨b, rest, hb⟩ := prices_ne (far := ss.length + 1) (n := n0) (ss := ss.drop (ss.length - j))
    rw [hb] at h1 hP hlen
    obtain ⟨bl, bf⟩ := hP b List.mem_cons_self
    subst hr
    unfold fturn
    simp [h1]
    have hxs : rs.map D.ref = (List.range rs.length).map fun j => D.ref (rs.getD j 0) := by
      conv => lhs; rw [as_range rs 0, List.map_map]
      rfl
    refine ⟨_, q1, rfl, ?_⟩
    refine wcomp_map (List.range rs.length) (fun q => D.ref (rs.getD q 0)) (fun q => encN (priceOf (ss.length + 1) b (rows.getD q []))) hxs (by simp [q1]) (fun q hq => ?_) ?_
    · have hq := List.mem_range.mp hq
      have hr1 := get_getD (d := 0) hq
      have hr2 := get_getD (d := []) (show q < rows.length by omega)
      generalize rs.getD q 0 = r at *
      generalize rows.getD q [] = row at *
      have gr := q3 q r row hr1 hr2
      obtain ⟨w1, w2, w3⟩ := rO.row row (List.mem_of_getElem? hr2)
      unfold cturn
      simp [gr]
      refine wcomp_map row encP (fun p => encN (p.2 + b.getD p.1 0)) rfl (by simp [gr]) (fun p hp => ?_) ?_
      · obtain ⟨p1, p2⟩ := w3 p hp
        have hbp := get_getD (xs := b) (d := 0) (show p.1 < b.length by omega)
        unfold cturn
        simp [encP, encN]
        exact ⟨_, hbp, rfl⟩
      · have hmin := minN_spec (l := row.map fun p => p.2 + b.getD p.1 0) (by simpa using w1)
        have e1 : row.map (fun p => encN (p.2 + b.getD p.1 0)) = (row.map fun p => p.2 + b.getD p.1 0).map encN := by
          rw [List.map_map]
          rfl
        rw [e1]
        have e2 : priceOf (ss.length + 1) b row = min (ss.length + 1) (minN (row.map fun p => p.2 + b.getD p.1 0)) := rfl
        rw [e2]
        generalize hZ : (row.map fun p => p.2 + b.getD p.1 0) = Z at *
        have hZl : Z.length = row.length := by rw [← hZ]; simp
        have hrl : 0 < row.length := List.length_pos_iff.mpr w1
        simp [-List.map_map]
        refine ⟨by unfold sizeLine; omega, by omega, ?_⟩
        rw [hmin.2.2]
        unfold encN
        congr 1
        rw [g2]
        split <;> omega
    · have hmap : (List.range rs.length).map (fun q => encN (priceOf (ss.length + 1) b (rows.getD q []))) = (rows.map (priceOf (ss.length + 1) b)).map encN := by
        conv => rhs; rw [as_range rows [], List.map_map, List.map_map, ← q2]
        rfl
      rw [hmap]
      have hrl := rO.len
      have hrest : rest.length ≤ ss.length := by
        have e1 : (b :: rest).length = (ss.drop (ss.length - j)).length + 1 := hlen
        simp at e1
        omega
      simp [-List.map_map, h1]
      refine ⟨by unfold sizeLine; omega, by unfold sizeLine; omega, ?_, hk.set_new (Nat.le_refl _) _⟩
      rw [get_set h1, hd]
      show _ = some (Cell.lst ((rows.map (priceOf (ss.length + 1) ((pricesL (ss.length + 1) n0 (ss.drop (ss.length - j))).headD [])) :: pricesL (ss.length + 1) n0 (ss.drop (ss.length - j))).map (tupOf encN)))
      rw [hb]
      rfl
  · subst hr
    have gS := hk.cell g1 (by simp)
    have hjl : (Cell.lst (as.map D.ref)).items.reverse.length = ss.length := by simp [Cell.items, g2]
    rw [hjl, Nat.sub_self, List.drop_zero] at h1
    simp [gS, h1]
    exact hk
end
end Cs

set_option maxHeartbeats 0
set_option exponentiation.threshold 3000
/-! Ca4: what prices show, plainly. -/
namespace Cs
open PySem L2 Pf
/-- the price of a count ahead of line i -/
def pr (far n : Nat) (ss : List Rows) (i c : Nat) : Nat := ((pricesL far n ss).getD i []).getD c 0
theorem prices_cons {far n : Nat} {a : Rows} {b : List Rows} : pricesL far n (a :: b) = a.map (priceOf far ((pricesL far n b).headD [])) :: pricesL far n b := rfl
theorem prices_at {far n : Nat} : ∀ (ss : List Rows) (i : Nat), i ≤ ss.length → (pricesL far n ss)[i]? = some ((pricesL far n (ss.drop i)).headD [])
  | [], i, h => by
    obtain rfl : i = 0 := by simpa using h
    rfl
  | a :: b, 0, _ => rfl
  | a :: b, i + 1, h => by
    have := prices_at (far := far) (n := n) b i (by simpa using h)
    rw [prices_cons, List.getElem?_cons_succ, this]
    rfl
theorem pr_last {far n c : Nat} {ss : List Rows} (hc : c ≤ n) : pr far n ss ss.length c = if c = n then 0 else far := by
  unfold pr
  rw [getD_get (prices_at ss ss.length (Nat.le_refl _)), List.drop_length]
  show (List.replicate n far ++ [0]).getD c 0 = _
  by_cases h : c = n
  · subst h
    rw [if_pos rfl]
    simp [List.getD]
  · rw [if_neg h]
    have : c < n := by omega
    simp [List.getD, List.getElem?_append_left, this]
theorem pr_step {far n i c : Nat} {ss : List Rows} {rows : Rows} {row : List (Nat × Nat)} (hi : ss[i]? = some rows) (hc : rows[c]? = some row) : pr far n ss i c = priceOf far ((pricesL far n ss).getD (i + 1) []) row := by
  have hil := lt_get hi
  unfold pr
  rw [getD_get (prices_at ss i (by omega)), drop_cons hi, prices_cons]
  show (rows.map (priceOf far ((pricesL far n (ss.drop (i + 1))).headD []))).getD c 0 = _
  rw [getD_get (map_get hc), getD_get (prices_at ss (i + 1) (by omega))]
theorem pr_le {far n i c : Nat} {ss : List Rows} {rows : Rows} {row : List (Nat × Nat)} {p : Nat × Nat} (hi : ss[i]? = some rows) (hc : rows[c]? = some row) (hp : p ∈ row) : pr far n ss i c ≤ p.2 + pr far n ss (i + 1) p.1 := by
  rw [pr_step hi hc]
  unfold priceOf
  have hm : p.2 + ((pricesL far n ss).getD (i + 1) []).getD p.1 0 ∈ row.map fun p => p.2 + ((pricesL far n ss).getD (i + 1) []).getD p.1 0 := List.mem_map.mpr ⟨p, hp, rfl⟩
  have := (minN_spec (List.ne_nil_of_mem hm)).2.1 _ hm
  exact Nat.le_trans (Nat.min_le_right _ _) this
theorem pr_is {far n i c : Nat} {ss : List Rows} {rows : Rows} {row : List (Nat × Nat)} (hi : ss[i]? = some rows) (hc : rows[c]? = some row) (hr : row ≠ []) (hf : pr far n ss i c < far) : ∃ p ∈ row, p.2 + pr far n ss (i + 1) p.1 = pr far n ss i c := by
  rw [pr_step hi hc] at hf ⊢
  unfold priceOf at hf ⊢
  have hm := (minN_spec (l := row.map fun p => p.2 + ((pricesL far n ss).getD (i + 1) []).getD p.1 0) (by simpa using hr)).1
  obtain ⟨p, hp, e⟩ := List.mem_map.mp hm
  refine ⟨p, hp, ?_⟩
  show p.2 + ((pricesL far n ss).getD (i + 1) []).getD p.1 0 = _
  rw [e]
  omega
/-- a way from line i on: its counts and what they cost -/
structure Way (ss : List Rows) (L C : Nat → Nat) : Prop where
  step : ∀ i rows, ss[i]? = some rows → ∃ row, rows[L i]? = some row ∧ (L (i + 1), C i) ∈ row
def costs (C : Nat → Nat) (i : Nat) : Nat → Nat
  | 0 => 0
  | k + 1 => C i + costs C (i + 1) k
theorem way_ge {far n : Nat} {ss : List Rows} {L C : Nat → Nat} (w : Way ss L C) (hL : L ss.length = n) : ∀ (k i : Nat), i + k = ss.length → pr far n ss i (L i) ≤ costs C i k
  | 0, i, h => by
    have : i = ss.length := by omega
    subst this
    rw [hL, pr_last (Nat.le_refl _), if_pos rfl]
    exact Nat.zero_le _
  | k + 1, i, h => by
    have hi : ss[i]? = some ss[i] := List.getElem?_eq_getElem (by omega)
    obtain ⟨row, h1, h2⟩ := w.step i _ hi
    have a := pr_le (far := far) (n := n) hi h1 h2
    have b := way_ge (far := far) w hL k (i + 1) (by omega)
    show _ ≤ C i + costs C (i + 1) k
    simp only at a
    omega
theorem costs_le {C : Nat → Nat} (h : ∀ i, C i ≤ 1) : ∀ (k i : Nat), costs C i k ≤ k
  | 0, _ => Nat.le_refl _
  | k + 1, i => by
    have := costs_le h k (i + 1)
    have := h i
    show C i + costs C (i + 1) k ≤ k + 1
    omega
end Cs

set_option maxHeartbeats 0
set_option exponentiation.threshold 3000
/-! Ca5: the fewest lines anew, told. -/
namespace Cs
open PySem L2 Pf
def mD : Option Nat → D
  | none => .non
  | some k => .int (k : Int)
noncomputable def limitN (o : Sec) (l : List Nat) (W : Nat) : Option Nat → Nat
  | none => max (many o W) l.length
  | some q => q
noncomputable def ssOf (s : Sec) (l : List Nat) (o : Sec) (W most many : Nat) : List Rows := (List.range many).map (rowsOf s l o W most)
theorem endsL_in {o : Sec} {W most i c e : Nat} (hc : c ≤ o.words.length) (h : e ∈ endsL o W most i c) : c ≤ e ∧ e ≤ o.words.length := by
  have hle := (ends (ws := o.words) (a := c) (sp := roomN o W i) hc).le
  unfold endsL at h
  split at h
  · rw [List.mem_singleton.mp h]
    omega
  · obtain ⟨j, hj, rfl⟩ := List.mem_map.mp h
    have := List.mem_range.mp hj
    omega
theorem rows_ok {s o : Sec} {l : List Nat} {W most i : Nat} (oo : SecOk o) : RowsOk o.words.length (rowsOf s l o W most i) := by
  refine ⟨by simp [rowsOf], fun row hr => ?_⟩
  obtain ⟨c, hc, rfl⟩ := List.mem_map.mp hr
  have hc := List.mem_range.mp hc
  refine ⟨?_, row_len oo (by omega), fun p hp => ?_⟩
  · unfold rowOf endsL
    have hle := (ends (ws := o.words) (a := c) (sp := roomN o W i) (by omega)).le
    split
    · simp
    · simp
      omega
  · obtain ⟨e, he, rfl⟩ := List.mem_map.mp hp
    refine ⟨(endsL_in (by omega) he).2, ?_⟩
    show costN _ _ _ _ _ ≤ 1
    unfold costN
    split <;> omega
theorem ssOf_ok {s o : Sec} {l : List Nat} {W most many : Nat} (oo : SecOk o) : ∀ rows ∈ ssOf s l o W most many, RowsOk o.words.length rows := fun rows h => by
  obtain ⟨i, _, rfl⟩ := List.mem_map.mp h
  exact rows_ok oo
theorem ssOf_at {s o : Sec} {l : List Nat} {W most many i : Nat} (h : i < many) : (ssOf s l o W most many)[i]? = some (rowsOf s l o W most i) := range_map_get h
theorem rowsOf_at {s o : Sec} {l : List Nat} {W most i c : Nat} (h : c ≤ o.words.length) : (rowsOf s l o W most i)[c]? = some (rowOf s l o W most i c) := range_map_get (by omega)
theorem rowOf_in {s o : Sec} {l : List Nat} {W most i c e : Nat} (h : e ∈ endsL o W most i c) : (e, costN (lineD s l i) o i c e) ∈ rowOf s l o W most i c := List.mem_map.mpr ⟨e, h, rfl⟩
section
variable {fs : List Fn} {wf n : Nat} {m : Store} {s o : Sec} {l : List Nat} {W : Nat} {mo : Option Nat}
theorem most_ok [HasD fs "bent" f_bent 2 [.int 30]] [Has fs "end_of" f_end_of 3] [HasD fs "room" f_room 3 [.int 30]] [Has fs "begins" f_begins 2] (oo : SecOk o) (hW : ∀ w ∈ o.words, w.length ≤ W) (hwf : 1000 < wf) :
    wp (E := ⟨fun e m' => (∃ q, mo = some q ∧ q < many o W) ∧ e = ⟨"NoLay", [("word", .str "most")]⟩ ∧ Keep none m m'⟩) (bodyN fs wf (n + 4) f_most_lines [encS o, encL l, .int (W : Int), mD mo] m) (k := ⟨fun d m' => d = .int (limitN o l W mo : Nat) ∧ (∀ q, mo = some q → many o W ≤ q) ∧ Keep none m m'⟩) := by
  rw [wp_body]
  simp [f_most_lines, startE]
  refine (bent_ok (n := n) oo hW hwf).mono fun d m1 ⟨z1, z2, k1⟩ => ?_
  subst z1
  have hb := bentL_len2 (s := o) (W := W)
  simp [hb]
  cases mo with
  | none =>
    simp [mD, isN, limitN]
    exact ⟨by split <;> omega, k1⟩
  | some q =>
    simp [mD, isN, limitN]
    exact ⟨fun h => ⟨h, k1⟩, fun h => ⟨h, k1⟩⟩
theorem most_long [HasD fs "bent" f_bent 2 [.int 30]] [Has fs "end_of" f_end_of 3] [HasD fs "room" f_room 3 [.int 30]] [Has fs "begins" f_begins 2] {k : Nat} {w : Str} (oo : SecOk o) (hk : o.words[k]? = some w) (hw : W < w.length) (hb : ∀ j v, j < k → o.words[j]? = some v → v.length ≤ W) :
    wp (E := ⟨fun e m' => e = ⟨"NoLay", [("word", .int (k : Int))]⟩ ∧ m' = m⟩) (bodyN fs wf (n + 4) f_most_lines [encS o, encL l, .int (W : Int), mD mo] m) (k := ⟨fun d m' => False⟩) := by
  rw [wp_body]
  simp [f_most_lines, startE]
  refine (nolay_ok (n := n) oo hk hw hb).monoE (fun d m1 z => ?_) fun e m1 z => z
  exact z.elim
end
end Cs

set_option maxHeartbeats 0
set_option exponentiation.threshold 3000
/-! Ca6: fewest_anew walked. -/
namespace Cs
open PySem L2 Pf
theorem lay_mono {o : Sec} {W i : Nat} : ∀ k, lay o W i ≤ lay o W (i + k)
  | 0 => Nat.le_refl _
  | k + 1 => Nat.le_trans (lay_mono k) (lay_step (s := o) (W := W) (i + k)).le.1
theorem lay_full {o : Sec} {W i : Nat} (oo : SecOk o) (hW : ∀ w ∈ o.words, w.length ≤ W) (h : many o W ≤ i) : lay o W i = o.words.length := by
  have I := (many_is oo hW).1.out.2
  have a := lay_mono (o := o) (W := W) (i := many o W) (i - many o W)
  rw [show many o W + (i - many o W) = i by omega] at a
  have := lay_le (s := o) (W := W) i
  omega
theorem pr_lt {s o : Sec} {l : List Nat} {W most N : Nat} (oo : SecOk o) (hW : ∀ w ∈ o.words, w.length ≤ W) (h1 : many o W ≤ most) (h2 : most ≤ N) : pr (N + 1) o.words.length (ssOf s l o W most N) 0 0 < N + 1 := by
  have hN : (ssOf s l o W most N).length = N := by simp [ssOf]
  have w : Way (ssOf s l o W most N) (fun i => lay o W (min i most)) (fun i => costN (lineD s l i) o i (lay o W (min i most)) (lay o W (min (i + 1) most))) := ⟨fun i rows hi => by
    have hiN : i < N := by have := lt_get hi; omega
    rw [ssOf_at hiN] at hi
    cases hi
    refine ⟨_, rowsOf_at (lay_le _), rowOf_in ?_⟩
    unfold endsL
    by_cases c : most ≤ i
    · rw [if_pos c, Nat.min_eq_right c, Nat.min_eq_right (by omega)]
      exact List.mem_singleton.mpr rfl
    · rw [if_neg c, Nat.min_eq_left (by omega), Nat.min_eq_left (by omega)]
      have hle := (lay_step (s := o) (W := W) i).le
      refine List.mem_map.mpr ⟨lay o W (i + 1) - lay o W i, List.mem_range.mpr ?_, by omega⟩
      show _ < lay o W (i + 1) + 1 - lay o W i
      omega⟩
  have hL : (fun i => lay o W (min i most)) (ssOf s l o W most N).length = o.words.length := by
    show lay o W (min _ most) = _
    rw [hN, Nat.min_eq_right h2]
    exact lay_full oo hW h1
  have a := way_ge (far := N + 1) (n := o.words.length) w hL N 0 (by omega)
  have b := costs_le (C := fun i => costN (lineD s l i) o i (lay o W (min i most)) (lay o W (min (i + 1) most))) (fun i => by show costN _ _ _ _ _ ≤ 1; unfold costN; split <;> omega) N 0
  have e : lay o W (min 0 most) = 0 := by
    rw [Nat.min_eq_left (Nat.zero_le _)]
    rfl
  simp only [e] at a
  omega
/-- the counts told, the lines kept -/
structure FA (ss : List Rows) (far n high : Nat) (L : List Nat) (k : Nat) : Prop where
  len : L.length = ss.length
  step : ∀ j rows, ss[j]? = some rows → ∃ row c, rows[fst L j]? = some row ∧ (fst L (j + 1), c) ∈ row ∧ c + pr far n ss (j + 1) (fst L (j + 1)) = pr far n ss j (fst L j)
  le : ∀ j, j ≤ ss.length → fst L j ≤ n
  last : fst L ss.length = n
  many : high ≤ k ∧ k ≤ ss.length
  void : ∀ j, k ≤ j → j < ss.length → fst L (j + 1) = fst L j
  stop : k = high ∨ fst L k ≠ fst L (k - 1)
structure FInv (ss : List Rows) (far n : Nat) (L : List Nat) (i : Nat) : Prop where
  len : L.length = i
  step : ∀ j rows, j < i → ss[j]? = some rows → ∃ row c, rows[fst L j]? = some row ∧ (fst L (j + 1), c) ∈ row ∧ c + pr far n ss (j + 1) (fst L (j + 1)) = pr far n ss j (fst L j)
  le : ∀ j, j ≤ i → fst L j ≤ n
  lt : pr far n ss i (fst L i) < far
theorem FInv.nil {ss : List Rows} {far n : Nat} (h : pr far n ss 0 0 < far) : FInv ss far n [] 0 := ⟨rfl, fun j rows hj => absurd hj (Nat.not_lt_zero _), fun j hj => by
  obtain rfl : j = 0 := by omega
  exact Nat.zero_le _, h⟩
theorem FInv.app {ss : List Rows} {far n i x c : Nat} {L : List Nat} {rows : Rows} {row : List (Nat × Nat)} (f : FInv ss far n L i) (hi : ss[i]? = some rows) (hr : rows[fst L i]? = some row) (hx : (x, c) ∈ row) (he : c + pr far n ss (i + 1) x = pr far n ss i (fst L i)) (hn : x ≤ n) : FInv ss far n (L ++ [x]) (i + 1) := by
  have hl := f.len
  have e1 : ∀ j, j ≤ i → fst (L ++ [x]) j = fst L j := fun j hj => fst_app (by omega)
  have e2 : fst (L ++ [x]) (i + 1) = x := by rw [← hl]; exact fst_end
  refine ⟨by simp [hl], fun j rows' hj hs => ?_, fun j hj => ?_, ?_⟩
  · rcases Nat.lt_or_ge j i with q | q
    · rw [e1 j (by omega), e1 (j + 1) (by omega)]
      exact f.step j rows' q hs
    · obtain rfl : j = i := by omega
      rw [hi] at hs
      cases hs
      rw [e1 j (Nat.le_refl _), e2]
      exact ⟨row, c, hr, hx, he⟩
  · rcases Nat.lt_or_ge i j with q | q
    · obtain rfl : j = i + 1 := by omega
      rw [e2]
      exact hn
    · rw [e1 j q]
      exact f.le j q
  · rw [e2]
    have := f.lt
    omega
section
variable {fs : List Fn} {wf n : Nat} {m : Store} {s : Sec} {l : List Nat} {W h w : Nat} {mo : Option Nat}
theorem few_ok [HasD fs "bent" f_bent 2 [.int 30]] [Has fs "end_of" f_end_of 3] [HasD fs "room" f_room 3 [.int 30]] [Has fs "begins" f_begins 2] [Has fs "first_of" f_first_of 2] [Has fs "line_of" f_line_of 3] [Has fs "ends_from" f_ends_from 5] [Has fs "cost_of" f_cost_of 5] [Has fs "sized" f_sized 3] [Has fs "most_lines" f_most_lines 4] [Has fs "step_rows" f_step_rows 6] [Has fs "prices_of" f_prices_of 2]
    (oo : SecOk (sizedS s h w)) (hW : ∀ x ∈ s.words, x.length ≤ W) (hl : l.length ≤ 200) (hq : ∀ q, mo = some q → q ≤ 200) (hwf : 1000 < wf) :
    wp (E := ⟨fun e m' => (∃ q, mo = some q ∧ q < many (sizedS s h w) W) ∧ e = ⟨"NoLay", [("word", .str "most")]⟩ ∧ Keep none m m'⟩) (bodyN fs wf (n + 6) f_fewest_anew [encS s, encL l, .int (h : Int), .int (w : Int), .int (W : Int), mD mo] m)
    (k := ⟨fun d m' => (∀ q, mo = some q → many (sizedS s h w) W ≤ q) ∧ Keep none m m' ∧ ∃ N L k, N = max (limitN (sizedS s h w) l W mo) l.length ∧ FA (ssOf s l (sizedS s h w) W (limitN (sizedS s h w) l W mo) N) (N + 1) s.words.length h L k ∧ d = .tup [.int (pr (N + 1) s.words.length (ssOf s l (sizedS s h w) W (limitN (sizedS s h w) l W mo) N) 0 0 : Nat), encL (L.take k), tupOf (tupOf encN) (pricesL (N + 1) s.words.length (ssOf s l (sizedS s h w) W (limitN (sizedS s h w) l W mo) N))]⟩) := by
  have hlo := oo.len
  have hwl : (sizedS s h w).words = s.words := rfl
  rw [hwl] at hlo
  rw [wp_body]
  simp [f_fewest_anew, startE]
  refine (sized_ok (n := n + 4)).mono fun d m1 ⟨z1, z2⟩ => ?_
  subst z1 z2
  simp
  refine (most_ok (n := n + 1) (o := sizedS s h w) (l := l) (mo := mo) oo hW hwf).monoE (fun d m1' ⟨z1, z2, k1⟩ => ?_) fun e m1' z => z
  subst z1
  have hmb := (many_is oo hW).2
  have hlim : limitN (sizedS s h w) l W mo ≤ 200 := by
    cases mo with
    | none => show max _ _ ≤ 200; omega
    | some q => exact hq q rfl
  have hlm : many (sizedS s h w) W ≤ limitN (sizedS s h w) l W mo := by
    cases mo with
    | none => exact Nat.le_max_left _ _
    | some q => exact z2 q rfl
  generalize hT : limitN (sizedS s h w) l W mo = T at *
  obtain ⟨N, hN⟩ : ∃ N, N = max T l.length := ⟨_, rfl⟩
  have eN : (if T < l.length then (l.length : Int) else (T : Int)) = (N : Int) := by split <;> omega
  have hN2 : N ≤ 200 := by omega
  simp
  rw [eN]
  refine ⟨by unfold small62; omega, wcomp_inv (fun j acc m2 => ∃ as : List Nat, acc = as.map D.ref ∧ as.length = j ∧ (∀ q a : Nat, as[q]? = some a → RowsAt m2 a (rowsOf s l (sizedS s h w) W T q)) ∧ Keep none m1' m2) ⟨[], rfl, rfl, fun q a h => by simp at h, Keep.refl _ _⟩ (fun j x acc m2 hx ⟨as, a1, a2, a3, a4⟩ => ?_) (fun acc m2 ⟨as, a1, a2, a3, a4⟩ => ?_)⟩
  · obtain ⟨hj, rfl⟩ := upto_get hx
    subst a1
    unfold cturn
    simp
    refine (step_ok (n := n + 1) (s := s) (l := l) (o := sizedS s h w) (i := j) (W := W) (most := T) oo hwf).mono fun d m3 ⟨a, z1, z2, z3⟩ => ?_
    subst z1
    simp
    refine ⟨as ++ [a], by simp, by simp [a2], fun q b hb => ?_, a4.trans z3⟩
    rcases Nat.lt_or_ge q as.length with c | c
    · rw [List.getElem?_append_left c] at hb
      exact (a3 q b hb).keep z3
    · rw [List.getElem?_append_right c] at hb
      have hq0 : q - as.length = 0 := by
        have := (List.getElem?_eq_some_iff.mp hb).1
        simpa using this
      rw [hq0] at hb
      obtain rfl : a = b := by simpa using hb
      obtain rfl : q = j := by omega
      exact z2
  subst a1
  simp at a2
  have hsl : (ssOf s l (sizedS s h w) W T N).length = N := by simp [ssOf]
  simp
  obtain ⟨S, hS⟩ : ∃ S, S = m2.length := ⟨_, rfl⟩
  have gS : (m2 ++ [Cell.lst (as.map D.ref)])[S]? = some (Cell.lst (as.map D.ref)) := by rw [hS]; simp
  have kS : Keep none m2 (m2 ++ [Cell.lst (as.map D.ref)]) := Keep.new none _ _
  rw [← hS]
  generalize m2 ++ [Cell.lst (as.map D.ref)] = m3 at *
  have sA : StepsAt m3 S (ssOf s l (sizedS s h w) W T N) := ⟨as, gS, by rw [hsl, a2], fun j a rows g1 g2 => by
    have hj := lt_get g1
    rw [ssOf_at (by omega)] at g2
    cases g2
    exact (a3 j a g1).keep kS⟩
  refine ⟨by unfold sizeLine; omega, (prices_ok (n := n + 4) (n0 := s.words.length) sA (ssOf_ok oo) hlo.2 (by omega)).mono fun d m4 ⟨z1, k4⟩ => ?_⟩
  subst z1
  rw [hsl]
  have hp0 := pr_lt (s := s) (l := l) (most := T) (N := N) oo hW hlm (by omega)
  rw [hwl] at hp0
  obtain ⟨ss, hss⟩ : ∃ ss, ss = ssOf s l (sizedS s h w) W T N := ⟨_, rfl⟩
  have ssR : ∀ rows ∈ ss, RowsOk s.words.length rows := by rw [hss]; exact ssOf_ok oo
  rw [← hss] at sA hsl hp0 ⊢
  have sA4 := sA.keep k4
  have hPl := prices_len (far := N + 1) (n := s.words.length) ss
  have hPr := prices_row (far := N + 1) ss ssR
  have hpr : ∀ i c, pr (N + 1) s.words.length ss i c = ((pricesL (N + 1) s.words.length ss).getD i []).getD c 0 := fun i c => rfl
  generalize hP : pricesL (N + 1) s.words.length ss = P at *
  have hPi : ∀ i, i ≤ N → ∃ R, P[i]? = some R ∧ (∀ c, pr (N + 1) s.words.length ss i c = R.getD c 0) ∧ R.length = s.words.length + 1 ∧ ∀ x ∈ R, x ≤ N + 1 := fun i hi => by
    have h1 : P[i]? = some (P.getD i []) := get_getD (by omega)
    obtain ⟨q1, q2⟩ := hPr _ (List.mem_of_getElem? h1)
    exact ⟨_, h1, fun c => hpr i c, q1, q2⟩
  simp
  rw [eN]
  obtain ⟨q, hq0⟩ : ∃ q, q = m4.length := ⟨_, rfl⟩
  have gq : (m4 ++ [Cell.lst []])[q]? = some (Cell.lst []) := by rw [hq0]; simp
  have k5 : Keep none m4 (m4 ++ [Cell.lst []]) := Keep.new none _ _
  rw [← hq0]
  generalize m4 ++ [Cell.lst []] = m5 at *
  refine ⟨by unfold small62; omega, wfor_inv (fun i r m6 => ∃ (L : List Nat) (x9 x14 : Option D), r = [some (encS s), some (encL l), some (D.int h), some (D.int w), some (D.int W), some (mD mo), some (encS (sizedS s h w)), some (D.int T), some (D.int N), x9, some (D.ref S), some (D.tup (P.map (tupOf encN))), some (D.ref q), some (encN (fst L i)), x14, none, none, none] ∧ m6[q]? = some (Cell.lst (L.map encN)) ∧ FInv ss (N + 1) s.words.length L i ∧ Keep none m4 m6) ⟨[], _, _, rfl, gq, .nil hp0, k5⟩ (fun i x r m6 hx ⟨L, x9, x14, hr, g6, fI, k6⟩ => ?_) (fun r m6 ⟨L, x9, x14, hr, g6, fI, k6⟩ => ?_)⟩
  · obtain ⟨hi, rfl⟩ := upto_get hx
    have hi : i < N := by simpa using hi
    obtain ⟨as', gA, lA, hA⟩ := (sA4.keep k6).ex
    have his : ss[i]? = some ss[i] := List.getElem?_eq_getElem (by omega)
    generalize ss[i] = rows at his
    have ha : as'[i]? = some as'[i] := List.getElem?_eq_getElem (by omega)
    generalize as'[i] = a at ha
    obtain ⟨rs, gR, lR, hRr⟩ := (hA i a rows ha his).ex
    have hc := fI.le i (Nat.le_refl _)
    have rO := ssR rows (List.mem_of_getElem? his)
    have hrl := rO.len
    have hrow : rows[fst L i]? = some rows[fst L i] := List.getElem?_eq_getElem (by omega)
    generalize rows[fst L i] = row at hrow
    have hrs : rs[fst L i]? = some rs[fst L i] := List.getElem?_eq_getElem (by omega)
    generalize rs[fst L i] = rr at hrs
    have gr := hRr _ rr row hrs hrow
    obtain ⟨w1, w2, w3⟩ := rO.row row (List.mem_of_getElem? hrow)
    obtain ⟨R0, p1, p2, p3, p4⟩ := hPi i (by omega)
    obtain ⟨R1, q1, q2, q3, q4⟩ := hPi (i + 1) (by omega)
    obtain ⟨p0, hp1, hp2⟩ := pr_is his hrow w1 fI.lt
    subst hr
    unfold fturn
    simp [encN, gA, ha, gR, hrs, gr]
    have e1 : L2.atI (P.map (tupOf encN)) ((i : Int) + 1) = some (tupOf encN R1) := by
      rw [show (i : Int) + 1 = ((i + 1 : Nat) : Int) by omega, Pf.atI_nat]
      simp [q1]
    have e0 : L2.atI (P.map (tupOf encN)) (i : Int) = some (tupOf encN R0) := by
      rw [Pf.atI_nat]
      simp [p1]
    have e2 : R0[fst L i]? = some (pr (N + 1) s.words.length ss i (fst L i)) := by
      rw [p2]
      exact get_getD (by omega)
    generalize hv : pr (N + 1) s.words.length ss i (fst L i) = v at *
    refine wcomp_pure row encP (fun p => decide (p.2 + pr (N + 1) s.words.length ss (i + 1) p.1 = v)) (fun p => encN p.1) rfl (by simp [gr]) (fun p hp => ?_) ?_
    · obtain ⟨u1, u2⟩ := w3 p hp
      have e3 : R1[p.1]? = some (pr (N + 1) s.words.length ss (i + 1) p.1) := by
        rw [q2]
        exact get_getD (by omega)
      generalize pr (N + 1) s.words.length ss (i + 1) p.1 = u at *
      unfold cturn
      have hc2 : ((p.2 : Int) + (u : Int) = (v : Int)) ↔ p.2 + u = v := by omega
      simp [encP, encN, e1, e3, p1, e2, hc2]
    · obtain ⟨f0, tl, hF⟩ : ∃ f0 tl, row.filter (fun p => decide (p.2 + pr (N + 1) s.words.length ss (i + 1) p.1 = v)) = f0 :: tl := by
        cases e : row.filter (fun p => decide (p.2 + pr (N + 1) s.words.length ss (i + 1) p.1 = v)) with
        | nil =>
          have := List.filter_eq_nil_iff.mp e p0 hp1
          exact absurd (decide_eq_true hp2) this
        | cons a b => exact ⟨a, b, rfl⟩
      have hf0 := List.mem_filter.mp (show f0 ∈ row.filter (fun p => decide (p.2 + pr (N + 1) s.words.length ss (i + 1) p.1 = v)) by rw [hF]; exact List.mem_cons_self)
      have hfl := List.length_filter_le (fun p => decide (p.2 + pr (N + 1) s.words.length ss (i + 1) p.1 = v)) row
      rw [hF] at hfl ⊢
      have hLl := fI.len
      have g6' : ∀ C : List Cell, (m6 ++ C)[q]? = some (Cell.lst (L.map encN)) := fun C => by rw [List.getElem?_append_left (lt_get g6)]; exact g6
      have hqm : m4.length ≤ q := by omega
      simp [g6', encN]
      have eF : fst (L ++ [f0.1]) (i + 1) = f0.1 := by rw [← hLl]; exact fst_end
      simp at hfl
      refine ⟨by unfold sizeLine; omega, by unfold sizeLine; omega, L ++ [f0.1], by rw [eF], ?_, fI.app (c := f0.2) his hrow hf0.1 (by rw [hv]; exact of_decide_eq_true hf0.2) (w3 f0 hf0.1).1, (k6.app _).set_new hqm _⟩
      rw [get_set (g6' _)]
      simp [encN]
  · subst hr
    have hNN : ((N : Int)).toNat = N := by omega
    simp at fI
    simp
    have hLl := fI.len
    have hh1 := (many_is oo hW).1.out.1
    have hh2 : (sizedS s h w).high = h := rfl
    rw [hh2] at hh1
    have hh3 := oo.high
    rw [hh2] at hh3
    have hqm : m4.length ≤ q := by omega
    have Lf : ∀ j, j < N → L[j]? = some (fst L (j + 1)) := fun j hj => by
      rw [fst_succ]
      exact get_getD (by omega)
    refine s_while' (fun kk r m2 => ∃ (x9 x14 : Option D), r = [some (encS s), some (encL l), some (D.int h), some (D.int w), some (D.int W), some (mD mo), some (encS (sizedS s h w)), some (D.int T), some (D.int N), x9, some (D.ref S), some (D.tup (P.map (tupOf encN))), some (D.ref q), some (encN (fst L N)), x14, none, none, none] ∧ m2[q]? = some (Cell.lst ((L.take kk).map encN)) ∧ h ≤ kk ∧ kk ≤ N ∧ (∀ j, kk ≤ j → j < N → fst L (j + 1) = fst L j) ∧ Keep none m4 m2)
      (k := N) (by omega) ⟨x9, x14, rfl, by rw [List.take_of_length_le (by omega)]; exact g6, by omega, Nat.le_refl _, fun j h1 h2 => by omega, k6⟩ (fun kk r m2 ⟨y9, y14, hr, w1, w2, w3, w4, w5⟩ => ?_)
    subst hr
    have hlk : (L.take kk).length = kk := by simp; omega
    have gk1 : (List.take kk (List.map encN L)).getLast? = some (encN (fst L kk)) := by
      rw [List.getLast?_eq_getElem?, List.length_take, List.length_map, show min kk L.length - 1 = kk - 1 by omega, List.getElem?_take, if_pos (by omega), List.getElem?_map, Lf (kk - 1) (by omega), show kk - 1 + 1 = kk by omega]
      rfl
    have gk2 : h < kk → L2.atI (List.take kk (List.map encN L)) (-2) = some (encN (fst L (kk - 1))) := fun hgt => by
      rw [atI_neg2 (by simp; omega), List.length_take, List.length_map, show min kk L.length - 2 = kk - 2 by omega, List.getElem?_take, if_pos (by omega), List.getElem?_map, Lf (kk - 2) (by omega), show kk - 2 + 1 = kk - 1 by omega]
      rfl
    obtain ⟨R0, p1, p2, p3, p4⟩ := hPi 0 (by omega)
    have e2 : R0[0]? = some (pr (N + 1) s.words.length ss 0 0) := by
      rw [p2]
      exact get_getD (by omega)
    have FAk : (kk = h ∨ fst L kk ≠ fst L (kk - 1)) → FA ss (N + 1) s.words.length h L kk := fun hst => ⟨by omega, fun j rows hs => fI.step j rows (by have := lt_get hs; omega) hs, fun j hj => fI.le j (by omega), by
      rw [hsl]
      refine Classical.byContradiction fun c => ?_
      have a := fI.lt
      have b := pr_last (far := N + 1) (ss := ss) (fI.le N (Nat.le_refl _))
      rw [hsl] at b
      rw [b, if_neg c] at a
      omega, ⟨w2, by omega⟩, fun j h1 h2 => w4 j h1 (by omega), hst⟩
    have kAll : Keep none m1 m2 := ((((k1.trans a4).trans kS).trans k4).trans w5)
    have FAk2 : (kk = h ∨ ¬ fst L kk = fst L (kk - 1)) → FA (ssOf s l (sizedS s h w) W T (max T l.length)) (max T l.length + 1) s.words.length h L kk := fun hst => by
      rw [← hN, ← hss]
      exact FAk hst
    have fin2 : encN (pr (N + 1) s.words.length ss 0 0) = D.int ((pr (max T l.length + 1) s.words.length (ssOf s l (sizedS s h w) W T (max T l.length)) 0 0 : Nat) : Int) ∧ D.tup (List.take kk (List.map encN L)) = encL (List.take kk L) ∧ D.tup (List.map (tupOf encN) P) = tupOf (tupOf encN) (pricesL (max T l.length + 1) s.words.length (ssOf s l (sizedS s h w) W T (max T l.length))) := by
      rw [← hN, ← hss, hP]
      refine ⟨rfl, ?_, rfl⟩
      unfold encL tupOf
      rw [List.map_take]
    simp [w1]
    rw [show min kk L.length = kk by omega]
    refine ⟨fun hgt => ⟨_, gk1, _, gk2 hgt, ?_⟩, fun hle => ?_⟩
    · simp [encN]
      refine ⟨fun he => ?_, fun hne => ?_⟩
      · simp [w1]
        refine ⟨⟨encN (fst L kk), by rw [List.getElem?_take, if_pos (by omega), List.getElem?_map, show min kk L.length - 1 = kk - 1 by omega, Lf (kk - 1) (by omega), show kk - 1 + 1 = kk by omega]; rfl⟩, kk - 1, by omega, ?_, by omega, by omega, fun j h1 h2 => ?_, w5.set_new hqm _⟩
        · rw [get_set w1, List.dropLast_eq_take, List.length_take, List.length_map, show min kk L.length - 1 = kk - 1 by omega, List.take_take, show min (kk - 1) kk = kk - 1 by omega]
        · rcases Nat.lt_or_ge j kk with c | c
          · obtain rfl : j = kk - 1 := by omega
            rw [show kk - 1 + 1 = kk by omega]
            omega
          · exact w4 j c h2
      · refine ⟨_, ⟨R0, p1, rfl⟩, ?_⟩
        simp [e2, w1]
        exact ⟨by decide, z2, kAll, L, kk, FAk2 (.inr (by omega)), fin2⟩
    · refine ⟨_, ⟨R0, p1, rfl⟩, ?_⟩
      simp [e2, w1]
      exact ⟨by decide, z2, kAll, L, kk, FAk2 (.inl (by omega)), fin2⟩
end
end Cs

set_option maxHeartbeats 0
set_option exponentiation.threshold 3000
/-! Ca7: what the counts told are worth, plainly. -/
namespace Cs
open PySem L2 Pf
theorem costs_snoc {C : Nat → Nat} : ∀ (k i : Nat), costs C i (k + 1) = costs C i k + C (i + k)
  | 0, i => by
    show C i + 0 = 0 + C (i + 0)
    rw [Nat.add_zero, Nat.zero_add, Nat.add_zero]
  | k + 1, i => by
    show C i + costs C (i + 1) (k + 1) = (C i + costs C (i + 1) k) + C (i + (k + 1))
    rw [costs_snoc k (i + 1), show i + 1 + k = i + (k + 1) by omega]
    omega
theorem costs_filter {C : Nat → Nat} {p : Nat → Bool} (h : ∀ i, C i = if p i then 1 else 0) : ∀ M, ((List.range M).filter p).length = costs C 0 M
  | 0 => rfl
  | M + 1 => by
    rw [List.range_succ, List.filter_append, List.length_append, costs_filter h M, costs_snoc, Nat.zero_add, h M]
    by_cases c : p M <;> simp [c]
theorem costs_tail {C : Nat → Nat} {M : Nat} : ∀ d, (∀ i, M ≤ i → i < M + d → C i = 0) → costs C 0 (M + d) = costs C 0 M
  | 0, _ => rfl
  | d + 1, h => by
    rw [show M + (d + 1) = (M + d) + 1 from rfl, costs_snoc, costs_tail d (fun i a b => h i a (by omega)), Nat.zero_add, h (M + d) (by omega) (by omega)]
    rfl
section
variable {s o : Sec} {l L : List Nat} {W T N k far high : Nat}
theorem fst_take {j : Nat} (h : j ≤ k) : fst (L.take k) j = fst L j := by
  unfold fst
  split
  · rfl
  · rw [List.getD_eq_getElem?_getD, List.getD_eq_getElem?_getD, List.getElem?_take, if_pos (by omega)]
theorem ssOf_len : (ssOf s l o W T N).length = N := by simp [ssOf]
theorem FA.at (F : FA (ssOf s l o W T N) far o.words.length high L k) {j : Nat} (hj : j < N) : fst L (j + 1) ∈ endsL o W T j (fst L j) ∧ costN (lineD s l j) o j (fst L j) (fst L (j + 1)) + pr far o.words.length (ssOf s l o W T N) (j + 1) (fst L (j + 1)) = pr far o.words.length (ssOf s l o W T N) j (fst L j) := by
  have hN : (ssOf s l o W T N).length = N := ssOf_len
  obtain ⟨row, c, h1, h2, h3⟩ := F.step j _ (ssOf_at hj)
  rw [rowsOf_at (F.le j (by omega))] at h1
  cases h1
  obtain ⟨e, he, hq⟩ := List.mem_map.mp h2
  have q1 : e = fst L (j + 1) := congrArg Prod.fst hq
  have q2 : costN (lineD s l j) o j (fst L j) e = c := congrArg Prod.snd hq
  subst q2
  rw [q1] at he h3
  exact ⟨he, h3⟩
theorem FA.flat (F : FA (ssOf s l o W T N) far o.words.length high L k) : ∀ d, k + d ≤ N → fst L (k + d) = fst L k
  | 0, _ => rfl
  | d + 1, h => by
    rw [show k + (d + 1) = (k + d) + 1 from rfl, F.void (k + d) (by omega) (by rw [ssOf_len]; omega), FA.flat F d (by omega)]
structure Told (o : Sec) (W T : Nat) (L : List Nat) (k : Nat) : Prop where
  rise : ∀ i, i < k → fst L i ≤ fst L (i + 1) ∧ fst L (i + 1) ≤ o.words.length
  room : ∀ i, i < k → (wsum o.words (fst L i) (fst L (i + 1)) : Int) ≤ roomN o W i + 1
  all : fst L k = o.words.length
  many : o.high ≤ k ∧ k ≤ T
  void : o.high < k → fst L (k - 1) < fst L k
theorem room_nn {i : Nat} : 0 ≤ roomN o W i := by
  unfold roomN
  omega
theorem FA.told (F : FA (ssOf s l o W T N) far o.words.length o.high L k) (hT : o.high ≤ T) (hTN : T ≤ N) : Told o W T L k := by
  have hN : (ssOf s l o W T N).length = N := ssOf_len
  have hk := F.many
  rw [hN] at hk
  have rise : ∀ i, i < N → fst L i ≤ fst L (i + 1) ∧ fst L (i + 1) ≤ o.words.length := fun i hi => endsL_in (F.le i (by omega)) (F.at hi).1
  have hkT : k ≤ T := by
    refine Classical.byContradiction fun c => ?_
    rcases F.stop with h | h
    · omega
    · have := (F.at (j := k - 1) (by omega)).1
      unfold endsL at this
      rw [if_pos (by omega)] at this
      have := List.mem_singleton.mp this
      rw [show k - 1 + 1 = k by omega] at this
      exact h this
  refine ⟨fun i hi => rise i (by omega), fun i hi => ?_, ?_, ⟨hk.1, hkT⟩, fun h => ?_⟩
  · have he := (F.at (j := i) (by omega)).1
    have hr := rise i (by omega)
    unfold endsL at he
    rw [if_neg (by omega)] at he
    obtain ⟨q, hq, e⟩ := List.mem_map.mp he
    have hq := List.mem_range.mp hq
    have I := ends (ws := o.words) (a := fst L i) (sp := roomN o W i) (F.le i (by omega))
    have e : fst L i + q = fst L (i + 1) := e
    rcases Nat.eq_zero_or_pos q with z | z
    · rw [show fst L (i + 1) = fst L i by omega, wsum_self]
      have := room_nn (o := o) (W := W) (i := i)
      omega
    · have := I.fits (fst L (i + 1) - 1) (by omega) (by omega)
      rw [show fst L (i + 1) - 1 + 1 = fst L (i + 1) by omega] at this
      exact this
  · have a := F.flat (N - k) (by omega)
    rw [show k + (N - k) = N by omega] at a
    have b := F.last
    rw [hN] at b
    omega
  · rcases F.stop with q | q
    · omega
    · have := (rise (k - 1) (by omega)).1
      rw [show k - 1 + 1 = k by omega] at this
      omega
theorem FA.cost (F : FA (ssOf s l o W T N) far o.words.length high L k) : pr far o.words.length (ssOf s l o W T N) 0 0 = costs (fun i => costN (lineD s l i) o i (fst L i) (fst L (i + 1))) 0 N := by
  have key : ∀ d, d ≤ N → pr far o.words.length (ssOf s l o W T N) 0 0 = costs (fun i => costN (lineD s l i) o i (fst L i) (fst L (i + 1))) 0 d + pr far o.words.length (ssOf s l o W T N) d (fst L d) := fun d => by
    induction d with
    | zero => intro _; show _ = 0 + _; rw [Nat.zero_add]; rfl
    | succ d ih =>
      intro hd
      have := (F.at (j := d) (by omega)).2
      rw [ih (by omega), costs_snoc, Nat.zero_add, ← this]
      omega
  have h := key N (Nat.le_refl _)
  have b := F.last
  rw [ssOf_len] at b
  rw [b] at h
  have c := pr_last (far := far) (n := o.words.length) (ss := ssOf s l o W T N) (c := o.words.length) (Nat.le_refl _)
  rw [ssOf_len, if_pos rfl] at c
  rw [c] at h
  exact h
theorem line_C {i : Nat} (hk : k ≤ L.length) (hv : k ≤ i → fst L (i + 1) = fst L i) : lineD o (L.take k) i = lineC o i (fst L i) (fst L (i + 1)) := by
  have hl : (L.take k).length = k := by
    rw [List.length_take]
    omega
  unfold lineD lineC
  rcases Nat.lt_or_ge i k with c | c
  · have e : (L.take k).getD i 0 = fst L (i + 1) := by
      rw [← fst_succ]
      exact fst_take (by omega)
    rw [if_neg (by omega), e, fst_take (by omega)]
  · rw [if_pos (by omega), if_pos (hv c).symm]
theorem FA.number (F : FA (ssOf s l o W T N) far o.words.length high L k) (hkT : k ≤ T) (hN : N = max T l.length) : (anew s l o (L.take k)).length = pr far o.words.length (ssOf s l o W T N) 0 0 := by
  have hl := F.len
  rw [ssOf_len] at hl
  have hM : max l.length k ≤ N := by omega
  rw [F.cost]
  have hlk : (L.take k).length = k := by
    rw [List.length_take]
    omega
  have e1 : anew s l o (L.take k) = (List.range (max l.length k)).filter fun i => !decide (lineC o i (fst L i) (fst L (i + 1)) = lineD s l i) := by
    unfold anew
    rw [hlk]
    refine List.filter_congr fun i hi => ?_
    have hi := List.mem_range.mp hi
    rw [line_C (by omega) fun h => F.void i h (by rw [ssOf_len]; omega)]
    by_cases c : lineD s l i = lineC o i (fst L i) (fst L (i + 1))
    · simp [c]
    · simp [c]
      exact fun z => c z.symm
  rw [e1, costs_filter (C := fun i => costN (lineD s l i) o i (fst L i) (fst L (i + 1))) (fun i => by
    show costN _ _ _ _ _ = _
    unfold costN
    by_cases c : lineC o i (fst L i) (fst L (i + 1)) = lineD s l i
    · simp [c]
    · simp [c])]
  have t := costs_tail (C := fun i => costN (lineD s l i) o i (fst L i) (fst L (i + 1))) (M := max l.length k) (N - max l.length k) fun i h1 h2 => by
    show costN _ _ _ _ _ = 0
    unfold costN
    have e2 : lineD s l i = .non := by
      unfold lineD
      rw [if_pos (by omega)]
    have e3 : lineC o i (fst L i) (fst L (i + 1)) = .non := by
      unfold lineC
      rw [if_pos (F.void i (by omega) (by rw [ssOf_len]; omega)).symm]
    rw [e2, e3, if_pos rfl]
  rw [show max l.length k + (N - max l.length k) = N by omega] at t
  exact t.symm
/-- a lay that is kept -/
structure KeptBy (s o : Sec) (W T : Nat) (l : List Nat) : Prop where
  le : ∀ i, i ≤ l.length → fst l i ≤ o.words.length
  step : ∀ i, i < l.length → fst l i ≤ fst l (i + 1) ∧ fst l (i + 1) ≤ endE o.words (fst l i) (roomN o W i)
  same : ∀ i, i < l.length → lineC o i (fst l i) (fst l (i + 1)) = lineD s l i
  all : fst l l.length = o.words.length
  len : l.length ≤ T
theorem KeptBy.zero (K : KeptBy s o W T l) (hTN : T ≤ N) : pr far o.words.length (ssOf s l o W T N) 0 0 = 0 := by
  have hl := K.len
  have hN : (ssOf s l o W T N).length = N := ssOf_len
  have w : Way (ssOf s l o W T N) (fun i => fst l (min i l.length)) (fun i => costN (lineD s l i) o i (fst l (min i l.length)) (fst l (min (i + 1) l.length))) := ⟨fun i rows hi => by
    have hiN : i < N := by have := lt_get hi; omega
    rw [ssOf_at hiN] at hi
    cases hi
    refine ⟨_, rowsOf_at (K.le _ (Nat.min_le_right _ _)), rowOf_in ?_⟩
    unfold endsL
    by_cases c : T ≤ i
    · rw [if_pos c, Nat.min_eq_right (by omega), Nat.min_eq_right (by omega)]
      exact List.mem_singleton.mpr rfl
    · rw [if_neg c]
      rcases Nat.lt_or_ge i l.length with q | q
      · rw [Nat.min_eq_left (by omega), Nat.min_eq_left (by omega)]
        have hle := K.step i q
        exact List.mem_map.mpr ⟨fst l (i + 1) - fst l i, List.mem_range.mpr (by omega), by omega⟩
      · rw [Nat.min_eq_right (by omega), Nat.min_eq_right (by omega)]
        have hle := (ends (ws := o.words) (a := fst l l.length) (sp := roomN o W i) (K.le _ (Nat.le_refl _))).le
        exact List.mem_map.mpr ⟨0, List.mem_range.mpr (by omega), rfl⟩⟩
  have hL : (fun i => fst l (min i l.length)) (ssOf s l o W T N).length = o.words.length := by
    show fst l (min _ l.length) = _
    rw [hN, Nat.min_eq_right (by omega)]
    exact K.all
  have a := way_ge (far := far) (n := o.words.length) w hL N 0 (by omega)
  have z := costs_tail (C := fun i => costN (lineD s l i) o i (fst l (min i l.length)) (fst l (min (i + 1) l.length))) (M := 0) N fun i _ _ => by
    show costN _ _ _ _ _ = 0
    unfold costN
    rcases Nat.lt_or_ge i l.length with q | q
    · rw [Nat.min_eq_left (by omega), Nat.min_eq_left (by omega), if_pos (K.same i q)]
    · rw [Nat.min_eq_right (by omega), Nat.min_eq_right (by omega)]
      have e1 : lineD s l i = .non := by
        unfold lineD
        rw [if_pos q]
      have e2 : lineC o i (fst l l.length) (fst l l.length) = .non := by
        unfold lineC
        rw [if_pos rfl]
      rw [e1, e2, if_pos rfl]
  rw [Nat.zero_add] at z
  rw [z] at a
  have e : fst l (min 0 l.length) = 0 := by
    rw [Nat.zero_min]
    rfl
  simp only [e] at a
  exact Nat.le_zero.mp a
end
end Cs

set_option maxHeartbeats 0
set_option exponentiation.threshold 3000
/-! Ca8: a right paper is taken. -/
namespace Cs
open PySem L2 Pf
section
variable {fs : List Fn} {wf n : Nat} {m : Store} {s o : Sec} {l L : List Nat} {W T N k i : Nat}
theorem nums_ok [Has fs "is_number" f_is_number 1] (hl : l.length ≤ 250) : wp (bodyN fs wf (n + 2) f_is_numbers [encL l] m) (k := ⟨fun d m' => d = .bl true ∧ m' = m⟩) := by
  rw [wp_body]
  simp [f_is_numbers, startE]
  refine wcomp_map l encN (fun _ => D.bl true) rfl (by simp) (fun a _ => ?_) ?_
  · unfold cturn
    simp [encN]
    refine (number_ok (n := n)).mono fun d m1 ⟨z1, z2⟩ => ?_
    subst z1 z2
    simp
  · have e : (l.map fun _ => D.bl true) = (l.map fun _ => true).map D.bl := by rw [List.map_map]; rfl
    simp
    rw [e]
    refine ⟨by unfold sizeLine; omega, _, optAll_bls, ?_⟩
    simp
theorem letstold_ok [HasD fs "room" f_room 3 [.int 30]] [Has fs "begins" f_begins 2] [Has fs "long_of" f_long_of 1] [Has fs "is_number" f_is_number 1] [Has fs "ask_line" f_ask_line 5] (oo : SecOk o) (F : Told o W T L k) (hk : k ≤ L.length) (hT : T ≤ 250) : wp (bodyN fs wf (n + 4) f_lets_lay [encS o, encL (L.take k), .int (W : Int)] m) (k := ⟨fun d m' => d = .int (k : Nat) ∧ Keep none m m'⟩) := by
  have hl := oo.len
  have hm := F.many
  have hlk : (L.take k).length = k := by
    rw [List.length_take]
    omega
  have hf : ∀ j, j ≤ k → fst (L.take k) j = fst L j := fun j hj => fst_take hj
  obtain ⟨l, hl0⟩ : ∃ l, l = L.take k := ⟨_, rfl⟩
  rw [← hl0] at hlk hf ⊢
  rw [wp_body]
  simp [f_lets_lay, startE]
  refine wcomp_map l encN (fun _ => D.bl true) rfl (by simp) (fun a _ => ?_) ?_
  · unfold cturn
    simp [encN]
    refine (number_ok (n := n + 2)).mono fun d m1 ⟨z1, z2⟩ => ?_
    subst z1 z2
    simp
  · have e : (l.map fun _ => D.bl true) = (l.map fun _ => true).map D.bl := by rw [List.map_map]; rfl
    simp
    rw [e]
    refine ⟨by unfold sizeLine; omega, _, optAll_bls, ?_⟩
    simp
    refine wfor_typed l.zipIdx (fun p => D.tup [.int (p.2 : Int), encN p.1]) rfl (fun i r m1 => ∃ x4 x5, r = [some (encS o), some (encL l), some (.int W), some (.int (fst l i : Nat)), x4, x5, none, none, none] ∧ m1 = m) ⟨_, _, rfl, rfl⟩ (fun i x r m1 hx ⟨x4, x5, hr, hm1⟩ => ?_) (fun r m1 ⟨x4, x5, hr, hm1⟩ => ?_)
    · subst hr hm1
      obtain ⟨a, j⟩ := x
      obtain ⟨hji, ha⟩ := zip_at hx
      subst hji
      have hi := lt_get ha
      have ea : fst l (j + 1) = a := fst_at ha
      obtain ⟨r1, r2⟩ := F.rise j (by omega)
      have r3 := F.room j (by omega)
      rw [← hf (j + 1) (by omega), ea, ← hf j (by omega)] at r1 r3
      rw [← hf (j + 1) (by omega), ea] at r2
      unfold fturn
      simp [encN]
      refine (ask_ok (n := n) oo r1 r2 r3).mono fun d m2 ⟨z1, z2⟩ => ?_
      subst z1 z2
      simp [ea, encN]
    · subst hr hm1
      have hz : fst l l.zipIdx.length = o.words.length := by rw [List.length_zipIdx, hlk, hf k (Nat.le_refl _), F.all]
      rw [hz]
      simp [hlk]
      refine ⟨by omega, fun _ => ⟨fun hv => ?_, fun _ => Keep.refl _ _⟩⟩
      have hh := oo.high
      obtain ⟨q, hq⟩ : ∃ q, k = q + 2 := ⟨k - 2, by omega⟩
      have g1 : l[q + 1]? = some (l.getD (q + 1) 0) := get_getD (by omega)
      have g2 : l[q]? = some (l.getD q 0) := get_getD (by omega)
      have hv := F.void hv
      rw [← hf (k - 1) (by omega), ← hf k (by omega), hq, show q + 2 - 1 = q + 1 by omega, show q + 2 = (q + 1) + 1 by omega, fst_succ, fst_succ] at hv
      refine ⟨_, by rw [List.getLast?_eq_getElem?, hlk, hq]; exact g1, _, by rw [atI_neg2 (by omega), hlk, hq]; exact g2, ?_⟩
      generalize l.getD (q + 1) 0 = u at *
      generalize l.getD q 0 = v at *
      simp [encN]
      exact ⟨by omega, fun _ => ⟨by rw [hlk], Keep.refl _ _⟩⟩
theorem islay_ok [HasD fs "room" f_room 3 [.int 30]] [Has fs "begins" f_begins 2] [Has fs "long_of" f_long_of 1] [Has fs "is_number" f_is_number 1] [Has fs "ask_line" f_ask_line 5] [HasD fs "lets_lay" f_lets_lay 3 [.int 30]] (oo : SecOk o) (F : Told o W T L k) (hk : k ≤ L.length) (hT : T ≤ 250) : wp (bodyN fs wf (n + 5) f_is_lay [encS o, encL (L.take k), .int (W : Int), .int (T : Int)] m) (k := ⟨fun d m' => d = .bl true ∧ Keep none m m'⟩) := by
  have hm := F.many
  rw [wp_body]
  simp [f_is_lay, startE]
  refine (letstold_ok (n := n) oo F hk hT).mono fun d m1 ⟨z1, z2⟩ => ?_
  subst z1
  simp
  exact ⟨by omega, z2⟩
theorem askrows_ok [Has fs "is_number" f_is_number 1] [Has fs "is_numbers" f_is_numbers 1] {P : List (List Nat)} {q c : Nat} (hP : P.length = q) (hq : q ≤ 250) (hc : c ≤ 100) (hr : ∀ R ∈ P, R.length = c) : wp (bodyN fs wf (n + 3) f_ask_rows [tupOf (tupOf encN) P, .int (q : Int), .int (c : Int)] m) (k := ⟨fun d m' => d = .non ∧ m' = m⟩) := by
  rw [wp_body]
  simp [f_ask_rows, startE, hP]
  refine ⟨by unfold small62; omega, wfor_inv (fun i r m1 => m1 = m ∧ ∃ x, r = [some (tupOf (tupOf encN) P), some (.int q), some (.int c), x]) ⟨rfl, _, rfl⟩ (fun i x r m1 hx ⟨hm1, x3, hr1⟩ => ?_) (fun r m1 ⟨hm1, x3, hr1⟩ => ?_)⟩
  · obtain ⟨hi, rfl⟩ := upto_get hx
    subst hr1 hm1
    have hi : i < P.length := by simpa [hP] using hi
    have g : P[i]? = some P[i] := List.getElem?_eq_getElem hi
    have hR := hr _ (List.getElem_mem hi)
    generalize P[i] = R at *
    have e1 : L2.atI (P.map (tupOf encN)) (i : Int) = some (tupOf encN R) := by
      rw [Pf.atI_nat]
      simp [g]
    unfold fturn
    simp [hP, e1]
    refine ⟨by omega, fun _ => ⟨by omega, fun _ => ⟨R, g, ?_⟩⟩⟩
    refine (nums_ok (n := n) (l := R) (by omega)).mono fun d m1 ⟨z1, z2⟩ => ?_
    subst z1 z2
    simp [e1, hR]
    exact ⟨R, g, by rw [hR]⟩
  · subst hr1 hm1
    simp
theorem isprice_ok {a : Nat} {rows : Rows} {R0 R1 : List Nat} (hA : RowsAt m a rows) (h0 : R0.length = rows.length) (hl : rows.length ≤ 200) (hrow : ∀ c row, rows[c]? = some row → row.length ≤ 200 ∧ ∀ p ∈ row, p.1 < R1.length ∧ R0.getD c 0 ≤ p.2 + R1.getD p.1 0) : wp (bodyN fs wf (n + 1) f_is_price [.ref a, tupOf encN R0, tupOf encN R1] m) (k := ⟨fun d m' => d = .bl true ∧ m' = m⟩) := by
  obtain ⟨rs, g1, g2, g3⟩ := hA.ex
  rw [wp_body]
  simp [f_is_price, startE, g1]
  refine wfor_typed rs.zipIdx (fun p => D.tup [.int (p.2 : Int), .ref p.1]) (by rw [enumD_map]) (fun i r m1 => m1 = m ∧ ∃ x3 x4, r = [some (.ref a), some (tupOf encN R0), some (tupOf encN R1), x3, x4, none, none, none]) ⟨rfl, _, _, rfl⟩ (fun i x r m1 hx ⟨hm1, x3, x4, hr⟩ => ?_) (fun r m1 ⟨hm1, x3, x4, hr⟩ => ?_)
  · subst hr hm1
    obtain ⟨b, j⟩ := x
    obtain ⟨hji, hb⟩ := zip_at hx
    subst hji
    have hj := lt_get hb
    have hrj : rows[j]? = some rows[j] := List.getElem?_eq_getElem (by omega)
    generalize rows[j] = row at hrj
    have gb := g3 j b row hb hrj
    obtain ⟨w1, w2⟩ := hrow j row hrj
    have e0 : R0[j]? = some (R0.getD j 0) := get_getD (by omega)
    unfold fturn
    simp [g1, gb]
    refine wcomp_map row encP (fun p => D.bl false) rfl (by simp [gb]) (fun p hp => ?_) ?_
    · obtain ⟨u1, u2⟩ := w2 p hp
      have e1 : R1[p.1]? = some (R1.getD p.1 0) := get_getD u1
      generalize R1.getD p.1 0 = u at *
      generalize R0.getD j 0 = v at *
      unfold cturn
      simp [encP, encN, e0, e1]
      omega
    · have e : (row.map fun _ => D.bl false) = (row.map fun _ => false).map D.bl := by rw [List.map_map]; rfl
      simp
      rw [e]
      refine ⟨by unfold sizeLine; omega, _, optAll_bls, ?_⟩
      simp
  · subst hr hm1
    simp [g1]
theorem asked_ok [HasD fs "bent" f_bent 2 [.int 30]] [Has fs "end_of" f_end_of 3] [HasD fs "room" f_room 3 [.int 30]] [Has fs "begins" f_begins 2] [Has fs "first_of" f_first_of 2] [Has fs "line_of" f_line_of 3] [Has fs "ends_from" f_ends_from 5] [Has fs "cost_of" f_cost_of 5] [Has fs "sized" f_sized 3] [Has fs "most_lines" f_most_lines 4] [Has fs "step_rows" f_step_rows 6] [Has fs "long_of" f_long_of 1] [Has fs "is_number" f_is_number 1] [Has fs "ask_line" f_ask_line 5] [HasD fs "lets_lay" f_lets_lay 3 [.int 30]] [Has fs "is_numbers" f_is_numbers 1] [Has fs "is_lay" f_is_lay 4] [Has fs "ask_rows" f_ask_rows 3] [Has fs "is_price" f_is_price 3] [Has fs "anew_lines" f_anew_lines 5]
    {h w N k v : Nat} {L : List Nat} {mo : Option Nat} {ss : List Rows} (oo : SecOk (sizedS s h w)) (hW : ∀ x ∈ s.words, x.length ≤ W) (hl : l.length ≤ 200) (hq : ∀ q, mo = some q → q ≤ 200) (hmq : ∀ q, mo = some q → many (sizedS s h w) W ≤ q) (hwf : 1000 < wf)
    (hN : N = max (limitN (sizedS s h w) l W mo) l.length) (hss : ss = ssOf s l (sizedS s h w) W (limitN (sizedS s h w) l W mo) N) (F : FA ss (N + 1) s.words.length h L k) (hv : v = pr (N + 1) s.words.length ss 0 0) :
    wp (bodyN fs wf (n + 7) f_lets_anew [encS s, encL l, .int (h : Int), .int (w : Int), .tup [.int (v : Int), encL (L.take k), tupOf (tupOf encN) (pricesL (N + 1) s.words.length ss)], .int (W : Int), mD mo] m)
    (k := ⟨fun d m' => d = .int (v : Int) ∧ Keep none m m'⟩) := by
  have hlo := oo.len
  have hwl : (sizedS s h w).words = s.words := rfl
  rw [hwl] at hlo
  rw [wp_body]
  simp [f_lets_anew, startE]
  refine (sized_ok (n := n + 5)).mono fun d m1 ⟨z1, z2⟩ => ?_
  subst z1 z2
  simp
  refine (most_ok (n := n + 2) (o := sizedS s h w) (l := l) (mo := mo) oo hW hwf).monoE (fun d m2 ⟨z1, z2, k1⟩ => ?_) fun e m2 ⟨⟨q, q1, q2⟩, _⟩ => ?_
  · subst z1
    have hmb := (many_is oo hW).2
    have hlim : limitN (sizedS s h w) l W mo ≤ 200 := by
      cases mo with
      | none => show max _ _ ≤ 200; omega
      | some q => exact hq q rfl
    have hlm : many (sizedS s h w) W ≤ limitN (sizedS s h w) l W mo := by
      cases mo with
      | none => exact Nat.le_max_left _ _
      | some q => exact hmq q rfl
    generalize hT : limitN (sizedS s h w) l W mo = T at *
    simp
    refine (number_ok (n := n + 5)).mono fun d m3 ⟨z1, z2⟩ => ?_
    subst z1 z2
    simp
    have hkL : k ≤ L.length := by
      rw [F.len]
      exact F.many.2
    have hLl : L.length ≤ 200 := by
      rw [F.len, hss, ssOf_len]
      omega
    refine (nums_ok (n := n + 4) (l := L.take k) (by rw [List.length_take]; omega)).mono fun d m3 ⟨z1, z2⟩ => ?_
    subst z1 z2
    simp
    have F' : FA (ssOf s l (sizedS s h w) W T N) (N + 1) (sizedS s h w).words.length (sizedS s h w).high L k := by
      rw [← hss]
      exact F
    have hhT : (sizedS s h w).high ≤ T := by
      have := (many_is oo hW).1.out.1
      omega
    have TT := F'.told hhT (by omega)
    refine (islay_ok (n := n + 1) oo TT hkL (by omega)).mono fun d m3 ⟨z1, k3⟩ => ?_
    subst z1
    simp
    have eN : (if T < l.length then (l.length : Int) else (T : Int)) = (N : Int) := by split <;> omega
    have hN2 : N ≤ 200 := by omega
    rw [eN]
    have hsl : ss.length = N := by rw [hss, ssOf_len]
    have ssR : ∀ rows ∈ ss, RowsOk s.words.length rows := by rw [hss]; exact ssOf_ok oo
    have hPl := prices_len (far := N + 1) (n := s.words.length) ss
    have hPr := prices_row (far := N + 1) ss ssR
    have hpr : ∀ i c, pr (N + 1) s.words.length ss i c = ((pricesL (N + 1) s.words.length ss).getD i []).getD c 0 := fun i c => rfl
    have num : (anew s l (sizedS s h w) (L.take k)).length = v := by
      rw [hv, hss]
      exact F'.number TT.many.2 hN
    have hlast := pr_last (far := N + 1) (n := s.words.length) (ss := ss) (c := s.words.length) (Nat.le_refl _)
    rw [if_pos rfl, hsl] at hlast
    have hle : ∀ j c row p, j < N → c ≤ s.words.length → (rowsOf s l (sizedS s h w) W T j)[c]? = some row → p ∈ row → pr (N + 1) s.words.length ss j c ≤ p.2 + pr (N + 1) s.words.length ss (j + 1) p.1 := fun j c row p hj hc hr hp => pr_le (by rw [hss]; exact ssOf_at hj) hr hp
    generalize hP : pricesL (N + 1) s.words.length ss = P at *
    have hPi : ∀ i, i ≤ N → ∃ R, P[i]? = some R ∧ (∀ c, pr (N + 1) s.words.length ss i c = R.getD c 0) ∧ R.length = s.words.length + 1 ∧ ∀ x ∈ R, x ≤ N + 1 := fun i hi => by
      have h1 : P[i]? = some (P.getD i []) := get_getD (by omega)
      obtain ⟨q1, q2⟩ := hPr _ (List.mem_of_getElem? h1)
      exact ⟨_, h1, fun c => hpr i c, q1, q2⟩
    rw [show (N : Int) + 1 = ((N + 1 : Nat) : Int) by omega, show (s.words.length : Int) + 1 = ((s.words.length + 1 : Nat) : Int) by omega]
    refine (askrows_ok (n := n + 3) (P := P) (q := N + 1) (c := s.words.length + 1) (by omega) (by omega) (by omega) (fun R hR => (hPr R hR).1)).mono fun d m4 ⟨z1, z2⟩ => ?_
    subst z1 z2
    simp
    rw [eN]
    refine ⟨by unfold small62; omega, wfor_inv (fun i r m5 => Keep none m4 m5 ∧ ∃ x13, r = [some (encS s), some (encL l), some (.int h), some (.int w), some (.tup [.int v, encL (L.take k), tupOf (tupOf encN) P]), some (.int W), some (mD mo), some (encS (sizedS s h w)), some (.int T), some (.int v), some (encL (L.take k)), some (tupOf (tupOf encN) P), some (.int N), x13]) ⟨Keep.refl _ _, _, rfl⟩ (fun i x r m5 hx ⟨k5, x13, hr⟩ => ?_) (fun r m5 ⟨k5, x13, hr⟩ => ?_)⟩
    · obtain ⟨hi, rfl⟩ := upto_get hx
      have hi : i < N := by simpa using hi
      subst hr
      unfold fturn
      simp
      refine (step_ok (n := n + 2) (s := s) (l := l) (o := sizedS s h w) (i := i) (W := W) (most := T) oo hwf).mono fun d m6 ⟨a, z1, z2, z3⟩ => ?_
      subst z1
      obtain ⟨R0, p1, p2, p3, p4⟩ := hPi i (by omega)
      obtain ⟨R1, q1, q2, q3, q4⟩ := hPi (i + 1) (by omega)
      have e1 : L2.atI P ((i : Int) + 1) = some R1 := by
        rw [show (i : Int) + 1 = ((i + 1 : Nat) : Int) by omega, Pf.atI_nat]
        exact q1
      have e0 : L2.atI (P.map (tupOf encN)) (i : Int) = some (tupOf encN R0) := by
        rw [Pf.atI_nat]
        simp [p1]
      simp [e0, p1]
      refine ⟨R1, e1, ?_⟩
      have rO := rows_ok (s := s) (l := l) (W := W) (most := T) (i := i) oo
      have rl : (rowsOf s l (sizedS s h w) W T i).length = s.words.length + 1 := rO.len
      refine (isprice_ok (n := n + 5) (R0 := R0) (R1 := R1) z2 (by rw [rl, p3]) (by omega) (fun c row hr => ?_)).mono fun d m7 ⟨z1, z4⟩ => ?_
      · have hc := lt_get hr
        obtain ⟨w1, w2, w3⟩ := rO.row row (List.mem_of_getElem? hr)
        refine ⟨by omega, fun p hp => ?_⟩
        have g1 : p.1 ≤ s.words.length := (w3 p hp).1
        refine ⟨by omega, ?_⟩
        rw [← p2, ← q2]
        exact hle i c row p hi (by omega) hr hp
      · subst z1 z4
        simp
        exact k5.trans z3
    · subst hr
      simp
      refine (anew_ok (n := n + 3) (s := s) (l := l) (k := L.take k) hl (by rw [List.length_take]; omega)).mono fun d m6 ⟨z1, z2⟩ => ?_
      subst z1 z2
      obtain ⟨R0, p1, p2, p3, p4⟩ := hPi 0 (by omega)
      obtain ⟨RN, q1, q2, q3, q4⟩ := hPi N (by omega)
      have e2 : R0[0]? = some v := by
        rw [hv, p2]
        exact get_getD (by omega)
      have e3 : RN[s.words.length]? = some 0 := by
        rw [← hlast, q2]
        exact get_getD (by omega)
      have e4 : P.getLast? = some RN := by
        rw [List.getLast?_eq_getElem?, hPl, hsl]
        exact q1
      have e5 : RN.getLast? = some 0 := by
        rw [List.getLast?_eq_getElem?, q3]
        exact e3
      simp [num]
      refine ⟨R0, p1, v, e2, RN, e4, 0, e5, ?_⟩
      simp [encN]
      exact (k1.trans k3).trans k5
  · exact absurd (hmq q q1) (by omega)
end
end Cs

set_option maxHeartbeats 0
set_option exponentiation.threshold 3000
/-! Cs4: books, sections one behind the other. -/
namespace Cs
open PySem L2 Pf
/-- _law_bent: 0 section_here, 1 width, 2 found -/
def f_l_bent : Fn := ⟨"_law_bent", 2, 3, [],
  (.seq (.set (.name 2) (.lst .nil))
  (.seq (.whl (.or (.cmp .Lt (.bif .len (.cons (.var 2) .nil)) (.ix (.var 0) (.cst (.int 1)))) (.cmp .Lt (.ix (.var 2) (.neg (.cst (.int 1)))) (.bif .len (.cons (.ix (.var 0) (.cst (.int 3))) .nil))))
    (.expr (.meth .append (.var 2) (.cons (.call "_law_fit" (.cons (.var 0) (.cons (.ite (.cmp .NotEq (.var 2) (.lst .nil)) (.ix (.var 2) (.neg (.cst (.int 1)))) (.cst (.int 0))) (.cons (.bif .len (.cons (.var 2) .nil)) (.cons (.var 1) .nil))))) .nil))))
  (.ret (.bif .tuple (.cons (.var 2) .nil)))))⟩
/-- begin_from: 0 lines, 1 high, 2 line, 3 left -/
def f_begin_from : Fn := ⟨"begin_from", 3, 4, [],
  (.seq (.set (.name 3) (.bin .Sub (.var 0) (.bin .Mod (.var 2) (.var 0))))
  (.ret (.ite (.cmp .LtE (.var 1) (.var 3)) (.var 2) (.bin .Add (.var 2) (.var 3)))))⟩
/-- spread: 0 book, 1 line, 2 width, 3 lines, 4 sections, 5 found, 6 here, 7 section, 8 many -/
def f_spread : Fn := ⟨"spread", 2, 9, [(.int 0)],
  (.seq (.set (.tup [2, 3, 4]) (.var 0))
  (.seq (.set (.name 5) (.lst .nil))
  (.seq (.set (.name 6) (.var 1))
  (.seq (.for_ (.name 7) (.seq (.var 4))
    (.seq (.set (.name 6) (.call "begin_from" (.cons (.var 3) (.cons (.ix (.var 7) (.cst (.int 1))) (.cons (.var 6) .nil)))))
    (.seq (.set (.name 8) (.bif .len (.cons (.call "bent" (.cons (.var 7) (.cons (.var 2) .nil))) .nil)))
    (.seq (.expr (.meth .append (.var 5) (.cons (.tup (.cons (.ix (.var 7) (.cst (.int 0))) (.cons (.bin .FloorDiv (.var 6) (.var 3)) (.cons (.bin .Mod (.var 6) (.var 3)) (.cons (.var 8) .nil))))) .nil)))
    (.set (.name 6) (.bin .Add (.var 6) (.var 8)))))))
  (.ret (.bif .tuple (.cons (.var 5) .nil)))))))⟩
/-- sheets_of: 0 book, 1 rows, 2 sheet, 3 line, 4 many -/
def f_sheets_of : Fn := ⟨"sheets_of", 1, 5, [],
  (.seq (.set (.name 1) (.call "spread" (.cons (.var 0) .nil)))
  (.seq (.ite (.cmp .Eq (.var 1) (.tup .nil))
    (.ret (.cst (.int 0)))
    .skip)
  (.seq (.set (.tup [2, 3, 4]) (.sl (.ix (.var 1) (.neg (.cst (.int 1)))) true false (.cst (.int 1)) .never))
  (.ret (.bin .Add (.bin .Add (.var 2) (.cst (.int 1))) (.bin .FloorDiv (.bin .Sub (.bin .Add (.var 3) (.var 4)) (.cst (.int 1))) (.ix (.var 0) (.cst (.int 1)))))))))⟩
/-- _law_book: 0 tap_here, 1 way, 2 many, 3 pool, 4 sections, 5 k, 6 name, 7 longest, 8 highest, 9 width, 10 .0, 11 one, 12 word_here -/
def f_l_book : Fn := ⟨"_law_book", 1, 13, [],
  (.seq (.set (.name 1) (.call "_law_take" (.cons (.var 0) (.cons (.cst (.int 6)) .nil))))
  (.seq (.set (.name 2) (.ite (.cmp .Lt (.var 1) (.cst (.int 2))) (.ix (.lst (.cons (.cst (.int 12)) (.cons (.cst (.int 4)) .nil))) (.var 1)) (.call "_law_take" (.cons (.var 0) (.cons (.cst (.int 5)) .nil)))))
  (.seq (.set (.name 3) (.lst (.cons (.cst (.str "a")) (.cons (.cst (.str "ab")) (.cons (.cst (.str "abc")) (.cons (.cst (.str "b")) (.cons (.cst (.str "bc")) (.cons (.cst (.str "press")) (.cons (.cst (.str "q")) (.cons (.cst (.str "ring")) (.cons (.cst (.str "s")) (.cons (.cst (.str "space")) (.cons (.cst (.str "zz")) (.cons (.cst (.str "zzzzzzzz")) .nil))))))))))))))
  (.seq (.set (.name 4) (.lst .nil))
  (.seq (.for_ (.name 5) (.range1 (.var 2))
    (.seq (.set (.name 6) (.meth .popAt (.var 3) (.cons (.call "_law_take" (.cons (.var 0) (.cons (.bif .len (.cons (.var 3) .nil)) .nil))) .nil)))
    (.expr (.meth .append (.var 4) (.cons (.call "_law_section" (.cons (.var 0) (.cons (.var 6) (.cons (.ite (.cmp .Eq (.var 1) (.cst (.int 1))) (.cst (.int 40)) (.cst (.int 8))) .nil)))) .nil)))))
  (.seq (.set (.name 7) (.mxd true (.comp [10, 11] (.name 11) (.seq (.var 4)) (.cst (.bl true)) (.bif .max1 (.cons (.comp [10, 12] (.name 12) (.seq (.ix (.var 11) (.cst (.int 3)))) (.cst (.bl true)) (.bif .len (.cons (.var 12) .nil))) .nil))) (.cst (.int 1))))
  (.seq (.set (.name 8) (.mxd true (.comp [10, 11] (.name 11) (.seq (.var 4)) (.cst (.bl true)) (.ix (.var 11) (.cst (.int 1)))) (.cst (.int 1))))
  (.seq (.set (.name 9) (.ix (.lst (.cons (.var 7) (.cons (.bin .Add (.var 7) (.call "_law_take" (.cons (.var 0) (.cons (.cst (.int 8)) .nil)))) (.cons (.bin .Add (.var 7) (.call "_law_take" (.cons (.var 0) (.cons (.cst (.int 33)) .nil)))) .nil)))) (.call "_law_take" (.cons (.var 0) (.cons (.cst (.int 3)) .nil)))))
  (.ret (.tup (.cons (.var 9) (.cons (.ix (.lst (.cons (.bin .Add (.var 8) (.call "_law_take" (.cons (.var 0) (.cons (.cst (.int 4)) .nil)))) (.cons (.bin .Add (.var 8) (.call "_law_take" (.cons (.var 0) (.cons (.cst (.int 32)) .nil)))) .nil))) (.call "_law_take" (.cons (.var 0) (.cons (.cst (.int 2)) .nil)))) (.cons (.bif .tuple (.cons (.var 4) .nil)) .nil)))))))))))))⟩
/-- _law_rows: 0 book_here, 1 line, 2 width, 3 lines, 4 sections, 5 found, 6 section_here, 7 many -/
def f_l_rows : Fn := ⟨"_law_rows", 2, 8, [],
  (.seq (.set (.tup [2, 3, 4]) (.var 0))
  (.seq (.set (.name 5) (.lst .nil))
  (.seq (.for_ (.name 6) (.seq (.var 4))
    (.seq (.whl (.cmp .NotEq (.bin .FloorDiv (.var 1) (.var 3)) (.bin .FloorDiv (.bin .Sub (.bin .Add (.var 1) (.ix (.var 6) (.cst (.int 1)))) (.cst (.int 1))) (.var 3)))
      (.set (.name 1) (.bin .Add (.var 1) (.cst (.int 1)))))
    (.seq (.set (.name 7) (.bif .len (.cons (.call "_law_bent" (.cons (.var 6) (.cons (.var 2) .nil))) .nil)))
    (.seq (.expr (.meth .append (.var 5) (.cons (.tup (.cons (.ix (.var 6) (.cst (.int 0))) (.cons (.bin .FloorDiv (.var 1) (.var 3)) (.cons (.bin .Mod (.var 1) (.var 3)) (.cons (.var 7) .nil))))) .nil)))
    (.set (.name 1) (.bin .Add (.var 1) (.var 7)))))))
  (.ret (.bif .tuple (.cons (.var 5) .nil))))))⟩

section
variable {fs : List Fn} {wf n i : Nat} {m : Store} {s : Sec} {W : Nat}
theorem lbent_ok [Has fs "_law_fit" f_l_fit 4] (o : SecOk s) (hW : ∀ w ∈ s.words, w.length ≤ W) (hwf : 1000 < wf) : wp (bodyN fs wf (n + 3) f_l_bent [encS s, .int (W : Int)] m) (k := ⟨fun d m' => d = encL (bentL s W) ∧ Keep none m m'⟩) := by
  have hl := o.len
  have hh := o.high
  rw [wp_body]
  simp [f_l_bent, startE]
  refine s_while' (fun k r m2 => ∃ i, k = (s.high - i) + (s.words.length - lay s W i) ∧ r = [some (encS s), some (.int (W : Int)), some (.ref m.length)] ∧ m2[m.length]? = some (.lst ((List.range i).map fun j => encN (lay s W (j + 1)))) ∧ lay s W i ≤ s.words.length ∧ (∀ j, j < i → j < s.high ∨ lay s W j < s.words.length) ∧ i ≤ 100 ∧ i + k ≤ 50 ∧ Keep none m m2)
    (k := s.high + s.words.length) (by omega) ⟨0, rfl, rfl, by simp, Nat.zero_le _, fun j hj => by omega, by omega, by omega, Keep.new none m _⟩ (fun k r m2 ⟨i, hk, hr, h1, h2, h3, h4, h5, h6⟩ => ?_)
  subst hr
  have hs : ∀ x ∈ (List.range i).map fun j => encN (lay s W (j + 1)), Simple 0 x := fun x hx => by
    obtain ⟨j, _, rfl⟩ := List.mem_map.mp hx
    exact .int _
  have fin : ∀ {i}, s.high ≤ i → s.words.length ≤ lay s W i → (∀ j, j < i → j < s.high ∨ lay s W j < s.words.length) → bentL s W = (List.range i).map fun j => lay s W (j + 1) := fun c2 c1 h3 => by
    have I : IsMany s W _ := ⟨⟨c2, c1⟩, h3⟩
    unfold bentL
    rw [many_of I]
  have step : (i < s.high ∨ lay s W i < s.words.length) → IsEnd s.words (lay s W i) (roomN s W i) (lay s W (i + 1)) → ∃ k', k' < k ∧ k' = (s.high - (i + 1)) + (s.words.length - lay s W (i + 1)) ∧ i + 1 + k' ≤ 50 ∧ (∀ j, j < i + 1 → j < s.high ∨ lay s W j < s.words.length) := fun hc I => by
    have hle := I.le
    have hm : s.high ≤ i → lay s W i < s.words.length → lay s W i < lay s W (i + 1) := fun q1 q2 => I.more q2 fun w hw => by
      have := hW w hw
      unfold roomN
      rw [if_neg (by omega)]
      omega
    refine ⟨_, ?_, rfl, ?_, fun j hj => ?_⟩
    · rcases Nat.lt_or_ge i s.high with q | q
      · omega
      · have := hm q (by omega)
        omega
    · rcases Nat.lt_or_ge i s.high with q | q
      · omega
      · have := hm q (by omega)
        omega
    · by_cases z : j = i
      · subst z
        exact hc
      · exact h3 j (by omega)
  have app : ∀ {m3 : Store}, Keep none m m3 → m3[m.length]? = some (.lst ((List.range i).map fun j => encN (lay s W (j + 1)))) → (m3.set m.length (.lst (((List.range i).map fun j => encN (lay s W (j + 1))) ++ [encN (lay s W (i + 1))])))[m.length]? = some (.lst ((List.range (i + 1)).map fun j => encN (lay s W (j + 1)))) := fun {m3} _ h => by
    rw [get_set h, range_succ_map]
  have go : ∀ {Q : D → Store → Prop}, (i < s.high ∨ lay s W i < s.words.length) → (IsEnd s.words (lay s W i) (roomN s W i) (lay s W (i + 1)) → Q (encN (lay s W (i + 1))) m2) → wp (bodyN fs wf (n + 2) f_l_fit [encS s, .int (lay s W i : Nat), .int i, .int W] m2) (k := ⟨Q⟩) := fun {Q} hc hq =>
    (fit_ok (n := n + 1) (i := i) (W := W) o h2 hwf).mono fun d m3 ⟨z1, I, z2⟩ => by
      subst z1 z2
      exact hq I
  have e : ((List.range i).map fun j => encN (lay s W (j + 1))) ++ [encN (lay s W (i + 1))] = (List.range (i + 1)).map fun j => encN (lay s W (j + 1)) := range_succ_map.symm
  have out : ∀ {m3 : Store}, (IsEnd s.words (lay s W i) (roomN s W i) (lay s W (i + 1))) → m3 = m2.set m.length (.lst ((List.range (i + 1)).map fun j => encN (lay s W (j + 1)))) → m3[m.length]? = some (.lst ((List.range (i + 1)).map fun j => encN (lay s W (j + 1)))) → (∃ k', k' < k ∧ k' = (s.high - (i + 1)) + (s.words.length - lay s W (i + 1)) ∧ i + 1 + k' ≤ 50 ∧ (∀ j, j < i + 1 → j < s.high ∨ lay s W j < s.words.length)) →
      ∃ k', k' < k ∧ ∃ i, k' = (s.high - i) + (s.words.length - lay s W i) ∧ m3[m.length]? = some (.lst ((List.range i).map fun j => encN (lay s W (j + 1)))) ∧ lay s W i ≤ s.words.length ∧ (∀ j, j < i → j < s.high ∨ lay s W j < s.words.length) ∧ i ≤ 100 ∧ i + k' ≤ 50 ∧ Keep none m m3 := fun {m3} I em hg ⟨k', g1, g2, g3, g4⟩ => by
    subst em
    have hle := I.le
    exact ⟨k', g1, i + 1, g2, hg, hle.2, g4, by omega, g3, h6.set_new (Nat.le_refl _) _⟩
  simp [h1]
  refine ⟨fun hi => ?_, fun hi => ?_⟩
  · rw [ne_ref_tl h1 rfl hs (d' := 0) (by simp) (by omega) (by omega)]
    simp [h1]
    refine ⟨fun hz => ?_, fun hz => ?_⟩
    · obtain ⟨j, rfl⟩ : ∃ j, i = j + 1 := ⟨i - 1, by omega⟩
      refine ⟨_, ⟨j, by simp [List.range_succ], rfl⟩, go (.inl hi) fun I => ?_⟩
      simp [h1]
      refine ⟨by unfold sizeLine; omega, ?_⟩
      rw [e]
      exact out I rfl (get_set h1 _) (step (.inl hi) I)
    · have z0 : D.int 0 = D.int ((lay s W i : Nat) : Int) := by rw [hz]; rfl
      rw [z0]
      refine go (.inl hi) fun I => ?_
      simp [h1]
      refine ⟨by unfold sizeLine; omega, ?_⟩
      rw [e]
      exact out I rfl (get_set h1 _) (step (.inl hi) I)
  · obtain ⟨j, rfl⟩ : ∃ j, i = j + 1 := ⟨i - 1, by omega⟩
    refine ⟨_, ⟨j, by simp [List.range_succ], rfl⟩, ?_⟩
    simp [encN]
    refine ⟨fun hlt => ?_, fun hge => ?_⟩
    · refine ⟨⟨_, h1⟩, ?_⟩
      rw [ne_ref_tl h1 rfl hs (d' := 0) (by simp) (by omega) (by omega)]
      simp [h1]
      refine ⟨_, ⟨j, by simp [List.range_succ], rfl⟩, go (.inr hlt) fun I => ?_⟩
      simp [h1]
      refine ⟨by unfold sizeLine; omega, ?_⟩
      rw [e]
      exact out I rfl (get_set h1 _) (step (.inr hlt) I)
    · refine ⟨_, h1, rfl, ?_, h6⟩
      rw [fin hi hge h3]
      unfold encL tupOf
      rw [List.map_map]
      rfl
end
/-! ### books -/
structure Book where
  wide : Nat
  lines : Nat
  secs : List Sec
def encB (b : Book) : D := .tup [.int b.wide, .int b.lines, tupOf encS b.secs]
structure BookOk (b : Book) : Prop where
  wide : b.wide ≤ 40
  lines : b.lines ≤ 50
  pos : 1 ≤ b.lines
  len : b.secs.length ≤ 12
  sec : ∀ s ∈ b.secs, SecOk s ∧ GoodS 8 s.name ∧ (∀ w ∈ s.words, w.length ≤ b.wide) ∧ s.high ≤ b.lines
@[simp ↓] theorem book_wide {Ek : ErrK} {b : Book} {m : Store} {Q : R → Store → Prop} : wp (ixR (.d (encB b)) (.d (.int 0)) m) (k := ⟨Q⟩) ↔ Q (.d (.int b.wide)) m := by
  unfold encB
  simp
@[simp ↓] theorem book_lines {Ek : ErrK} {b : Book} {m : Store} {Q : R → Store → Prop} : wp (ixR (.d (encB b)) (.d (.int 1)) m) (k := ⟨Q⟩) ↔ Q (.d (.int b.lines)) m := by
  unfold encB
  simp
@[simp ↓] theorem sec_name {Ek : ErrK} {s : Sec} {m : Store} {Q : R → Store → Prop} : wp (ixR (.d (encS s)) (.d (.int 0)) m) (k := ⟨Q⟩) ↔ Q (.d (.str s.name)) m := by
  unfold encS
  simp
/-- where a section begins from a line on -/
def beginF (L high line : Nat) : Nat := if high ≤ L - line % L then line else line + (L - line % L)
/-- the line behind the first sections -/
noncomputable def hereF (b : Book) (line : Nat) : Nat → Nat
  | 0 => line
  | k + 1 => match b.secs[k]? with
    | some s => beginF b.lines s.high (hereF b line k) + many s b.wide
    | none => hereF b line k
noncomputable def rowD (b : Book) (line k : Nat) : D := match b.secs[k]? with
  | some s => .tup [.str s.name, .int ((beginF b.lines s.high (hereF b line k) / b.lines : Nat) : Int), .int ((beginF b.lines s.high (hereF b line k) % b.lines : Nat) : Int), .int (many s b.wide : Nat)]
  | none => .non
noncomputable def rowsD (b : Book) (line : Nat) : D := .tup ((List.range b.secs.length).map (rowD b line))
section
variable {fs : List Fn} {wf n : Nat} {m : Store} {b : Book}
theorem begin_ok {L high line : Nat} (hL : 1 ≤ L ∧ L ≤ 50) : wp (bodyN fs wf (n + 1) f_begin_from [.int L, .int high, .int line] m) (k := ⟨fun d m' => d = .int (beginF L high line : Nat) ∧ m' = m⟩) := by
  have h := Nat.mod_lt line (show L > 0 by omega)
  rw [wp_body]
  simp [f_begin_from, startE]
  unfold beginF
  have e : (line : Int) % (L : Int) = ((line % L : Nat) : Int) := (Int.natCast_emod line L).symm
  rw [e]
  refine ⟨by omega, fun h1 => ?_, fun h1 => ?_⟩
  · rw [if_pos (by omega)]
  · rw [if_neg (by omega)]
    omega
theorem here_succ {line k : Nat} {s : Sec} (h : b.secs[k]? = some s) : hereF b line (k + 1) = beginF b.lines s.high (hereF b line k) + many s b.wide := by
  show (match b.secs[k]? with
    | some s => beginF b.lines s.high (hereF b line k) + many s b.wide
    | none => hereF b line k) = _
  rw [h]
theorem row_at {line k : Nat} {s : Sec} (h : b.secs[k]? = some s) : rowD b line k = .tup [.str s.name, .int ((beginF b.lines s.high (hereF b line k) / b.lines : Nat) : Int), .int ((beginF b.lines s.high (hereF b line k) % b.lines : Nat) : Int), .int (many s b.wide : Nat)] := by
  unfold rowD
  rw [h]
theorem bentL_many {s : Sec} {W : Nat} : (bentL s W).length = many s W := by simp [bentL]
theorem spread_ok [Has fs "begin_from" f_begin_from 3] [HasD fs "bent" f_bent 2 [.int 30]] [Has fs "end_of" f_end_of 3] [HasD fs "room" f_room 3 [.int 30]] [Has fs "begins" f_begins 2] {line : Nat} (o : BookOk b) (hwf : 1000 < wf) : wp (bodyN fs wf (n + 4) f_spread [encB b, .int line] m) (k := ⟨fun d m' => d = rowsD b line ∧ Keep none m m'⟩) := by
  have hl := o.len
  rw [wp_body]
  simp [f_spread, startE, encB, asgT]
  refine wfor_typed b.secs encS rfl (fun i r m1 => ∃ x0 x7 x8, r = [x0, some (.int line), some (.int b.wide), some (.int b.lines), some (tupOf encS b.secs), some (.ref m.length), some (.int (hereF b line i : Nat)), x7, x8] ∧ m1[m.length]? = some (.lst ((List.range i).map (rowD b line))) ∧ Keep none m m1)
    ⟨_, none, none, rfl, by simp, Keep.new none m _⟩ (fun i s r m1 hx ⟨x0, x7, x8, hr, h1, hk⟩ => ?_) (fun r m1 ⟨x0, x7, x8, hr, h1, hk⟩ => ?_)
  · subst hr
    have hi := lt_get hx
    obtain ⟨so, sn, sw, sh⟩ := o.sec s (List.mem_of_getElem? hx)
    have hp := o.pos
    have hl2 := o.lines
    unfold fturn
    simp
    refine (begin_ok (n := n + 2) ⟨hp, hl2⟩).mono fun d m2 ⟨z1, z2⟩ => ?_
    subst z1 z2
    simp
    refine (bent_ok (n := n) so sw hwf).mono fun d m3 ⟨z3, _, k3⟩ => ?_
    subst z3
    have g3 := k3.cell h1 (by simp)
    simp
    rw [bentL_many]
    generalize hB : beginF b.lines s.high (hereF b line i) = B at *
    have hrow := row_at (line := line) hx
    have hhere := here_succ (line := line) hx
    rw [hB] at hrow hhere
    refine ⟨⟨_, g3⟩, ⟨by omega, by omega⟩, by omega, by decide, _, g3, by simp; unfold sizeLine; omega, by rw [hhere]; omega, ?_, (hk.trans k3).set_new (Nat.le_refl _) _⟩
    rw [get_set g3, range_succ_map, hrow]
    simp
  · subst hr
    simp [h1]
    exact ⟨rfl, hk⟩
theorem div_in {L q x : Nat} (h : x < L) : (L * q + x) / L = q := by
  rw [Nat.mul_add_div (by omega), Nat.div_eq_of_lt h]
  omega
theorem seek {L high l e : Nat} (hL : 1 ≤ L) (h1 : 1 ≤ high) (h2 : high ≤ L) (h3 : l ≤ e) (h4 : e ≤ beginF L high l) : (e / L = (e + high - 1) / L) ↔ e = beginF L high l := by
  have hr := Nat.mod_lt l (show L > 0 by omega)
  have hd := Nat.div_add_mod l L
  unfold beginF at *
  generalize l % L = r at *
  generalize hq : l / L = q at *
  by_cases c : high ≤ L - r
  · rw [if_pos c] at *
    have : e = l := by omega
    subst this
    constructor
    · intro _; rfl
    · intro _
      rw [show e + high - 1 = L * q + (r + high - 1) by omega, div_in (by omega), ← hd, div_in hr]
  · rw [if_neg c] at *
    constructor
    · intro hh
      rcases Nat.lt_or_ge e (l + (L - r)) with z | z
      · exfalso
        obtain ⟨x, hx⟩ : ∃ x, e = L * q + x := ⟨e - L * q, by omega⟩
        rw [hx, div_in (by omega)] at hh
        have : q + 1 ≤ (L * q + x + high - 1) / L := by
          rw [Nat.le_div_iff_mul_le (by omega), Nat.add_mul, Nat.one_mul, Nat.mul_comm q L]
          omega
        omega
      · omega
    · intro hh
      have e1 : e = L * (q + 1) + 0 := by rw [Nat.mul_add, Nat.mul_one]; omega
      rw [show e + high - 1 = L * (q + 1) + (high - 1) by omega, div_in (by omega), e1, div_in (by omega)]
theorem begin_le {L high l : Nat} : l ≤ beginF L high l ∧ beginF L high l ≤ l + L := by
  unfold beginF
  split <;> omega
theorem seek_loop {x0 x2 x4 x5 x7 : Option D} {s : Sec} {L l : Nat} {N : Pf.Env → Store → Prop} {Rr : D → Store → Prop} {B C : Pf.Env → Store → Prop} (hL : 1 ≤ L ∧ L ≤ 50) (h1 : 1 ≤ s.high) (h2 : s.high ≤ L) (hwf : 1000 < wf)
    (hN : N [x0, some (.int (beginF L s.high l : Nat)), x2, some (.int L), x4, x5, some (encS s), x7] m) : ws (exS (callOf fs (bodyN fs wf n)) wf
    (.whl (.cmp .NotEq (.bin .FloorDiv (.var 1) (.var 3)) (.bin .FloorDiv (.bin .Sub (.bin .Add (.var 1) (.ix (.var 6) (.cst (.int 1)))) (.cst (.int 1))) (.var 3)))
      (.set (.name 1) (.bin .Add (.var 1) (.cst (.int 1))))) [x0, some (.int (l : Nat)), x2, some (.int L), x4, x5, some (encS s), x7] m) (k := ⟨N, Rr, B, C⟩) := by
  have hb := begin_le (L := L) (high := s.high) (l := l)
  refine s_while' (fun k r m1 => ∃ e, k = beginF L s.high l - e ∧ l ≤ e ∧ e ≤ beginF L s.high l ∧ r = [x0, some (.int (e : Nat)), x2, some (.int L), x4, x5, some (encS s), x7] ∧ m1 = m) (k := beginF L s.high l - l) (by omega) ⟨l, rfl, Nat.le_refl _, hb.1, rfl, rfl⟩ (fun k r m1 ⟨e, hk, g1, g2, hr, hm⟩ => ?_)
  subst hr hm
  have S := seek (L := L) (high := s.high) (l := l) (e := e) hL.1 h1 h2 g1 g2
  have ec : (e : Int) + (s.high : Int) - 1 = ((e + s.high - 1 : Nat) : Int) := by omega
  simp
  have e1 : ((e : Int) / (L : Int) = (((e : Int) + (s.high : Int) - 1).fdiv (L : Int))) ↔ e = beginF L s.high l := by
    rw [ec, fdiv_nat, ← Int.natCast_ediv, Int.natCast_inj]
    exact S
  rw [e1]
  refine ⟨⟨by omega, by omega⟩, fun hne => ⟨beginF L s.high l - (e + 1), by omega, e + 1, rfl, by omega, by omega, by omega⟩, fun he => ?_⟩
  subst he
  exact hN
theorem lrows_ok [Has fs "_law_bent" f_l_bent 2] [Has fs "_law_fit" f_l_fit 4] {line : Nat} (o : BookOk b) (hwf : 1000 < wf) : wp (bodyN fs wf (n + 4) f_l_rows [encB b, .int line] m) (k := ⟨fun d m' => d = rowsD b line ∧ Keep none m m'⟩) := by
  have hl := o.len
  rw [wp_body]
  simp [f_l_rows, startE, encB, asgT]
  refine wfor_typed b.secs encS rfl (fun i r m1 => ∃ x0 x6 x7, r = [x0, some (.int (hereF b line i : Nat)), some (.int b.wide), some (.int b.lines), some (tupOf encS b.secs), some (.ref m.length), x6, x7] ∧ m1[m.length]? = some (.lst ((List.range i).map (rowD b line))) ∧ Keep none m m1)
    ⟨_, none, none, rfl, by simp, Keep.new none m _⟩ (fun i s r m1 hx ⟨x0, x6, x7, hr, h1, hk⟩ => ?_) (fun r m1 ⟨x0, x6, x7, hr, h1, hk⟩ => ?_)
  · subst hr
    have hi := lt_get hx
    obtain ⟨so, sn, sw, sh⟩ := o.sec s (List.mem_of_getElem? hx)
    have hp := o.pos
    have hl2 := o.lines
    unfold fturn
    simp
    refine seek_loop ⟨hp, hl2⟩ so.high.1 sh hwf ?_
    have hrow := row_at (line := line) hx
    have hhere := here_succ (line := line) hx
    generalize beginF b.lines s.high (hereF b line i) = B at *
    simp
    refine (lbent_ok (n := n) so sw hwf).mono fun d m3 ⟨z3, k3⟩ => ?_
    subst z3
    have g3 := k3.cell h1 (by simp)
    simp
    rw [bentL_many]
    refine ⟨⟨_, g3⟩, ⟨by omega, by omega⟩, by omega, by decide, _, g3, by simp; unfold sizeLine; omega, by rw [hhere]; omega, ?_, (hk.trans k3).set_new (Nat.le_refl _) _⟩
    rw [get_set g3, range_succ_map, hrow]
    simp
  · subst hr
    simp [h1]
    exact ⟨rfl, hk⟩
theorem row_flat {line k : Nat} (o : BookOk b) (hk : k < b.secs.length) (hb : hereF b line k ≤ 10 ^ 20) : Flat 100 1 (rowD b line k) := by
  have hx : b.secs[k]? = some b.secs[k] := List.getElem?_eq_getElem hk
  obtain ⟨so, sn, sw, sh⟩ := o.sec _ (List.getElem_mem hk)
  have hm := many_is so sw
  have hp := o.pos
  have hl := o.lines
  have h1 := begin_le (L := b.lines) (high := (b.secs[k]).high) (l := hereF b line k)
  have h2 : beginF b.lines (b.secs[k]).high (hereF b line k) / b.lines ≤ beginF b.lines (b.secs[k]).high (hereF b line k) := Nat.div_le_self _ _
  have h3 := Nat.mod_lt (beginF b.lines (b.secs[k]).high (hereF b line k)) (show b.lines > 0 by omega)
  rw [row_at hx]
  generalize beginF b.lines (b.secs[k]).high (hereF b line k) = B at *
  generalize B / b.lines = q at *
  generalize B % b.lines = r at *
  refine .tup (n := 4) (b := 8) (fun x hx => ?_) (by simp) (by omega)
  simp only [List.mem_cons, List.mem_nil_iff, or_false] at hx
  rcases hx with rfl | rfl | rfl | rfl
  · exact sn.flat
  · exact .int (by omega)
  · exact .int (by omega)
  · exact .int (by omega)
theorem here_le {line : Nat} (o : BookOk b) (h : line ≤ 10 ^ 10) : ∀ k, k ≤ b.secs.length → hereF b line k ≤ line + 100 * k
  | 0, _ => Nat.le_refl _
  | k + 1, hk => by
    have hx : b.secs[k]? = some b.secs[k] := List.getElem?_eq_getElem (by omega)
    obtain ⟨so, sn, sw, sh⟩ := o.sec _ (List.getElem_mem (by omega : k < b.secs.length))
    have hm := many_is so sw
    have ih := here_le o h k (by omega)
    have h1 := begin_le (L := b.lines) (high := (b.secs[k]).high) (l := hereF b line k)
    have hl := o.lines
    rw [here_succ hx]
    omega
theorem rows_flat {line : Nat} (o : BookOk b) (h : line ≤ 10 ^ 10) : Flat 1212 2 (rowsD b line) := by
  have hl := o.len
  refine .tup (n := 12) (b := 100) (fun x hx => ?_) (by simp; omega) (by omega)
  obtain ⟨k, hk, rfl⟩ := List.mem_map.mp hx
  have hk := List.mem_range.mp hk
  exact row_flat o hk (by have := here_le o h k (by omega); omega)
theorem rows_simple {line : Nat} (o : BookOk b) : Simple 2 (rowsD b line) := .tup fun x hx => by
  obtain ⟨k, hk, rfl⟩ := List.mem_map.mp hx
  have hk := List.mem_range.mp hk
  rw [row_at (List.getElem?_eq_getElem hk)]
  refine .tup fun x hx => ?_
  simp only [List.mem_cons, List.mem_nil_iff, or_false] at hx
  rcases hx with rfl | rfl | rfl | rfl
  · exact (o.sec _ (List.getElem_mem hk)).2.1.simple
  · exact .int _
  · exact .int _
  · exact .int _
theorem sheets_ok [HasD fs "spread" f_spread 2 [.int 0]] [Has fs "begin_from" f_begin_from 3] [HasD fs "bent" f_bent 2 [.int 30]] [Has fs "end_of" f_end_of 3] [HasD fs "room" f_room 3 [.int 30]] [Has fs "begins" f_begins 2] (o : BookOk b) (hwf : 1000 < wf) : wp (bodyN fs wf (n + 5) f_sheets_of [encB b] m) (k := ⟨fun d m' => (b.secs = [] → d = .int 0) ∧ (∀ k s, b.secs.length = k + 1 → b.secs[k]? = some s → d = .int ((beginF b.lines s.high (hereF b 0 k) / b.lines + 1 + (beginF b.lines s.high (hereF b 0 k) % b.lines + many s b.wide - 1) / b.lines : Nat) : Int)) ∧ Keep none m m'⟩) := by
  have hl := o.len
  have hp := o.pos
  have hl2 := o.lines
  rw [wp_body]
  simp [f_sheets_of, startE]
  refine (spread_ok (n := n) (line := 0) o hwf).mono fun d m1 ⟨z1, k1⟩ => ?_
  subst z1
  simp
  rw [eq_simple (rows_simple o) (d' := 1) (y := D.tup []) (.tup (d := 0) (by simp)) (by omega) (by omega)]
  cases hb : b.secs with
  | nil =>
    have e : rowsD b 0 = D.tup [] := by unfold rowsD; rw [hb]; rfl
    simp [e, k1]
  | cons t r =>
    have hne : ¬ rowsD b 0 = D.tup [] := fun z => by
      unfold rowsD at z
      have := congrArg List.length (D.tup.inj z)
      rw [hb] at this
      simp at this
    obtain ⟨k, hk⟩ : ∃ k, b.secs.length = k + 1 := ⟨r.length, by rw [hb]; rfl⟩
    have hx : b.secs[k]? = some b.secs[k] := List.getElem?_eq_getElem (by omega)
    have hrow := row_at (line := 0) hx
    have hlast : ((List.range b.secs.length).map (rowD b 0)).getLast? = some (rowD b 0 k) := by
      rw [hk, List.range_succ]
      simp
    simp [hne]
    unfold rowsD
    simp [hlast, hrow]
    refine ⟨⟨by omega, by omega⟩, fun k2 s hk2 hs => ?_, k1⟩
    have ek : k2 = k := by
      have := congrArg List.length hb
      simp at this
      omega
    subst ek
    rw [← hb, hx] at hs
    cases hs
    obtain ⟨so, sn, sw, sh⟩ := o.sec _ (List.getElem_mem (by omega : k2 < b.secs.length))
    have hm := (many_is so sw).1.out.1
    have hh := so.high.1
    generalize beginF b.lines (b.secs[k2]).high (hereF b 0 k2) = B at *
    generalize many (b.secs[k2]) b.wide = M at *
    have e1 : (B : Int) % (b.lines : Int) + (M : Int) - 1 = ((B % b.lines + M - 1 : Nat) : Int) := by
      rw [← Int.natCast_emod]
      omega
    rw [e1, fdiv_nat]
    simp only [Int.natCast_ediv]
end
structure BkInv (a p h k : Nat) (m : Store) (way : Int) (i : Nat) (r : Pf.Env) (m1 : Store) : Prop where
  ex : ∃ (pool : List Str) (secs : List Sec) (x2 x5 x6 x7 x8 x9 x10 x11 x12 : Option D), r = [some (.ref h), some (.int way), x2, some (.ref p), some (.ref a), x5, x6, x7, x8, x9, x10, x11, x12] ∧ m1[p]? = some (.lst (pool.map .str)) ∧ m1[a]? = some (.lst (secs.map encS)) ∧ pool.length + i = 12 ∧ secs.length = i ∧ (∀ w ∈ pool, GoodS 8 w) ∧ (∀ s ∈ secs, SecOk s ∧ GoodS 8 s.name) ∧ Tap h (k + 420 * i) m1 ∧ Keep (some h) m m1
def names12 : List Str := ["a", "ab", "abc", "b", "bc", "press", "q", "ring", "s", "space", "zz", "zzzzzzzz"]
def restB : S := (.seq (.set (.name 3) (.lst (.cons (.cst (.str "a")) (.cons (.cst (.str "ab")) (.cons (.cst (.str "abc")) (.cons (.cst (.str "b")) (.cons (.cst (.str "bc")) (.cons (.cst (.str "press")) (.cons (.cst (.str "q")) (.cons (.cst (.str "ring")) (.cons (.cst (.str "s")) (.cons (.cst (.str "space")) (.cons (.cst (.str "zz")) (.cons (.cst (.str "zzzzzzzz")) .nil))))))))))))))
  (.seq (.set (.name 4) (.lst .nil))
  (.seq (.for_ (.name 5) (.range1 (.var 2))
    (.seq (.set (.name 6) (.meth .popAt (.var 3) (.cons (.call "_law_take" (.cons (.var 0) (.cons (.bif .len (.cons (.var 3) .nil)) .nil))) .nil)))
    (.expr (.meth .append (.var 4) (.cons (.call "_law_section" (.cons (.var 0) (.cons (.var 6) (.cons (.ite (.cmp .Eq (.var 1) (.cst (.int 1))) (.cst (.int 40)) (.cst (.int 8))) .nil)))) .nil)))))
  (.seq (.set (.name 7) (.mxd true (.comp [10, 11] (.name 11) (.seq (.var 4)) (.cst (.bl true)) (.bif .max1 (.cons (.comp [10, 12] (.name 12) (.seq (.ix (.var 11) (.cst (.int 3)))) (.cst (.bl true)) (.bif .len (.cons (.var 12) .nil))) .nil))) (.cst (.int 1))))
  (.seq (.set (.name 8) (.mxd true (.comp [10, 11] (.name 11) (.seq (.var 4)) (.cst (.bl true)) (.ix (.var 11) (.cst (.int 1)))) (.cst (.int 1))))
  (.seq (.set (.name 9) (.ix (.lst (.cons (.var 7) (.cons (.bin .Add (.var 7) (.call "_law_take" (.cons (.var 0) (.cons (.cst (.int 8)) .nil)))) (.cons (.bin .Add (.var 7) (.call "_law_take" (.cons (.var 0) (.cons (.cst (.int 33)) .nil)))) .nil)))) (.call "_law_take" (.cons (.var 0) (.cons (.cst (.int 3)) .nil)))))
  (.ret (.tup (.cons (.var 9) (.cons (.ix (.lst (.cons (.bin .Add (.var 8) (.call "_law_take" (.cons (.var 0) (.cons (.cst (.int 4)) .nil)))) (.cons (.bin .Add (.var 8) (.call "_law_take" (.cons (.var 0) (.cons (.cst (.int 32)) .nil)))) .nil))) (.call "_law_take" (.cons (.var 0) (.cons (.cst (.int 2)) .nil)))) (.cons (.bif .tuple (.cons (.var 4) .nil)) .nil)))))))))))
section
variable {fs : List Fn} [Has fs "_law_take" f_l_take 2] [Has fs "_law_word" f_l_word 1] [Has fs "_law_section" f_l_section 3] {wf n h k : Nat} {m : Store}
theorem names_good : ∀ w ∈ names12, GoodS 8 w := by
  intro w hw
  unfold names12 at hw
  simp only [List.mem_cons, List.mem_nil_iff, or_false] at hw
  rcases hw with rfl | rfl | rfl | rfl | rfl | rfl | rfl | rfl | rfl | rfl | rfl | rfl <;> (unfold GoodS; decide)
/-- a section's longest word -/
def longest (s : Sec) : Nat := (maxI ((s.words.map Str.length).map fun (n : Nat) => (n : Int))).toNat
theorem longest_ok {s : Sec} (o : SecOk s) : (∀ w ∈ s.words, w.length ≤ longest s) ∧ (1 ≤ longest s ∧ longest s ≤ 8) ∧ maxI ((s.words.map Str.length).map fun (n : Nat) => (n : Int)) = (longest s : Int) := by
  have hl := o.len
  obtain ⟨s1, s2⟩ := maxI_spec (xs := (s.words.map Str.length).map fun (n : Nat) => (n : Int)) (by
    intro z
    have := congrArg List.length z
    simp at this
    rw [this] at hl
    simp at hl)
  unfold longest
  generalize maxI ((s.words.map Str.length).map fun (n : Nat) => (n : Int)) = mx at *
  obtain ⟨x, hx, rfl⟩ := List.mem_map.mp s1
  obtain ⟨w, hw, rfl⟩ := List.mem_map.mp hx
  have hgw : 1 ≤ w.length ∧ w.length ≤ 8 := (o.words w hw).1
  refine ⟨fun v hv => ?_, by omega, by omega⟩
  have := s2 (v.length : Int) (List.mem_map.mpr ⟨v.length, List.mem_map.mpr ⟨v, hv, rfl⟩, rfl⟩)
  omega
theorem longest_eq {s : Sec} (o : SecOk s) : maxI ((s.words.map Str.length).map fun (n : Nat) => (n : Int)) = (longest s : Int) := (longest_ok o).2.2
theorem mxd_nat {l : List Nat} {m : Store} {Q : R → Store → Prop} (h : ∀ x : Nat, ((l = [] ∧ x = 1) ∨ x ∈ l) → (∀ y ∈ l, y ≤ x) → Q (.d (.int x)) m) : wp (mxdR true (.tl (l.map encN)) (.int 1) m) (k := ⟨Q⟩) := by
  rw [mxd_any, seqR_tl]
  refine ⟨_, optAll_encN, fun e => ?_, fun i r e => ?_⟩
  · have : l = [] := List.map_eq_nil_iff.mp e
    exact h 1 (.inl ⟨this, rfl⟩) (by rw [this]; exact fun _ z => nomatch z)
  · obtain ⟨m1, m2⟩ := maxI_mem i r
    rw [← e] at m1 m2
    obtain ⟨x, hx, ex⟩ := List.mem_map.mp m1
    rw [if_pos rfl, ← ex]
    refine h x (.inr hx) fun y hy => ?_
    have := m2 _ (List.mem_map.mpr ⟨y, hy, rfl⟩)
    omega
theorem rest_ok {way : Int} {many : Nat} {x5 x6 x7 x8 x9 x10 x11 x12 x3 x4 : Option D} {m0 : Store} {N B C : Pf.Env → Store → Prop} (hlt : h < m0.length) (f : Tap h (k + 2) m) (hkp : Keep (some h) m0 m) (hk : k + 10000 < 1000000) (hm : many ≤ 12) : ws (exS (callOf fs (bodyN fs wf (n + 3))) wf restB [some (.ref h), some (.int way), some (.int many), x3, x4, x5, x6, x7, x8, x9, x10, x11, x12] m) (k := ⟨N, fun d m' => ∃ b, d = encB b ∧ BookOk b ∧ Tap h (k + 5100) m' ∧ Keep (some h) m0 m', B, C⟩) := by
  unfold restB
  simp
  have hle := hkp.len
  have hma : m0.length ≤ m.length := hle
  refine ⟨by decide, by unfold small62; omega, wfor_inv (BkInv (m.length + 1) m.length h (k + 2) m0 way) ⟨names12, [], _, _, _, _, _, _, _, _, _, rfl, by simp [names12], by simp, rfl, rfl, names_good, (fun _ z => nomatch z), f.keep (Keep.new none m _), hkp.app _⟩ (fun i x r m1 hx ⟨pool, secs, x2, x5, x6, x7, x8, x9, x10, x11, x12, hr, b1, b2, b3, b5, b6, b7, b8, b9⟩ => ?_) (fun r m1 ⟨pool, secs, x2, x5, x6, x7, x8, x9, x10, x11, x12, hr, b1, b2, b3, b5, b6, b7, b8, b9⟩ => ?_)⟩
  · obtain ⟨hi, rfl⟩ := upto_get hx
    subst hr
    unfold fturn
    simp [b1]
    refine (take_ok (n := n + 2) b8 (by omega) (by omega) (by omega)).mono fun d m2 ⟨v, c1, c2, c3, c4, c5⟩ => ?_
    subst c1
    have hv : v < pool.length := by omega
    have p2 := c4.cell b1 (by simp; omega)
    have g2 := c4.cell b2 (by simp; omega)
    have e1 : pool[v]? = some pool[v] := List.getElem?_eq_getElem hv
    have hw := b6 _ (List.getElem_mem hv)
    generalize pool[v] = w at *
    simp [p2, e1]
    have er : (pool.map D.str).eraseIdx v = (pool.eraseIdx v).map D.str := by rw [List.eraseIdx_eq_take_drop_succ, List.eraseIdx_eq_take_drop_succ, List.map_append, List.map_take, List.map_drop]
    rw [er]
    have p3 : (m2.set m.length (.lst ((pool.eraseIdx v).map D.str)))[m.length]? = some (.lst ((pool.eraseIdx v).map D.str)) := get_set p2 _
    have g3 : (m2.set m.length (.lst ((pool.eraseIdx v).map D.str)))[m.length + 1]? = _ := (List.getElem?_set_ne (by omega)).trans g2
    have k3 : Keep (some h) m0 (m2.set m.length (.lst ((pool.eraseIdx v).map D.str))) := (b9.trans c4).set_new hma _
    have c3 := c3.set (p := m.length) (c := .lst ((pool.eraseIdx v).map D.str)) (by omega)
    generalize m2.set m.length (.lst ((pool.eraseIdx v).map D.str)) = m3 at *
    refine ⟨by omega, ⟨_, g2⟩, fun hw1 => ?_, fun hw1 => ?_⟩
    · skip
      refine (section_ok (n := n) (nm := w) (most := 40) c3 (by omega) (by omega)).mono fun d m4 ⟨s, e1, so, e2, f4, k4⟩ => ?_
      subst e1
      have g4 := k4.cell g3 (by simp; omega)
      have p4 := k4.cell p3 (by simp; omega)
      simp [g4]
      refine ⟨by unfold sizeLine; omega, pool.eraseIdx v, secs ++ [s], _, _, _, _, _, _, _, _, _, rfl, ?_, ?_, by rw [List.length_eraseIdx, if_pos hv]; omega, by simp [b5], fun x hx => b6 x (List.mem_of_mem_eraseIdx hx), fun x hx => (List.mem_append.mp hx).elim (b7 x) fun z => by cases List.mem_singleton.mp z; exact ⟨so, by rw [e2]; exact hw⟩, (f4.set (by omega)).mono (by omega), (k3.trans k4).set_new (by omega) _⟩
      · rw [List.getElem?_set_ne (by omega)]
        exact p4
      · rw [get_set g4]
        simp
    · skip
      refine (section_ok (n := n) (nm := w) (most := 8) c3 (by omega) (by omega)).mono fun d m4 ⟨s, e1, so, e2, f4, k4⟩ => ?_
      subst e1
      have g4 := k4.cell g3 (by simp; omega)
      have p4 := k4.cell p3 (by simp; omega)
      simp [g4]
      refine ⟨by unfold sizeLine; omega, pool.eraseIdx v, secs ++ [s], _, _, _, _, _, _, _, _, _, rfl, ?_, ?_, by rw [List.length_eraseIdx, if_pos hv]; omega, by simp [b5], fun x hx => b6 x (List.mem_of_mem_eraseIdx hx), fun x hx => (List.mem_append.mp hx).elim (b7 x) fun z => by cases List.mem_singleton.mp z; exact ⟨so, by rw [e2]; exact hw⟩, (f4.set (by omega)).mono (by omega), (k3.trans k4).set_new (by omega) _⟩
      · rw [List.getElem?_set_ne (by omega)]
        exact p4
      · rw [get_set g4]
        simp
  · subst hr
    have hlen : secs.length ≤ 12 := by rw [b5]; simp; omega
    simp [b2]
    refine wcomp_map secs encS (fun s => encN (longest s)) rfl (by simp [b2]) (fun s hs => ?_) ?_
    · unfold cturn
      simp
      have so := (b7 s hs).1
      have hl := so.len
      refine wcomp_map s.words D.str (fun w => encN w.length) rfl (by simp) (fun w hw => ?_) ?_
      · unfold cturn
        have := (so.words w hw).1
        simp [encN]
        show w.cps.size ≤ sizeLine
        unfold sizeLine
        omega
      · have e : (s.words.map fun w => encN w.length) = (s.words.map Str.length).map encN := by rw [List.map_map]; rfl
        rw [e]
        simp [-List.map_map]
        refine ⟨by unfold sizeLine; omega, by omega, ?_⟩
        unfold encN
        congr 1
        exact longest_eq so
    · have e : (secs.map fun s => encN (longest s)) = (secs.map longest).map encN := by rw [List.map_map]; rfl
      rw [e]
      simp [-List.map_map]
      refine ⟨by unfold sizeLine; omega, mxd_nat fun lg hlg1 hlg2 => ?_⟩
      have hlg : (1 ≤ lg ∧ lg ≤ 8) ∧ ∀ s ∈ secs, longest s ≤ lg := by
        refine ⟨?_, fun s hs => hlg2 _ (List.mem_map.mpr ⟨s, hs, rfl⟩)⟩
        rcases hlg1 with ⟨_, h⟩ | h
        · omega
        · obtain ⟨s, hs, rfl⟩ := List.mem_map.mp h
          exact (longest_ok (b7 s hs).1).2.1
      simp [b2]
      refine wcomp_map secs encS (fun s => encN s.high) rfl (by simp [b2]) (fun s hs => ?_) ?_
      · unfold cturn
        simp [encN]
      have e : (secs.map fun s => encN s.high) = (secs.map Sec.high).map encN := by rw [List.map_map]; rfl
      rw [e]
      simp [-List.map_map]
      refine ⟨by unfold sizeLine; omega, mxd_nat fun hg hhg1 hhg2 => ?_⟩
      have hhg : (1 ≤ hg ∧ hg ≤ 9) ∧ ∀ s ∈ secs, s.high ≤ hg := by
        refine ⟨?_, fun s hs => hhg2 _ (List.mem_map.mpr ⟨s, hs, rfl⟩)⟩
        rcases hhg1 with ⟨_, h⟩ | h
        · omega
        · obtain ⟨s, hs, rfl⟩ := List.mem_map.mp h
          exact (b7 s hs).1.high
      simp
      simp at b3 b5 b8
      refine (take_ok (n := n + 2) b8 (by omega) (by omega) (by omega)).mono fun d m2 ⟨v1, c1, c2, c3, c4, c5⟩ => ?_
      subst c1
      simp
      refine (take_ok (n := n + 2) c3 (by omega) (by omega) (by omega)).mono fun d m3 ⟨v2, d1, d2, d3, d4, d5⟩ => ?_
      subst d1
      simp
      refine ⟨by decide, ?_⟩
      refine (take_ok (n := n + 2) d3 (by omega) (by omega) (by omega)).mono fun d m4 ⟨v3, e1, e2, e3, e4, e5⟩ => ?_
      subst e1
      simp
      obtain ⟨d, hd, W, rfl, w1, w2⟩ := get_all (xs := [D.int (lg : Int), .int ((lg : Int) + (v1 : Int)), .int ((lg : Int) + (v2 : Int))]) (P := Num lg 40) (v := v3) (by simp; omega) (by simp [Num]; omega)
      refine ⟨_, hd, ?_⟩
      obtain ⟨W, rfl⟩ := Int.eq_ofNat_of_zero_le (show 0 ≤ W by omega)
      refine (take_ok (n := n + 2) e3 (by omega) (by omega) (by omega)).mono fun d m5 ⟨v4, f1, f2, f3, f4, f5⟩ => ?_
      subst f1
      simp
      refine (take_ok (n := n + 2) f3 (by omega) (by omega) (by omega)).mono fun d m6 ⟨v5, i1, i2, i3, i4, i5⟩ => ?_
      subst i1
      simp
      refine ⟨by decide, ?_⟩
      refine (take_ok (n := n + 2) i3 (by omega) (by omega) (by omega)).mono fun d m7 ⟨v6, j1, j2, j3, j4, j5⟩ => ?_
      subst j1
      simp
      obtain ⟨d, hd2, L, rfl, l1, l2⟩ := get_all (xs := [D.int ((hg : Int) + (v4 : Int)), .int ((hg : Int) + (v5 : Int))]) (P := Num hg 50) (v := v6) (by simp; omega) (by simp [Num]; omega)
      refine ⟨_, hd2, ?_⟩
      obtain ⟨L, rfl⟩ := Int.eq_ofNat_of_zero_le (show 0 ≤ L by omega)
      have kk := ((((c4.trans d4).trans e4).trans f4).trans i4).trans j4
      have g7 := kk.cell b2 (by simp; omega)
      simp [g7]
      refine ⟨by decide, ⟨W, L, secs⟩, rfl, ⟨by simp; omega, by simp; omega, by simp; omega, hlen, fun s hs => ?_⟩, j3.mono (by omega), b9.trans kk⟩
      obtain ⟨q1, q2⟩ := b7 s hs
      have q3 := hlg.2 s hs
      have q4 := hhg.2 s hs
      refine ⟨q1, q2, fun w hw => ?_, by simp; omega⟩
      have := (longest_ok q1).1 w hw
      simp
      omega
theorem book_ok (f : Tap h k m) (hk : k + 10000 < 1000000) : wp (bodyN fs wf (n + 4) f_l_book [.ref h] m) (k := ⟨fun d m' => ∃ b, d = encB b ∧ BookOk b ∧ Tap h (k + 5100) m' ∧ Keep (some h) m m'⟩) := by
  have hlt := f.lt
  rw [show f_l_book = ⟨"_law_book", 1, 13, [], (.seq (.set (.name 1) (.call "_law_take" (.cons (.var 0) (.cons (.cst (.int 6)) .nil))))
  (.seq (.set (.name 2) (.ite (.cmp .Lt (.var 1) (.cst (.int 2))) (.ix (.lst (.cons (.cst (.int 12)) (.cons (.cst (.int 4)) .nil))) (.var 1)) (.call "_law_take" (.cons (.var 0) (.cons (.cst (.int 5)) .nil)))))
  restB))⟩ from rfl, wp_body]
  simp [startE]
  refine (take_ok (n := n + 2) f (by omega) (by omega) (by omega)).mono fun d m1 ⟨v1, a1, a2, a3, a4, a5⟩ => ?_
  subst a1
  simp
  refine ⟨fun h1 => ?_, fun h1 => ?_⟩
  · obtain ⟨d, hd, many, rfl, e1, e2⟩ := get_all (xs := [D.int 12, .int 4]) (P := Num 0 12) (v := v1) (by simp; omega) (by simp [Num])
    refine ⟨by decide, _, hd, ?_⟩
    obtain ⟨many, rfl⟩ := Int.eq_ofNat_of_zero_le e1
    exact rest_ok hlt (a3.mono (by omega)) a4 hk (by omega)
  · refine (take_ok (n := n + 2) a3 (by omega) (by omega) (by omega)).mono fun d m2 ⟨v2, b1, b2, b3, b4, b5⟩ => ?_
    subst b1
    simp
    exact rest_ok hlt b3 (a4.trans b4) hk (by omega)
end
end Cs

set_option maxHeartbeats 0
set_option exponentiation.threshold 3000
/-! Cs5: lays by draws are let by; the bent lay is ahead of each; sooner lines. -/
namespace Cs
open PySem L2 Pf
theorem lay_fits {s : Sec} {W : Nat} {l : List Nat} (o : LayOk s W l) : Fits s W l := by
  refine ⟨fun i hi => ⟨(o.st.step i hi).1, o.st.le (i + 1) hi⟩, fun i hi => ?_, o.all, o.many, fun hv => ?_⟩
  · obtain ⟨h1, h2⟩ := o.st.step i hi
    have E := ends (sp := roomN s W i) (o.st.le i (by omega))
    have hr : 0 ≤ roomN s W i := by unfold roomN; omega
    rcases Nat.eq_or_lt_of_le h1 with q | q
    · rw [← q, wsum_self]
      omega
    · have := E.fits (fst l (i + 1) - 1) (by omega) (by omega)
      rw [show fst l (i + 1) - 1 + 1 = fst l (i + 1) by omega] at this
      exact this
  · have hg := o.st.go (l.length - 1) (by omega)
    have ha := o.all
    omega
/-- the bent lay is ahead of each that fits -/
theorem fits_ahead {s : Sec} {W : Nat} {l : List Nat} (F : Fits s W l) : ∀ i, i ≤ l.length → fst l i ≤ lay s W i
  | 0, _ => Nat.le_refl _
  | i + 1, h => by
    have ih := fits_ahead F i (by omega)
    obtain ⟨h1, h2⟩ := F.rise i (by omega)
    have h3 := F.room i (by omega)
    have S := lay_step (s := s) (W := W) i
    have h4 := S.le
    rcases Nat.lt_or_ge (lay s W (i + 1)) (fst l (i + 1)) with q | q
    · exfalso
      have out := S.out (by omega)
      have a1 := wsum_anti (ws := s.words) (a := fst l i) (c := lay s W i) (b := lay s W (i + 1) + 1) ih
      have a2 := wsum_mono (ws := s.words) (a := fst l i) (b := lay s W (i + 1) + 1) (c := fst l (i + 1)) (by omega)
      omega
    · exact q
theorem fits_many {s : Sec} {W : Nat} {l : List Nat} (o : SecOk s) (hW : ∀ w ∈ s.words, w.length ≤ W) (F : Fits s W l) : many s W ≤ l.length := by
  obtain ⟨I, _⟩ := many_is o hW
  rcases Nat.lt_or_ge l.length (many s W) with q | q
  · exfalso
    have h1 := I.before _ q
    have h2 := fits_ahead F l.length (Nat.le_refl _)
    have h3 := F.all
    have h4 := F.many
    omega
  · exact q
theorem begin_mono {L high l k : Nat} (hL : 1 ≤ L) (h1 : 1 ≤ high) (h2 : high ≤ L) (h : l ≤ k) : beginF L high l ≤ beginF L high k := by
  have b1 := begin_le (L := L) (high := high) (l := l)
  have b2 := begin_le (L := L) (high := high) (l := k)
  rcases Nat.lt_or_ge (beginF L high k) (beginF L high l) with q | q
  · exfalso
    have e1 := (seek (L := L) (high := high) (l := k) (e := beginF L high k) hL h1 h2 b2.1 (Nat.le_refl _)).mpr rfl
    have e2 := (seek (L := L) (high := high) (l := l) (e := beginF L high k) hL h1 h2 (by omega) (by omega)).mp e1
    omega
  · exact q
theorem begin_fits {L high l : Nat} (hL : 1 ≤ L) (h2 : high ≤ L) : beginF L high l % L + high ≤ L := by
  have hr := Nat.mod_lt l (show L > 0 by omega)
  have hd := Nat.div_add_mod l L
  unfold beginF
  split
  · omega
  · have e : l + (L - l % L) = L * (l / L + 1) := by rw [Nat.mul_add, Nat.mul_one]; omega
    rw [e, Nat.mul_mod_right]
    omega
theorem here_mono {b : Book} {l k : Nat} (o : BookOk b) (h : l ≤ k) : ∀ i, i ≤ b.secs.length → hereF b l i ≤ hereF b k i
  | 0, _ => h
  | i + 1, hi => by
    have hx : b.secs[i]? = some b.secs[i] := List.getElem?_eq_getElem (by omega)
    obtain ⟨so, sn, sw, sh⟩ := o.sec _ (List.getElem_mem (by omega : i < b.secs.length))
    rw [here_succ hx, here_succ hx]
    have := begin_mono (L := b.lines) o.pos so.high.1 sh (here_mono o h i (by omega))
    omega
/-- where the k-th section begins -/
noncomputable def begF (b : Book) (line k : Nat) : Nat := match b.secs[k]? with
  | some s => beginF b.lines s.high (hereF b line k)
  | none => 0
end Cs

set_option maxHeartbeats 0
set_option exponentiation.threshold 3000
/-! Ca9: no lay has fewer lines anew than told. -/
namespace Cs
open PySem L2 Pf
/-- a lay that is a way -/
structure WayBy (o : Sec) (W T : Nat) (l : List Nat) : Prop where
  le : ∀ i, i ≤ l.length → fst l i ≤ o.words.length
  step : ∀ i, i < l.length → fst l i ≤ fst l (i + 1) ∧ fst l (i + 1) ≤ endE o.words (fst l i) (roomN o W i)
  all : fst l l.length = o.words.length
  len : l.length ≤ T
section
variable {s o : Sec} {l k L : List Nat} {W T N far K : Nat}
theorem WayBy.few (w : WayBy o W T k) (hTN : T ≤ N) (hl : l.length ≤ N) : pr far o.words.length (ssOf s l o W T N) 0 0 ≤ (anew s l o k).length := by
  have hk := w.len
  have hN : (ssOf s l o W T N).length = N := ssOf_len
  have ww : Way (ssOf s l o W T N) (fun i => fst k (min i k.length)) (fun i => costN (lineD s l i) o i (fst k (min i k.length)) (fst k (min (i + 1) k.length))) := ⟨fun i rows hi => by
    have hiN : i < N := by have := lt_get hi; omega
    rw [ssOf_at hiN] at hi
    cases hi
    refine ⟨_, rowsOf_at (w.le _ (Nat.min_le_right _ _)), rowOf_in ?_⟩
    unfold endsL
    by_cases c : T ≤ i
    · rw [if_pos c, Nat.min_eq_right (by omega), Nat.min_eq_right (by omega)]
      exact List.mem_singleton.mpr rfl
    · rw [if_neg c]
      rcases Nat.lt_or_ge i k.length with q | q
      · rw [Nat.min_eq_left (by omega), Nat.min_eq_left (by omega)]
        have hle := w.step i q
        exact List.mem_map.mpr ⟨fst k (i + 1) - fst k i, List.mem_range.mpr (by omega), by omega⟩
      · rw [Nat.min_eq_right (by omega), Nat.min_eq_right (by omega)]
        have hle := (ends (ws := o.words) (a := fst k k.length) (sp := roomN o W i) (w.le _ (Nat.le_refl _))).le
        exact List.mem_map.mpr ⟨0, List.mem_range.mpr (by omega), rfl⟩⟩
  have hL : (fun i => fst k (min i k.length)) (ssOf s l o W T N).length = o.words.length := by
    show fst k (min _ k.length) = _
    rw [hN, Nat.min_eq_right (by omega)]
    exact w.all
  have a := way_ge (far := far) (n := o.words.length) ww hL N 0 (by omega)
  have eq : ∀ i, lineC o i (fst k (min i k.length)) (fst k (min (i + 1) k.length)) = lineD o k i := fun i => by
    unfold lineC lineD
    rcases Nat.lt_or_ge i k.length with q | q
    · rw [Nat.min_eq_left (by omega), Nat.min_eq_left (by omega), if_neg (show ¬ k.length ≤ i by omega), fst_succ]
    · rw [Nat.min_eq_right (by omega), Nat.min_eq_right (by omega), if_pos rfl, if_pos q]
  have e1 : (anew s l o k).length = costs (fun i => costN (lineD s l i) o i (fst k (min i k.length)) (fst k (min (i + 1) k.length))) 0 (max l.length k.length) := by
    unfold anew
    exact costs_filter (fun i => by
      show costN _ _ _ _ _ = _
      unfold costN
      rw [eq i]
      by_cases c : lineD o k i = lineD s l i
      · simp [c]
      · have c2 : ¬ lineD s l i = lineD o k i := fun z => c z.symm
        simp [c, c2]) _
  have t := costs_tail (C := fun i => costN (lineD s l i) o i (fst k (min i k.length)) (fst k (min (i + 1) k.length))) (M := max l.length k.length) (N - max l.length k.length) fun i h1 h2 => by
    show costN _ _ _ _ _ = 0
    unfold costN
    rw [eq i]
    have q1 : lineD o k i = .non := by
      unfold lineD
      rw [if_pos (by omega)]
    have q2 : lineD s l i = .non := by
      unfold lineD
      rw [if_pos (by omega)]
    rw [q1, q2, if_pos rfl]
  rw [show max l.length k.length + (N - max l.length k.length) = N by omega] at t
  rw [e1, ← t]
  have e : fst k (min 0 k.length) = 0 := by
    rw [Nat.zero_min]
    rfl
  simp only [e] at a
  exact a
theorem anew_sym : anew o k s l = anew s l o k := by
  unfold anew
  rw [Nat.max_comm]
  refine List.filter_congr fun i _ => ?_
  by_cases c : lineD o k i = lineD s l i
  · simp [c]
  · have c2 : ¬ lineD s l i = lineD o k i := fun z => c z.symm
    simp [c, c2]
theorem room_end {ws : List Str} {a e : Nat} {sp : Int} (ha : a ≤ ws.length) (he : e ≤ ws.length) (h : (wsum ws a e : Int) ≤ sp + 1) : e ≤ endE ws a sp := by
  have x := ends (sp := sp) ha
  refine Classical.byContradiction fun c => ?_
  have h1 := x.out (by omega)
  have h2 := wsum_mono (ws := ws) (a := a) (b := endE ws a sp + 1) (c := e) (by omega)
  omega
theorem Fits.way (F : Fits o W k) (hT : k.length ≤ T) : WayBy o W T k := by
  have le : ∀ i, i ≤ k.length → fst k i ≤ o.words.length := fun i hi => by
    cases i with
    | zero => exact Nat.zero_le _
    | succ i => exact (F.rise i (by omega)).2
  exact ⟨le, fun i hi => ⟨(F.rise i hi).1, room_end (le i (by omega)) (F.rise i hi).2 (F.room i hi)⟩, F.all, hT⟩
theorem Told.fits (F : Told o W T L K) (hK : K ≤ L.length) (hT : T ≤ 90) : Fits o W (L.take K) := by
  have hlk : (L.take K).length = K := by
    rw [List.length_take]
    omega
  have hm := F.many
  refine ⟨fun i hi => ?_, fun i hi => ?_, ?_, ⟨by omega, by omega⟩, fun hv => ?_⟩
  · rw [fst_take (by omega), fst_take (by omega)]
    exact F.rise i (by omega)
  · rw [fst_take (by omega), fst_take (by omega)]
    exact F.room i (by omega)
  · rw [hlk, fst_take (Nat.le_refl _)]
    exact F.all
  · rw [hlk] at hv ⊢
    rw [fst_take (by omega), fst_take (Nat.le_refl _)]
    exact F.void hv
end
end Cs

set_option maxHeartbeats 0
set_option exponentiation.threshold 3000
/-! Cb1: words and lays drawn from a feed (laws of lines anew). -/
namespace Cs
open PySem L2 Pf
def f_l_words : Fn := ⟨"_law_words", 2, 6, [],
  (.seq (.set (.name 2) (.ix (.lst (.cons (.cst (.int 8)) (.cons (.cst (.int 3)) (.cons (.cst (.int 1)) (.cons (.cst (.int 8)) .nil))))) (.call "_law_draw" (.cons (.var 0) (.cons (.cst (.int 4)) .nil)))))
  (.seq (.set (.name 3) (.lst .nil))
  (.seq (.for_ (.name 4) (.range1 (.var 1))
    (.seq (.set (.name 5) (.bin .Add (.cst (.int 1)) (.call "_law_draw" (.cons (.var 0) (.cons (.var 2) .nil)))))
    (.expr (.meth .append (.var 3) (.cons (.ite (.cmp .Eq (.call "_law_draw" (.cons (.var 0) (.cons (.cst (.int 2)) .nil))) (.cst (.int 0))) (.sl (.cst (.str "abcdefgh")) false true .never (.var 5)) (.bin .Mult (.cst (.str "z")) (.var 5))) .nil)))))
  (.ret (.bif .tuple (.cons (.var 3) .nil))))))⟩
def f_l_end : Fn := ⟨"_law_end", 3, 5, [],
  (.seq (.set (.name 3) (.neg (.cst (.int 1))))
  (.seq (.for_ (.name 4) (.range2 (.var 1) (.bif .len (.cons (.var 0) .nil)))
    (.seq (.set (.name 3) (.bin .Add (.bin .Add (.var 3) (.cst (.int 1))) (.bif .len (.cons (.ix (.var 0) (.var 4)) .nil))))
    (.ite (.cmp .Gt (.var 3) (.var 2))
      (.ret (.var 4))
      .skip)))
  (.ret (.bif .len (.cons (.var 0) .nil)))))⟩
def f_l_space : Fn := ⟨"_law_space", 3, 3, [],
  (.ret (.bif .max2 (.cons (.cst (.int 0)) (.cons (.bin .Sub (.var 2) (.ite (.cmp .Lt (.var 1) (.ix (.var 0) (.cst (.int 1)))) (.ix (.var 0) (.cst (.int 2))) (.cst (.int 0)))) .nil))))⟩
def f_l_layF : Fn := ⟨"_law_lay", 3, 6, [],
  (.seq (.par 3 4 (.lst .nil) (.cst (.int 0)))
  (.seq (.whl (.or (.cmp .Lt (.var 4) (.bif .len (.cons (.ix (.var 1) (.cst (.int 3))) .nil))) (.cmp .Lt (.bif .len (.cons (.var 3) .nil)) (.ix (.var 1) (.cst (.int 1)))))
    (.seq (.set (.name 5) (.call "_law_end" (.cons (.ix (.var 1) (.cst (.int 3))) (.cons (.var 4) (.cons (.call "_law_space" (.cons (.var 1) (.cons (.bif .len (.cons (.var 3) .nil)) (.cons (.var 2) .nil)))) .nil)))))
    (.seq (.ite (.and (.cmp .Lt (.bif .len (.cons (.var 3) .nil)) (.cst (.int 30))) (.cmp .Eq (.call "_law_draw" (.cons (.var 0) (.cons (.cst (.int 3)) .nil))) (.cst (.int 0))))
      (.set (.name 5) (.bin .Add (.var 4) (.call "_law_draw" (.cons (.var 0) (.cons (.bin .Add (.bin .Sub (.var 5) (.var 4)) (.cst (.int 1))) .nil)))))
      .skip)
    (.seq (.set (.name 4) (.var 5))
    (.expr (.meth .append (.var 3) (.cons (.var 4) .nil)))))))
  (.ret (.bif .tuple (.cons (.var 3) .nil)))))⟩
/-! ### draws of sections and lays -/
theorem good_cut {s : Nat} (h1 : 1 ≤ s) (h2 : s ≤ 8) : GoodV (cutS "abcdefgh" none (some (s : Int))) := by
  unfold GoodV
  obtain rfl | rfl | rfl | rfl | rfl | rfl | rfl | rfl : s = 1 ∨ s = 2 ∨ s = 3 ∨ s = 4 ∨ s = 5 ∨ s = 6 ∨ s = 7 ∨ s = 8 := by omega
  all_goals decide +kernel
theorem good_rep {s : Nat} (h1 : 1 ≤ s) (h2 : s ≤ 8) : GoodV (repS "z" s) := by
  unfold GoodV
  obtain rfl | rfl | rfl | rfl | rfl | rfl | rfl | rfl : s = 1 ∨ s = 2 ∨ s = 3 ∨ s = 4 ∨ s = 5 ∨ s = 6 ∨ s = 7 ∨ s = 8 := by omega
  all_goals decide +kernel
structure WsInv (h k : Nat) (m : Store) (many : Nat) (top : Int) (i : Nat) (r : Pf.Env) (m1 : Store) : Prop where
  ex : ∃ (ws : List Str) (x4 x5 : Option D), r = [some (.ref h), some (.int many), some (.int top), some (.ref m.length), x4, x5] ∧ m1[m.length]? = some (.lst (ws.map .str)) ∧ ws.length = i ∧ (∀ w ∈ ws, GoodV w) ∧ Feed h (k + 2 * i) m1 ∧ Keep (some h) m m1
section
variable {fs : List Fn} {wf n h k : Nat} {m : Store}
theorem words_ok [Has fs "_law_draw" f_l_draw 2] {many : Nat} (hm : many ≤ 40) (f : Feed h k m) (hk : k + 1000 < 1000000) : wp (bodyN fs wf (n + 2) f_l_words [.ref h, .int (many : Int)] m) (k := ⟨fun d m' => ∃ ws, ws.length = many ∧ (∀ w ∈ ws, GoodV w) ∧ d = encW ws ∧ Feed h (k + 100) m' ∧ Keep (some h) m m'⟩) := by
  have hlt := f.lt
  rw [wp_body]
  simp [f_l_words, startE]
  refine ⟨by decide, ?_⟩
  refine (draw_ok (n := n) f (by omega) (by omega) (by omega)).mono fun d m1 ⟨v, q1, q2, q3, q4, q5⟩ => ?_
  subst q1
  simp
  obtain ⟨d, hd, top, rfl, t1, t2⟩ := get_all (xs := [D.int 8, .int 3, .int 1, .int 8]) (P := Num 1 8) (v := v) (by simp; omega) (by simp [Num])
  refine ⟨_, hd, ⟨by omega, by omega⟩, ?_⟩
  refine wfor_inv (WsInv h (k + 1) m many top) ⟨[], none, none, by rw [q5], by rw [← q5]; simp, rfl, (fun _ z => nomatch z), q3.keep (Keep.new none _ _), q4.app _⟩
    (fun i x r m2 hx ⟨ws, x4, x5, hr, g1, g2, g3, g4, g5⟩ => ?_) (fun r m2 ⟨ws, x4, x5, hr, g1, g2, g3, g4, g5⟩ => ?_)
  · obtain ⟨hi, rfl⟩ := upto_get hx
    subst hr
    unfold fturn
    simp
    refine (draw_ok (n := n) g4 (by omega) t1 (by omega)).mono fun d m3 ⟨v1, a1, a2, a3, a4, a5⟩ => ?_
    subst a1
    have g1' := a4.cell g1 (by simp; omega)
    have e1 : (1 + (v1 : Int)) = ((1 + v1 : Nat) : Int) := by omega
    simp [g1']
    refine (draw_ok (n := n) a3 (by omega) (by omega) (by omega)).mono fun d m4 ⟨v2, b1, b2, b3, b4, b5⟩ => ?_
    subst b1
    have g1'' := b4.cell g1' (by simp; omega)
    have fin : ∀ w : Str, GoodV w → WsInv h (k + 1) m many top (i + 1) [some (.ref h), some (.int many), some (.int top), some (.ref m.length), some (.int (i : Int)), some (.int (1 + (v1 : Int)))] (m4.set m.length (.lst (ws.map .str ++ [.str w]))) := fun w hw =>
      ⟨ws ++ [w], _, _, rfl, by rw [get_set g1'']; simp, by simp [g2], fun y hy => (List.mem_append.mp hy).elim (g3 y) fun q => by cases List.mem_singleton.mp q; exact hw, (b3.mono (by omega)).set (by omega), ((g5.trans a4).trans b4).set_new (by omega) _⟩
    simp [g1'']
    have t1 : (1 + (v1 : Int)).toNat = 1 + v1 := by omega
    have hs : ((8 : Nat) ≤ sizeLine) ∧ (1 : Nat) ≤ sizeLine := by decide
    have hz : (Str.ofString "z").length = 1 := by decide +kernel
    have hwl : ws.length < sizeLine := by unfold sizeLine; omega
    refine ⟨fun h0 => ⟨by decide +kernel, hwl, ?_⟩, fun h0 => ⟨⟨by omega, by omega, by rw [hz]; unfold sizeLine; omega⟩, hwl, ?_⟩⟩
    · have := fin _ (good_cut (s := 1 + v1) (by omega) (by omega))
      rw [e1] at *
      exact this
    · rw [t1]
      exact fin _ (good_rep (by omega) (by omega))
  · subst hr
    simp at g2 g4
    simp [g1]
    exact ⟨ws, g2, g3, rfl, g4.mono (by omega), g5⟩
end
section
variable {s : Sec} {m : Store} {Q : R → Store → Prop}
@[simp ↓] theorem cut_s : wp (cutR (.d (encS s)) (some 1) (some 3) m) (k := ⟨Q⟩) ↔ Q (.d (.tup [.int s.high, .int s.wide])) m := by
  unfold encS
  rw [cut_tup]
  have e : cut [D.str s.name, D.int s.high, D.int s.wide, encW s.words] (some 1) (some 3) = [.int s.high, .int s.wide] := rfl
  rw [e]
end
section
variable {fs : List Fn} {wf n h k : Nat} {m : Store} {s : Sec} {W : Nat}
theorem space_ok {i : Nat} : wp (bodyN fs wf (n + 1) f_l_space [encS s, .int (i : Int), .int (W : Int)] m) (k := ⟨fun d m' => d = .int (roomN s W i) ∧ m' = m⟩) := by
  rw [wp_body]
  simp [f_l_space, startE]
  unfold roomN
  refine ⟨fun h => ?_, fun h => ?_⟩
  · rw [if_pos h]
    by_cases c : s.wide < W
    · rw [if_pos c, Int.max_eq_right (by omega)]
    · rw [if_neg c, Int.max_eq_left (by omega)]
  · rw [if_neg (show ¬ i < s.high by omega)]
    have e0 : (W : Int) - ((0 : Nat) : Int) = W := by omega
    rw [e0, Int.max_eq_right (by omega)]
    split <;> omega
theorem end_ok {ws : List Str} {first : Nat} {sp : Int} (hw : ∀ w ∈ ws, GoodV w) (hl : ws.length ≤ 40) (hf : first ≤ ws.length) : wp (bodyN fs wf (n + 1) f_l_end [encW ws, .int (first : Int), .int sp] m) (k := ⟨fun d m' => d = encN (endE ws first sp) ∧ IsEnd ws first sp (endE ws first sp) ∧ m' = m⟩) := by
  rw [wp_body]
  simp [f_l_end, startE]
  refine ⟨⟨by unfold small62; omega, by unfold small62; omega⟩, wfor_inv (fun i r m1 => m1 = m ∧ ∃ (x4 : Option D), r = [some (encW ws), some (.int first), some (.int sp), some (.int ((wsum ws first (first + i) : Int) - 1)), x4] ∧ ∀ e', first ≤ e' → e' < first + i → (wsum ws first (e' + 1) : Int) ≤ sp + 1)
    ⟨rfl, none, by rw [Nat.add_zero, wsum_self]; rfl, fun e' h1 h2 => by omega⟩ (fun i x r m1 hx ⟨e1, x4, hr, hz⟩ => ?_) (fun r m1 ⟨e1, x4, hr, hz⟩ => ?_)⟩
  · obtain ⟨hi, rfl⟩ := upto_get hx
    subst e1 hr
    have hj : first + i < ws.length := by omega
    have hg : ws[first + i]? = some ws[first + i] := List.getElem?_eq_getElem hj
    have gw := (hw _ (List.getElem_mem hj)).1
    generalize ws[first + i] = w at *
    have hs := wsum_succ (show first ≤ first + i by omega) hg
    have e : ((first : Int) + (i : Int)) = ((first + i : Nat) : Int) := by omega
    have hsz : w.length = w.cps.size := rfl
    have hat : L2.atI ws ((first : Int) + (i : Int)) = some w := by rw [e, Pf.atI_nat, hg]
    have e2 : (wsum ws first (first + i) : Int) - 1 + 1 + (w.length : Int) = (wsum ws first (first + i + 1) : Int) - 1 := by omega
    unfold fturn
    simp [hat]
    refine ⟨by unfold sizeLine; omega, fun hgt => ?_, fun hle => ⟨?_, fun e' h1 h2 => ?_⟩⟩
    · have J : IsEnd ws first sp (first + i) := ⟨⟨by omega, by omega⟩, hz, fun _ => by omega⟩
      rw [endE_of J]
      exact ⟨by unfold encN; rw [e], J⟩
    · rw [show first + (i + 1) = first + i + 1 by omega]
      omega
    · rcases Nat.lt_or_ge e' (first + i) with c | c
      · exact hz e' h1 c
      · obtain rfl : e' = first + i := by omega
        omega
  · subst e1 hr
    have hnn : ((ws.length : Int) - (first : Int)).toNat = ws.length - first := by omega
    simp at hz
    have J : IsEnd ws first sp ws.length := ⟨⟨by omega, by omega⟩, fun e' h1 h2 => hz e' h1 (by omega), fun z => by omega⟩
    simp
    rw [endE_of J]
    exact ⟨rfl, J⟩
theorem lay_ok [Has fs "_law_draw" f_l_draw 2] [Has fs "_law_end" f_l_end 3] [Has fs "_law_space" f_l_space 3] (f : Feed h k m) (hk : k + 1000 < 1000000) (o : SecOk s) (hW : ∀ w ∈ s.words, w.length ≤ W) (hwf : 1000 < wf) : wp (bodyN fs wf (n + 2) f_l_layF [.ref h, encS s, .int (W : Int)] m) (k := ⟨fun d m' => ∃ l, LayOk s W l ∧ d = encL l ∧ Feed h (k + 200) m' ∧ Keep (some h) m m'⟩) := by
  have hl := o.len
  have hh := o.high
  have hlt := f.lt
  rw [wp_body]
  simp [f_l_layF, startE]
  refine s_while' (fun k' r m2 => ∃ (l : List Nat) (x5 : Option D), k' = (30 - l.length) + (s.words.length - fst l l.length) ∧ r = [some (.ref h), some (encS s), some (.int (W : Int)), some (.ref m.length), some (.int (fst l l.length : Nat)), x5] ∧ m2[m.length]? = some (.lst (l.map encN)) ∧ LaySt s W l ∧ l.length + k' ≤ 70 ∧ Feed h (k + 2 * l.length) m2 ∧ Keep (some h) m m2)
    (k := 30 + s.words.length) (by omega) ⟨[], none, rfl, rfl, by simp, .nil, by simp; omega, f.keep (Keep.new none m _), Keep.new _ m _⟩ (fun k' r m2 ⟨l, x5, hk', hr, h1, h2, h3, h4, h5⟩ => ?_)
  subst hr
  have hle := h2.le l.length (Nat.le_refl _)
  have hE := (ends (sp := roomN s W l.length) hle)
  have hgrow : s.high ≤ l.length → fst l l.length < s.words.length → fst l l.length < endE s.words (fst l l.length) (roomN s W l.length) := fun q1 q2 => hE.more q2 fun w hw => by
    have := hW w hw
    unfold roomN
    rw [if_neg (by omega)]
    omega
  have main : ∀ (x : Nat) (m3 : Store), m3[m.length]? = some (.lst (l.map encN)) → (l.length < s.high ∨ fst l l.length < s.words.length) → fst l l.length ≤ x → x ≤ endE s.words (fst l l.length) (roomN s W l.length) → (l.length < 30 ∨ x = endE s.words (fst l l.length) (roomN s W l.length)) → Feed h (k + 2 * l.length + 2) m3 → Keep (some h) m m3 →
      ∃ k'', k'' < k' ∧ ∃ l' : List Nat, k'' = (30 - l'.length) + (s.words.length - fst l' l'.length) ∧ (x : Int) = (fst l' l'.length : Nat) ∧ (m3.set m.length (.lst (l.map encN ++ [encN x])))[m.length]? = some (.lst (l'.map encN)) ∧ LaySt s W l' ∧ l'.length + k'' ≤ 70 ∧ Feed h (k + 2 * l'.length) (m3.set m.length (.lst (l.map encN ++ [encN x]))) ∧ Keep (some h) m (m3.set m.length (.lst (l.map encN ++ [encN x]))) := fun x m3 g1 hc hx1 hx2 hx3 hf hkp => by
    have h9 := hE.le
    have eL : (l ++ [x]).length = l.length + 1 := by simp
    have eF : fst (l ++ [x]) (l ++ [x]).length = x := by rw [eL]; exact fst_end
    have hg : l.length < 30 ∨ fst l l.length < x := by
      rcases hx3 with q | q
      · exact .inl q
      · rcases Nat.lt_or_ge l.length 30 with z | z
        · exact .inl z
        · exact .inr (by have := hgrow (by omega) (by omega); omega)
    refine ⟨(30 - (l ++ [x]).length) + (s.words.length - fst (l ++ [x]) (l ++ [x]).length), by rw [eF, eL]; omega, l ++ [x], rfl, by rw [eF], (get_set g1 _).trans (by rw [List.map_append]; rfl), h2.app hx1 hx2 hc, by rw [eF, eL]; omega, by rw [eL]; exact (hf.set (by omega)).mono (by omega), hkp.set_new (by omega) _⟩
  have fin : ¬ (fst l l.length < s.words.length ∨ l.length < s.high) → ∃ l', LayOk s W l' ∧ encL l = encL l' ∧ Feed h (k + 200) m2 ∧ Keep (some h) m m2 := fun hn =>
    ⟨l, ⟨h2, by omega, by omega⟩, rfl, h4.mono (by omega), h5⟩
  simp [h1]
  refine ⟨fun hA => ?_, fun hA => ⟨fun hB => ?_, fun hB => fin (by omega)⟩⟩
  all_goals
    have hc : l.length < s.high ∨ fst l l.length < s.words.length := by omega
    refine (space_ok (n := n) (i := l.length) (W := W)).mono fun d m3 ⟨z1, z2⟩ => ?_
    subst z1 z2
    simp
    refine (end_ok (n := n) (first := fst l l.length) (sp := roomN s W l.length) o.words hl.2 hle).mono fun d m3 ⟨z1, I, z2⟩ => ?_
    subst z1 z2
    have h9 := I.le
    simp [h1, encN]
    refine ⟨fun h30 => ?_, fun h30 => ⟨by unfold sizeLine; omega, ?_⟩⟩
    · refine (draw_ok (n := n) h4 (by omega) (by omega) (by omega)).mono fun d m4 ⟨v, a1, a2, a3, a4, a5⟩ => ?_
      subst a1
      have g4 := a4.cell h1 (by simp; omega)
      simp [encN]
      refine ⟨fun h0 => ?_, fun h0 => ?_⟩
      · refine (draw_ok (n := n) (many := ((endE s.words (fst l l.length) (roomN s W l.length) : Nat) : Int) - ((fst l l.length : Nat) : Int) + 1) a3 (by omega) (by omega) (by omega)).mono fun d m5 ⟨v2, b1, b2, b3, b4, b5⟩ => ?_
        subst b1
        have g5 := b4.cell g4 (by simp; omega)
        simp [g5]
        refine ⟨by unfold sizeLine; omega, ?_⟩
        have := main (fst l l.length + v2) m5 g5 hc (by omega) (by omega) (.inl (by omega)) (b3.mono (by omega)) ((h5.trans a4).trans b4)
        simpa [encN] using this
      · simp [g4]
        refine ⟨by unfold sizeLine; omega, ?_⟩
        have := main _ m4 g4 hc h9.1 (Nat.le_refl _) (.inl (by omega)) (a3.mono (by omega)) (h5.trans a4)
        simpa [encN] using this
    · have := main _ m3 h1 hc h9.1 (Nat.le_refl _) (.inr rfl) (h4.mono (by omega)) h5
      simpa [encN] using this
end

end Cs

set_option maxHeartbeats 0
set_option exponentiation.threshold 3000
/-! Cb2: every lay of few lines, plainly. -/
namespace Cs
open PySem L2 Pf
section
variable {o : Sec} {W : Nat}
/-- longer by a line -/
noncomputable def nextL (o : Sec) (W i : Nat) (l : List Nat) : List (List Nat) := (List.range (endE o.words (fst l l.length) (roomN o W i) + 1 - fst l l.length)).map fun j => l ++ [fst l l.length + j]
noncomputable def rowsL (o : Sec) (W : Nat) : Nat → List (List Nat)
  | 0 => [[]]
  | i + 1 => (rowsL o W i).flatMap (nextL o W i)
def goodL (o : Sec) (l : List Nat) : Bool := decide (fst l l.length = o.words.length ∧ o.high ≤ l.length ∧ (l.length = o.high ∨ fst l (l.length - 1) < fst l l.length))
noncomputable def everyL (o : Sec) (W : Nat) : Nat → List (List Nat)
  | 0 => []
  | n + 1 => everyL o W n ++ (rowsL o W (n + 1)).filter (goodL o)
structure RowOk (o : Sec) (W i : Nat) (l : List Nat) : Prop where
  len : l.length = i
  le : ∀ j, j ≤ i → fst l j ≤ o.words.length
  step : ∀ j, j < i → fst l j ≤ fst l (j + 1) ∧ fst l (j + 1) ≤ endE o.words (fst l j) (roomN o W j)
theorem rows_in : ∀ (i : Nat) (l : List Nat), l ∈ rowsL o W i ↔ RowOk o W i l
  | 0, l => by
    constructor
    · intro h
      rw [List.mem_singleton.mp h]
      exact ⟨rfl, fun j hj => by
        obtain rfl : j = 0 := by omega
        exact Nat.zero_le _, fun j hj => absurd hj (Nat.not_lt_zero _)⟩
    · intro h
      rw [List.length_eq_zero_iff.mp h.len]
      exact List.mem_singleton.mpr rfl
  | i + 1, l => by
    constructor
    · intro h
      obtain ⟨p, hp, hl⟩ := List.mem_flatMap.mp h
      have P := (rows_in i p).mp hp
      obtain ⟨j, hj, rfl⟩ := List.mem_map.mp hl
      have hj := List.mem_range.mp hj
      have hpl := P.len
      have I := ends (ws := o.words) (a := fst p p.length) (sp := roomN o W i) (P.le _ (by omega))
      have hle := I.le
      have e1 : ∀ q, q ≤ i → fst (p ++ [fst p p.length + j]) q = fst p q := fun q hq => fst_app (by omega)
      have e2 : fst (p ++ [fst p p.length + j]) (i + 1) = fst p p.length + j := by rw [← hpl]; exact fst_end
      refine ⟨by simp [hpl], fun q hq => ?_, fun q hq => ?_⟩
      · rcases Nat.lt_or_ge i q with c | c
        · obtain rfl : q = i + 1 := by omega
          rw [e2]
          omega
        · rw [e1 q c]
          exact P.le q c
      · rcases Nat.lt_or_ge q i with c | c
        · rw [e1 q (by omega), e1 (q + 1) (by omega)]
          exact P.step q c
        · obtain rfl : q = i := by omega
          rw [e1 q (Nat.le_refl _), e2, hpl]
          rw [hpl] at hj hle
          omega
    · intro h
      have hl := h.len
      obtain ⟨p, a, rfl⟩ : ∃ p a, l = p ++ [a] := ⟨l.dropLast, l.getLast (fun z => by rw [z] at hl; simp at hl), (List.dropLast_concat_getLast _).symm⟩
      have hpl : p.length = i := by simpa using hl
      have e1 : ∀ q, q ≤ i → fst (p ++ [a]) q = fst p q := fun q hq => fst_app (by omega)
      have e2 : fst (p ++ [a]) (i + 1) = a := by rw [← hpl]; exact fst_end
      have P : RowOk o W i p := ⟨hpl, fun q hq => by
        rw [← e1 q hq]
        exact h.le q (by omega), fun q hq => by
        rw [← e1 q (by omega), ← e1 (q + 1) (by omega)]
        exact h.step q (by omega)⟩
      have hs := h.step i (by omega)
      rw [e1 i (Nat.le_refl _), e2] at hs
      refine List.mem_flatMap.mpr ⟨p, (rows_in i p).mpr P, List.mem_map.mpr ⟨a - fst p p.length, List.mem_range.mpr ?_, ?_⟩⟩
      · rw [hpl]
        omega
      · rw [hpl, show fst p i + (a - fst p i) = a by omega]
theorem every_in : ∀ (n : Nat) (l : List Nat), l ∈ everyL o W n ↔ (1 ≤ l.length ∧ l.length ≤ n) ∧ RowOk o W l.length l ∧ goodL o l = true
  | 0, l => by
    constructor
    · intro h
      exact nomatch h
    · rintro ⟨⟨h1, h2⟩, _⟩
      omega
  | n + 1, l => by
    constructor
    · intro h
      rcases List.mem_append.mp h with h | h
      · obtain ⟨⟨h1, h2⟩, h3⟩ := (every_in n l).mp h
        exact ⟨⟨h1, by omega⟩, h3⟩
      · obtain ⟨h1, h2⟩ := List.mem_filter.mp h
        have R := (rows_in _ _).mp h1
        have e := R.len
        rw [← e] at R
        exact ⟨⟨by omega, by omega⟩, R, h2⟩
    · rintro ⟨⟨h1, h2⟩, h3, h4⟩
      rcases Nat.lt_or_ge n l.length with c | c
      · have e : l.length = n + 1 := by omega
        rw [e] at h3
        exact List.mem_append_right _ (List.mem_filter.mpr ⟨(rows_in _ _).mpr h3, h4⟩)
      · exact List.mem_append_left _ ((every_in n l).mpr ⟨⟨h1, c⟩, h3, h4⟩)
theorem rows_len (oo : SecOk o) {K : Nat} (hK : o.words.length ≤ K) : ∀ i, (rowsL o W i).length ≤ (K + 1) ^ i
  | 0 => by simp [rowsL]
  | i + 1 => by
    have ih := rows_len oo hK i
    have key : ∀ ls : List (List Nat), (∀ l ∈ ls, l ∈ rowsL o W i) → (ls.flatMap (nextL o W i)).length ≤ (K + 1) * ls.length := fun ls => by
      induction ls with
      | nil => intro _; simp
      | cons a r ih =>
        intro h
        rw [List.flatMap_cons, List.length_append, List.length_cons]
        have h1 := ih fun l hl => h l (List.mem_cons_of_mem _ hl)
        have P := (rows_in _ _).mp (h a List.mem_cons_self)
        have hle := (ends (ws := o.words) (a := fst a a.length) (sp := roomN o W i) (P.le _ (by rw [P.len]; exact Nat.le_refl _))).le
        have h2 : (nextL o W i a).length ≤ K + 1 := by
          unfold nextL
          rw [List.length_map, List.length_range]
          omega
        rw [Nat.mul_add, Nat.mul_one]
        omega
    have := key _ fun l hl => hl
    show ((rowsL o W i).flatMap (nextL o W i)).length ≤ _
    rw [Nat.pow_succ, Nat.mul_comm ((K + 1) ^ i)]
    exact Nat.le_trans this (Nat.mul_le_mul_left _ ih)
theorem every_fits (oo : SecOk o) {n : Nat} (hn : n ≤ 90) {l : List Nat} (h : l ∈ everyL o W n) : Fits o W l := by
  obtain ⟨⟨h1, h2⟩, R, g⟩ := (every_in n l).mp h
  have g := of_decide_eq_true g
  refine ⟨fun i hi => ⟨(R.step i hi).1, R.le (i + 1) hi⟩, fun i hi => ?_, g.1, ⟨g.2.1, by omega⟩, fun hv => by have := g.2.2; omega⟩
  obtain ⟨s1, s2⟩ := R.step i hi
  have E := ends (sp := roomN o W i) (R.le i (by omega))
  have hr := room_nn (o := o) (W := W) (i := i)
  rcases Nat.eq_or_lt_of_le s1 with q | q
  · rw [← q, wsum_self]
    omega
  · have := E.fits (fst l (i + 1) - 1) (by omega) (by omega)
    rw [show fst l (i + 1) - 1 + 1 = fst l (i + 1) by omega] at this
    exact this
theorem fits_every (oo : SecOk o) {n : Nat} {l : List Nat} (F : Fits o W l) (hn : l.length ≤ n) : l ∈ everyL o W n := by
  have w := F.way (T := l.length) (Nat.le_refl _)
  have hm := F.many
  have hh := oo.high
  refine (every_in n l).mpr ⟨⟨by omega, hn⟩, ⟨rfl, w.le, w.step⟩, decide_eq_true ⟨F.all, hm.1, ?_⟩⟩
  rcases Nat.lt_or_ge o.high l.length with c | c
  · exact .inr (F.void c)
  · exact .inl (by omega)
end
end Cs

set_option maxHeartbeats 0
set_option exponentiation.threshold 3000
/-! Cb3: every lay of few lines, walked. -/
namespace Cs
open PySem L2 Pf
def f_l_all_lays : Fn := ⟨"_law_all_lays", 3, 12, [],
  (.seq (.par 3 4 (.lst .nil) (.lst (.cons (.tup .nil) .nil)))
  (.seq (.for_ (.name 5) (.range1 (.var 2))
    (.seq (.set (.name 6) (.lst .nil))
    (.seq (.for_ (.name 7) (.seq (.var 4))
      (.seq (.set (.name 8) (.ite (.cmp .NotEq (.var 7) (.tup .nil)) (.ix (.var 7) (.neg (.cst (.int 1)))) (.cst (.int 0))))
      (.seq (.set (.name 9) (.call "_law_end" (.cons (.ix (.var 0) (.cst (.int 3))) (.cons (.var 8) (.cons (.call "_law_space" (.cons (.var 0) (.cons (.var 5) (.cons (.var 1) .nil)))) .nil)))))
      (.expr (.meth .extend (.var 6) (.cons (.comp [10, 11] (.name 11) (.range2 (.var 8) (.bin .Add (.var 9) (.cst (.int 1)))) (.cst (.bl true)) (.bin .Add (.var 7) (.tup (.cons (.var 11) .nil)))) .nil))))))
    (.seq (.set (.name 4) (.var 6))
    (.for_ (.name 7) (.seq (.var 4))
      (.ite (.and (.cmp .Eq (.ix (.var 7) (.neg (.cst (.int 1)))) (.bif .len (.cons (.ix (.var 0) (.cst (.int 3))) .nil))) (.cmp .GtE (.bin .Add (.var 5) (.cst (.int 1))) (.ix (.var 0) (.cst (.int 1)))))
        (.ite (.or (.cmp .Eq (.bin .Add (.var 5) (.cst (.int 1))) (.ix (.var 0) (.cst (.int 1)))) (.cmp .Gt (.ix (.var 7) (.neg (.cst (.int 1)))) (.ix (.var 7) (.neg (.cst (.int 2))))))
          (.expr (.meth .append (.var 3) (.cons (.var 7) .nil)))
          .skip)
        .skip))))))
  (.ret (.var 3))))⟩
theorem next_len {o : Sec} {W i : Nat} {ls : List (List Nat)} (h : ∀ l ∈ ls, l ∈ rowsL o W i) : (ls.flatMap (nextL o W i)).length ≤ (o.words.length + 1) * ls.length := by
  induction ls with
  | nil => simp
  | cons a r ih =>
    rw [List.flatMap_cons, List.length_append, List.length_cons]
    have h1 := ih fun l hl => h l (List.mem_cons_of_mem _ hl)
    have P := (rows_in _ _).mp (h a List.mem_cons_self)
    have hle := (ends (ws := o.words) (a := fst a a.length) (sp := roomN o W i) (P.le _ (by rw [P.len]; exact Nat.le_refl _))).le
    have h2 : (nextL o W i a).length ≤ o.words.length + 1 := by
      unfold nextL
      rw [List.length_map, List.length_range]
      omega
    rw [Nat.mul_add, Nat.mul_one]
    omega
theorem every_len {o : Sec} {W : Nat} (oo : SecOk o) (h6 : o.words.length ≤ 6) : ∀ n, n ≤ 5 → (everyL o W n).length ≤ n * 16807
  | 0, _ => Nat.le_refl _
  | n + 1, h => by
    have ih := every_len (W := W) oo h6 n (by omega)
    have a : (rowsL o W (n + 1)).length ≤ 7 ^ (n + 1) := rows_len oo h6 _
    have b : 7 ^ (n + 1) ≤ 16807 := Nat.pow_le_pow_right (n := 7) (by omega) (show n + 1 ≤ 5 by omega)
    have c := List.length_filter_le (goodL o) (rowsL o W (n + 1))
    show (everyL o W n ++ _).length ≤ _
    rw [List.length_append]
    omega
theorem encL_simp {l : List Nat} : Simple 1 (encL l) := .tup fun x hx => by
  obtain ⟨j, _, rfl⟩ := List.mem_map.mp hx
  exact .int _
section
variable {fs : List Fn} {wf n : Nat} {m : Store} {o : Sec} {W M : Nat}
theorem all_ok [Has fs "_law_end" f_l_end 3] [Has fs "_law_space" f_l_space 3] (oo : SecOk o) (h6 : o.words.length ≤ 6) (hM : M ≤ 5) : wp (bodyN fs wf (n + 2) f_l_all_lays [encS o, .int (W : Int), .int (M : Int)] m) (k := ⟨fun d m' => ∃ a, d = .ref a ∧ m'[a]? = some (.lst ((everyL o W M).map encL)) ∧ Keep none m m'⟩) := by
  have hl := oo.len
  have hh := oo.high
  rw [wp_body]
  simp [f_l_all_lays, startE]
  obtain ⟨q, hq⟩ : ∃ q, q = m.length := ⟨_, rfl⟩
  obtain ⟨m0, hm0⟩ : ∃ m0 : Store, m0 = m ++ [Cell.lst [], Cell.lst [.tup []]] := ⟨_, rfl⟩
  have gq : m0[q]? = some (.lst ((everyL o W 0).map encL)) := by rw [hm0, hq]; simp [everyL]
  have gr : m0[q + 1]? = some (.lst ((rowsL o W 0).map encL)) := by rw [hm0, hq]; simp [rowsL, encL, tupOf]
  have kk : Keep none m m0 := by rw [hm0]; exact (Keep.refl none m).app _
  have pw : ∀ i, i ≤ 5 → (rowsL o W i).length ≤ 7 ^ i := fun i _ => rows_len oo h6 i
  refine ⟨by decide, by unfold small62; omega, wfor_inv (fun i r m1 => ∃ (c : Nat) (x5 x6 x7 x8 x9 : Option D), r = [some (encS o), some (.int W), some (.int M), some (.ref q), some (.ref c), x5, x6, x7, x8, x9, none, none] ∧ m.length ≤ c ∧ c ≠ q ∧ m1[q]? = some (.lst ((everyL o W i).map encL)) ∧ m1[c]? = some (.lst ((rowsL o W i).map encL)) ∧ Keep none m m1) ⟨q + 1, none, none, none, none, none, ?_, by omega, by omega, ?_, ?_, ?_⟩ (fun i x r m1 hx ⟨c, x5, x6, x7, x8, x9, hr, hc1, hc2, g1, g2, k1⟩ => ?_) (fun r m1 ⟨c, x5, x6, x7, x8, x9, hr, hc1, hc2, g1, g2, k1⟩ => ?_)⟩
  · rw [hq]
  · rw [← hm0]
    exact gq
  · rw [← hm0]
    exact gr
  · rw [← hm0]
    exact kk
  · obtain ⟨hi, rfl⟩ := upto_get hx
    have hi : i < M := by simpa using hi
    subst hr
    unfold fturn
    simp [g2]
    obtain ⟨b, hb⟩ : ∃ b, b = m1.length := ⟨_, rfl⟩
    have hqb := lt_get g1
    have hcb := lt_get g2
    obtain ⟨m2, hm2⟩ : ∃ m2, m2 = m1 ++ [Cell.lst []] := ⟨_, rfl⟩
    have h1 : m2[q]? = some (.lst ((everyL o W i).map encL)) := by rw [hm2, List.getElem?_append_left hqb]; exact g1
    have h2 : m2[c]? = some (.lst ((rowsL o W i).map encL)) := by rw [hm2, List.getElem?_append_left hcb]; exact g2
    have h3 : m2[b]? = some (.lst ([].map encL)) := by rw [hm2, hb]; simp
    have k2 : Keep none m m2 := by rw [hm2]; exact k1.app _
    have hmb : m.length ≤ b := by
      have := k1.len
      omega
    rw [← hm2, ← hb]
    refine ⟨_, h2, rfl, ?_⟩
    have ei : (Cell.lst ((rowsL o W i).map encL)).items = (rowsL o W i).map encL := rfl
    rw [ei]
    have hrl := pw i (by omega)
    have h7 : 7 ^ i ≤ 2401 := Nat.pow_le_pow_right (n := 7) (by omega) (show i ≤ 4 by omega)
    refine wfor_typed (rowsL o W i) encL rfl (fun k r m3 => ∃ x7 x8 x9, r = [some (encS o), some (.int W), some (.int M), some (.ref q), some (.ref c), some (.int (i : Int)), some (.ref b), x7, x8, x9, none, none] ∧ m3[q]? = some (.lst ((everyL o W i).map encL)) ∧ m3[c]? = some (.lst ((rowsL o W i).map encL)) ∧ m3[b]? = some (.lst ((((rowsL o W i).take k).flatMap (nextL o W i)).map encL)) ∧ Keep none m m3) ⟨_, _, _, rfl, h1, h2, h3, k2⟩ (fun k l r m3 hx ⟨y7, y8, y9, hr, j1, j2, j3, k3⟩ => ?_) (fun r m3 ⟨y7, y8, y9, hr, j1, j2, j3, k3⟩ => ?_)
    · subst hr
      have hlm := List.mem_of_getElem? hx
      have P := (rows_in _ _).mp hlm
      have hpl := P.len
      unfold fturn
      simp [j2]
      rw [ne_simple encL_simp (d' := 1) (.tup fun x hx => absurd hx (by simp)) (by omega) (by omega)]
      have hA : fst l l.length ≤ o.words.length := P.le _ (by omega)
      have hk := lt_get hx
      have htk : (rowsL o W i).take (k + 1) = (rowsL o W i).take k ++ [l] := by
        rw [List.take_add_one, hx]
        rfl
      have hsum : (List.take k (List.map (fun a => (nextL o W i a).length) (rowsL o W i))).sum + (nextL o W i l).length ≤ sizeLine := by
        have h := next_len (o := o) (W := W) (i := i) (ls := (rowsL o W i).take (k + 1)) fun a ha => List.mem_of_mem_take ha
        have e1 : ((rowsL o W i).take (k + 1)).length ≤ 2402 := by
          rw [List.length_take]
          omega
        have e2 := Nat.mul_le_mul (show o.words.length + 1 ≤ 7 by omega) e1
        rw [htk, List.flatMap_append, List.length_append] at h
        simp at h
        rw [htk] at e2
        simp at e2
        unfold sizeLine
        omega
      have put : (m3.set b (.lst ((((rowsL o W i).take k).flatMap (nextL o W i)).map encL ++ (nextL o W i l).map encL)))[q]? = some (.lst ((everyL o W i).map encL)) ∧ (m3.set b (.lst ((((rowsL o W i).take k).flatMap (nextL o W i)).map encL ++ (nextL o W i l).map encL)))[c]? = some (.lst ((rowsL o W i).map encL)) ∧ (m3.set b (.lst ((((rowsL o W i).take k).flatMap (nextL o W i)).map encL ++ (nextL o W i l).map encL)))[b]? = some (.lst ((((rowsL o W i).take (k + 1)).flatMap (nextL o W i)).map encL)) ∧ Keep none m (m3.set b (.lst ((((rowsL o W i).take k).flatMap (nextL o W i)).map encL ++ (nextL o W i l).map encL))) := by
        refine ⟨?_, ?_, ?_, k3.set_new hmb _⟩
        · rw [List.getElem?_set_ne (by omega)]
          exact j1
        · rw [List.getElem?_set_ne (by omega)]
          exact j2
        · rw [get_set j3, htk, List.flatMap_append, List.map_append]
          simp
      by_cases hl0 : l = []
      · have hA0 : fst l l.length = 0 := by rw [hl0]; rfl
        have e0 : encL l = D.tup [] := by rw [hl0]; rfl
        rw [e0]
        simp
        refine (space_ok (n := n) (s := o) (i := i) (W := W)).mono fun d m4 ⟨z1, z2⟩ => ?_
        subst z1 z2
        simp
        refine (end_ok (n := n) (first := 0) (sp := roomN o W i) oo.words hl.2 (by omega)).mono fun d m4 ⟨z1, I, z2⟩ => ?_
        subst z1 z2
        have hle := I.le
        simp [encN]
        have en : (List.range (endE o.words 0 (roomN o W i) + 1)).map (fun z => encL [z]) = (nextL o W i l).map encL := by
          unfold nextL
          rw [List.map_map, hl0]
          show _ = (List.range (endE o.words 0 (roomN o W i) + 1 - 0)).map _
          rw [Nat.sub_zero]
          refine List.map_congr_left fun z _ => ?_
          show encL [z] = encL ([] ++ [0 + z])
          rw [Nat.zero_add]
          rfl
        refine ⟨⟨_, j3⟩, ⟨by unfold small62; omega, by unfold small62; omega⟩, wcomp_map (List.range (endE o.words 0 (roomN o W i) + 1)) encN (fun z => encL [z]) upto_encN (by simp) (fun z hz => ?_) ?_⟩
        · unfold cturn
          simp [encN]
          exact ⟨by decide, rfl⟩
        · rw [en]
          simp [j3]
          have hln : (nextL o W i l).length ≤ sizeLine := by omega
          exact ⟨hln, hsum, put⟩
      · have e0 : ¬ encL l = D.tup [] := fun z => hl0 (by
          unfold encL tupOf at z
          simpa using z)
        have hgl : l.getLast? = some (fst l l.length) := by
          rw [List.getLast?_eq_getElem?]
          have : l ≠ [] := hl0
          obtain ⟨j, hj⟩ : ∃ j, l.length = j + 1 := ⟨l.length - 1, by
            have := List.length_pos_iff.mpr hl0
            omega⟩
          rw [hj, fst_succ, show j + 1 - 1 = j by omega]
          exact get_getD (by omega)
        simp [e0, hgl]
        refine (space_ok (n := n) (s := o) (i := i) (W := W)).mono fun d m4 ⟨z1, z2⟩ => ?_
        subst z1 z2
        simp [encN]
        refine (end_ok (n := n) (first := fst l l.length) (sp := roomN o W i) oo.words hl.2 hA).mono fun d m4 ⟨z1, I, z2⟩ => ?_
        subst z1 z2
        have hle := I.le
        simp [encN]
        refine ⟨⟨_, j3⟩, ⟨by unfold small62; omega, by unfold small62; omega⟩, wcomp_map (List.range (endE o.words (fst l l.length) (roomN o W i) + 1 - fst l l.length)) (fun z => D.int ((fst l l.length : Int) + (z : Int))) (fun z => encL (l ++ [fst l l.length + z])) rfl (by simp) (fun z hz => ?_) ?_⟩
        · unfold cturn
          simp [encN]
          refine ⟨by decide, by unfold sizeLine; omega, ?_⟩
          unfold encL tupOf
          rw [List.map_append]
          rfl
        · have en : (List.range (endE o.words (fst l l.length) (roomN o W i) + 1 - fst l l.length)).map (fun z => encL (l ++ [fst l l.length + z])) = (nextL o W i l).map encL := by
            unfold nextL
            rw [List.map_map]
            rfl
          rw [en]
          simp [j3]
          have hln : (nextL o W i l).length ≤ sizeLine := by omega
          exact ⟨hln, hsum, put⟩
    · subst hr
      rw [List.take_length] at j3
      have j3 : m3[b]? = some (.lst ((rowsL o W (i + 1)).map encL)) := j3
      simp [j2]
      refine ⟨_, j3, rfl, ?_⟩
      have ej : (Cell.lst ((rowsL o W (i + 1)).map encL)).items = (rowsL o W (i + 1)).map encL := rfl
      rw [ej]
      have hel := every_len (W := W) oo h6 i (by omega)
      have hr5 : (rowsL o W (i + 1)).length ≤ 16807 := Nat.le_trans (pw (i + 1) (by omega)) (Nat.pow_le_pow_right (n := 7) (by omega) (show i + 1 ≤ 5 by omega))
      refine wfor_typed (rowsL o W (i + 1)) encL rfl (fun k r m4 => ∃ z7, r = [some (encS o), some (.int W), some (.int M), some (.ref q), some (.ref b), some (.int (i : Int)), some (.ref b), z7, y8, y9, none, none] ∧ m4[q]? = some (.lst ((everyL o W i ++ ((rowsL o W (i + 1)).take k).filter (goodL o)).map encL)) ∧ m4[b]? = some (.lst ((rowsL o W (i + 1)).map encL)) ∧ Keep none m m4) ⟨_, rfl, by simpa using j1, j3, k3⟩ (fun k l r m4 hx ⟨z7, hr, l1, l2, k4⟩ => ?_) (fun r m4 ⟨z7, hr, l1, l2, k4⟩ => ?_)
      · subst hr
        have P := (rows_in _ _).mp (List.mem_of_getElem? hx)
        have hpl := P.len
        have htk : (rowsL o W (i + 1)).take (k + 1) = (rowsL o W (i + 1)).take k ++ [l] := by
          rw [List.take_add_one, hx]
          rfl
        have hgl : l.getLast? = some (fst l (i + 1)) := by
          rw [List.getLast?_eq_getElem?, hpl, fst_succ, show i + 1 - 1 = i by omega]
          exact get_getD (by omega)
        have hg2 : 1 ≤ i → L2.atI l (-2) = some (fst l i) := fun h => by
          rw [atI_neg2 (by omega), hpl]
          obtain ⟨j, rfl⟩ : ∃ j, i = j + 1 := ⟨i - 1, by omega⟩
          rw [fst_succ, show j + 1 + 1 - 2 = j by omega]
          exact get_getD (by omega)
        unfold fturn
        have hgood : goodL o l = decide (fst l (i + 1) = o.words.length ∧ o.high ≤ i + 1 ∧ (i + 1 = o.high ∨ fst l i < fst l (i + 1))) := by
          unfold goodL
          rw [hpl, show i + 1 - 1 = i by omega]
        have hkl := lt_get hx
        have hfl : (everyL o W i ++ ((rowsL o W (i + 1)).take k).filter (goodL o)).length < sizeLine := by
          have c := List.length_filter_le (goodL o) ((rowsL o W (i + 1)).take k)
          rw [List.length_take] at c
          rw [List.length_append]
          unfold sizeLine
          omega
        have yes : (fst l (i + 1) = o.words.length ∧ o.high ≤ i + 1 ∧ (i + 1 = o.high ∨ fst l i < fst l (i + 1))) → (∃ x, m4[q]? = some (Cell.lst x)) ∧ ∃ xs, m4[q]? = some (Cell.lst xs) ∧ xs.length < sizeLine ∧ (m4.set q (Cell.lst (xs ++ [encL l])))[q]? = some (Cell.lst ((everyL o W i).map encL ++ (((rowsL o W (i + 1)).take (k + 1)).filter (goodL o)).map encL)) ∧ (m4.set q (Cell.lst (xs ++ [encL l])))[b]? = some (Cell.lst ((rowsL o W (i + 1)).map encL)) ∧ Keep none m (m4.set q (Cell.lst (xs ++ [encL l]))) := fun h => by
          refine ⟨⟨_, l1⟩, _, l1, by rw [List.length_map]; exact hfl, ?_, ?_, k4.set_new (by omega) _⟩
          · rw [get_set l1, htk, List.filter_append]
            have hg : goodL o l = true := by rw [hgood]; exact decide_eq_true h
            have : [l].filter (goodL o) = [l] := by simp [hg]
            rw [this]
            simp
          · rw [List.getElem?_set_ne (by omega)]
            exact l2
        have no : ¬ (fst l (i + 1) = o.words.length ∧ o.high ≤ i + 1 ∧ (i + 1 = o.high ∨ fst l i < fst l (i + 1))) → m4[q]? = some (Cell.lst ((everyL o W i).map encL ++ (((rowsL o W (i + 1)).take (k + 1)).filter (goodL o)).map encL)) := fun h => by
          rw [l1, htk, List.filter_append]
          have hg : goodL o l = false := by rw [hgood]; exact decide_eq_false h
          have : [l].filter (goodL o) = [] := by simp [hg]
          rw [this]
          simp
        simp [l2, hgl, encN]
        refine ⟨fun c1 => ⟨fun c2 => ⟨fun c3 => yes ⟨by omega, by omega, .inl (by omega)⟩, fun c3 => ⟨_, hg2 (by omega), fun c4 => yes ⟨by omega, by omega, .inr c4⟩, fun c4 => ⟨no (by omega), ?_⟩⟩⟩, fun c2 => ⟨no (by omega), ?_⟩⟩, fun c1 => ⟨no (by omega), ?_⟩⟩
        all_goals exact k4
      · subst hr
        rw [List.take_length] at l1
        simp [l2]
        exact ⟨hmb, fun z => by omega, l1, k4⟩
  · subst hr
    simp at g1 g2
    simp
    exact ⟨g1, k1⟩
end
end Cs

set_option maxHeartbeats 0
set_option exponentiation.threshold 3000
namespace K58
open PySem L2 Pf HT Cs
/-- _law_lay: 0 feed_here, 1 section, 2 width, 3 found, 4 count, 5 far -/
def f_l_lay : Fn := ⟨"_law_lay", 3, 6, [],
  (.seq (.par 3 4 (.lst .nil) (.cst (.int 0)))
  (.seq (.whl (.or (.cmp .Lt (.var 4) (.bif .len (.cons (.ix (.var 1) (.cst (.int 3))) .nil))) (.cmp .Lt (.bif .len (.cons (.var 3) .nil)) (.ix (.var 1) (.cst (.int 1)))))
    (.seq (.set (.name 5) (.call "_law_end" (.cons (.ix (.var 1) (.cst (.int 3))) (.cons (.var 4) (.cons (.call "_law_space" (.cons (.var 1) (.cons (.bif .len (.cons (.var 3) .nil)) (.cons (.var 2) .nil)))) .nil)))))
    (.seq (.ite (.and (.cmp .Lt (.bif .len (.cons (.var 3) .nil)) (.cst (.int 30))) (.cmp .Eq (.call "_law_draw" (.cons (.var 0) (.cons (.cst (.int 3)) .nil))) (.cst (.int 0))))
      (.set (.name 5) (.bin .Add (.var 4) (.call "_law_draw" (.cons (.var 0) (.cons (.bin .Add (.bin .Sub (.var 5) (.var 4)) (.cst (.int 1))) .nil)))))
      .skip)
    (.seq (.set (.name 4) (.var 5))
    (.expr (.meth .append (.var 3) (.cons (.var 4) .nil)))))))
  (.ret (.bif .tuple (.cons (.var 3) .nil)))))⟩
/-- _law_sized: 0 section, 1 size -/
def f_l_sized : Fn := ⟨"_law_sized", 2, 2, [],
  (.ret (.bin .Add (.bin .Add (.tup (.cons (.ix (.var 0) (.cst (.int 0))) .nil)) (.var 1)) (.tup (.cons (.ix (.var 0) (.cst (.int 3))) .nil))))⟩
/-- _law_bent: 0 section, 1 width, 2 found, 3 count -/
def f_l_bent : Fn := ⟨"_law_bent", 2, 4, [],
  (.seq (.par 2 3 (.lst .nil) (.cst (.int 0)))
  (.seq (.whl (.or (.cmp .Lt (.var 3) (.bif .len (.cons (.ix (.var 0) (.cst (.int 3))) .nil))) (.cmp .Lt (.bif .len (.cons (.var 2) .nil)) (.ix (.var 0) (.cst (.int 1)))))
    (.seq (.set (.name 3) (.call "_law_end" (.cons (.ix (.var 0) (.cst (.int 3))) (.cons (.var 3) (.cons (.call "_law_space" (.cons (.var 0) (.cons (.bif .len (.cons (.var 2) .nil)) (.cons (.var 1) .nil)))) .nil)))))
    (.expr (.meth .append (.var 2) (.cons (.var 3) .nil)))))
  (.ret (.bif .tuple (.cons (.var 2) .nil)))))⟩
/-- _law_line: 0 section, 1 lay_here, 2 i, 3 first -/
def f_l_line : Fn := ⟨"_law_line", 3, 4, [],
  (.seq (.ite (.cmp .GtE (.var 2) (.bif .len (.cons (.var 1) .nil)))
    (.ret (.cst .non))
    .skip)
  (.seq (.set (.name 3) (.ite (.cmp .Gt (.var 2) (.cst (.int 0))) (.ix (.var 1) (.bin .Sub (.var 2) (.cst (.int 1)))) (.cst (.int 0))))
  (.ret (.ite (.cmp .Lt (.var 3) (.ix (.var 1) (.var 2))) (.tup (.cons (.var 3) (.cons (.ix (.var 1) (.var 2)) (.cons (.ite (.cmp .Lt (.var 2) (.ix (.var 0) (.cst (.int 1)))) (.ix (.var 0) (.cst (.int 2))) (.cst (.int 0))) .nil)))) (.cst .non)))))⟩
/-- _law_anew: 0 section, 1 lay_here, 2 other, 3 newer, 4 found, 5 i -/
def f_l_anew : Fn := ⟨"_law_anew", 4, 6, [],
  (.seq (.set (.name 4) (.lst .nil))
  (.seq (.for_ (.name 5) (.range1 (.bif .max2 (.cons (.bif .len (.cons (.var 1) .nil)) (.cons (.bif .len (.cons (.var 3) .nil)) .nil))))
    (.ite (.cmp .NotEq (.call "_law_line" (.cons (.var 0) (.cons (.var 1) (.cons (.var 5) .nil)))) (.call "_law_line" (.cons (.var 2) (.cons (.var 3) (.cons (.var 5) .nil)))))
      (.expr (.meth .append (.var 4) (.cons (.var 5) .nil)))
      .skip))
  (.ret (.bif .tuple (.cons (.var 4) .nil)))))⟩
/-- _law_told: 0 section, 1 lay_here, 2 size, 3 width, 4 most, 5 e -/
def f_l_told : Fn := ⟨"_law_told", 5, 6, [],
  (.try_ (.ret (.call "fewest_anew" (.cons (.var 0) (.cons (.var 1) (.cons (.ix (.var 2) (.cst (.int 0))) (.cons (.ix (.var 2) (.cst (.int 1))) (.cons (.var 3) (.cons (.var 4) .nil))))))))
    (.cons ["NoLay"] ["NoLay"] (some 5)
    (.ret (.tup (.cons (.cst (.str "no")) (.cons (.xf 5 "word") .nil))))
    .nil))⟩
/-- law: 0 script, 1 feed_here, 2 lap, 3 section, 4 width, 5 lay_here, 6 size, 7 other, 8 most, 9 every, 10 numbers, 11 told_here, 12 .0, 13 one -/
def f_law : Fn := ⟨"law", 1, 14, [],
  (.seq (.set (.name 1) (.call "_law_feed" (.cons (.var 0) .nil)))
  (.seq (.for_ (.name 2) (.range1 (.cst (.int 3)))
    (.seq (.set (.name 3) (.tup (.cons (.cst (.str "bob")) (.cons (.bin .Add (.cst (.int 1)) (.call "_law_draw" (.cons (.var 1) (.cons (.cst (.int 2)) .nil)))) (.cons (.bin .Add (.cst (.int 1)) (.call "_law_draw" (.cons (.var 1) (.cons (.cst (.int 6)) .nil)))) (.cons (.call "_law_words" (.cons (.var 1) (.cons (.bin .Add (.cst (.int 1)) (.call "_law_draw" (.cons (.var 1) (.cons (.cst (.int 6)) .nil)))) .nil))) .nil))))))
    (.seq (.set (.name 4) (.bin .Add (.cst (.int 8)) (.call "_law_draw" (.cons (.var 1) (.cons (.cst (.int 5)) .nil)))))
    (.seq (.set (.name 5) (.call "_law_lay" (.cons (.var 1) (.cons (.var 3) (.cons (.var 4) .nil)))))
    (.seq (.set (.name 6) (.tup (.cons (.bin .Add (.cst (.int 1)) (.call "_law_draw" (.cons (.var 1) (.cons (.cst (.int 2)) .nil)))) (.cons (.bin .Add (.cst (.int 1)) (.call "_law_draw" (.cons (.var 1) (.cons (.cst (.int 6)) .nil)))) .nil))))
    (.seq (.set (.name 7) (.call "_law_sized" (.cons (.var 3) (.cons (.var 6) .nil))))
    (.seq (.set (.name 8) (.ix (.lst (.cons (.bif .len (.cons (.call "_law_bent" (.cons (.var 7) (.cons (.var 4) .nil))) .nil)) (.cons (.cst (.int 5)) (.cons (.bin .Add (.cst (.int 1)) (.call "_law_draw" (.cons (.var 1) (.cons (.cst (.int 5)) .nil)))) .nil)))) (.call "_law_draw" (.cons (.var 1) (.cons (.cst (.int 3)) .nil)))))
    (.seq (.set (.name 8) (.bif .min2 (.cons (.cst (.int 5)) (.cons (.var 8) .nil))))
    (.seq (.set (.name 9) (.call "_law_all_lays" (.cons (.var 7) (.cons (.var 4) (.cons (.var 8) .nil)))))
    (.seq (.set (.name 10) (.comp [12, 13] (.name 13) (.seq (.var 9)) (.cst (.bl true)) (.bif .len (.cons (.call "_law_anew" (.cons (.var 3) (.cons (.var 5) (.cons (.var 7) (.cons (.var 13) .nil))))) .nil))))
    (.seq (.set (.name 11) (.call "_law_told" (.cons (.var 3) (.cons (.var 5) (.cons (.var 6) (.cons (.var 4) (.cons (.var 8) .nil)))))))
    (.ite (.cmp .Eq (.var 10) (.lst .nil))
      (.ite (.not (.call "_law_same" (.cons (.var 11) (.cons (.tup (.cons (.cst (.str "no")) (.cons (.cst (.str "most")) .nil))) .nil))))
        (.ret (.cst (.bl false)))
        .skip)
      (.ite (.or (.not (.isi [.tuple] (.var 11))) (.or (.cmp .NotEq (.bif .len (.cons (.var 11) .nil)) (.cst (.int 3))) (.not (.call "_law_same" (.cons (.ix (.var 11) (.cst (.int 0))) (.cons (.bif .min1 (.cons (.var 10) .nil)) .nil))))))
        (.ret (.cst (.bl false)))
        (.ite (.cmp .NotIn (.ix (.var 11) (.cst (.int 1))) (.var 9))
          (.ret (.cst (.bl false)))
          (.ite (.cmp .NotEq (.bif .len (.cons (.call "anew_lines" (.cons (.var 3) (.cons (.var 5) (.cons (.ix (.var 6) (.cst (.int 0))) (.cons (.ix (.var 6) (.cst (.int 1))) (.cons (.ix (.var 11) (.cst (.int 1))) .nil)))))) .nil)) (.ix (.var 11) (.cst (.int 0))))
            (.ret (.cst (.bl false)))
            .skip)))))))))))))))
  (.ret (.cst (.bl true)))))⟩
def fns : List Fn := [f_begins, f_room, f_end_of, f_bent, f_first_of, f_sized, f_line_of, f_anew_lines, f_most_lines, f_ends_from, f_cost_of, f_step_rows, f_prices_of, f_fewest_anew, f_l_feed, f_l_draw, f_l_same, f_l_words, f_l_end, f_l_space, f_l_lay, f_l_sized, f_l_bent, f_l_line, f_l_anew, f_l_all_lays, f_l_told, f_law]
instance : Has fns "begins" f_begins 2 := ⟨by kernel_rfl, rfl, rfl⟩
instance : HasD fns "room" f_room 3 [(.int 30)] := ⟨by kernel_rfl, rfl, rfl⟩
instance : Has fns "end_of" f_end_of 3 := ⟨by kernel_rfl, rfl, rfl⟩
instance : HasD fns "bent" f_bent 2 [(.int 30)] := ⟨by kernel_rfl, rfl, rfl⟩
instance : Has fns "first_of" f_first_of 2 := ⟨by kernel_rfl, rfl, rfl⟩
instance : Has fns "sized" f_sized 3 := ⟨by kernel_rfl, rfl, rfl⟩
instance : Has fns "line_of" f_line_of 3 := ⟨by kernel_rfl, rfl, rfl⟩
instance : Has fns "anew_lines" f_anew_lines 5 := ⟨by kernel_rfl, rfl, rfl⟩
instance : Has fns "most_lines" f_most_lines 4 := ⟨by kernel_rfl, rfl, rfl⟩
instance : Has fns "ends_from" f_ends_from 5 := ⟨by kernel_rfl, rfl, rfl⟩
instance : Has fns "cost_of" f_cost_of 5 := ⟨by kernel_rfl, rfl, rfl⟩
instance : Has fns "step_rows" f_step_rows 6 := ⟨by kernel_rfl, rfl, rfl⟩
instance : Has fns "prices_of" f_prices_of 2 := ⟨by kernel_rfl, rfl, rfl⟩
instance : HasD fns "fewest_anew" f_fewest_anew 6 [(.int 30), .non] := ⟨by kernel_rfl, rfl, rfl⟩
instance : Has fns "_law_feed" f_l_feed 1 := ⟨by kernel_rfl, rfl, rfl⟩
instance : Has fns "_law_draw" f_l_draw 2 := ⟨by kernel_rfl, rfl, rfl⟩
instance : Has fns "_law_same" f_l_same 2 := ⟨by kernel_rfl, rfl, rfl⟩
instance : Has fns "_law_words" f_l_words 2 := ⟨by kernel_rfl, rfl, rfl⟩
instance : Has fns "_law_end" f_l_end 3 := ⟨by kernel_rfl, rfl, rfl⟩
instance : Has fns "_law_space" f_l_space 3 := ⟨by kernel_rfl, rfl, rfl⟩
instance : Has fns "_law_lay" f_l_lay 3 := ⟨by kernel_rfl, rfl, rfl⟩
instance : Has fns "_law_sized" f_l_sized 2 := ⟨by kernel_rfl, rfl, rfl⟩
instance : Has fns "_law_bent" f_l_bent 2 := ⟨by kernel_rfl, rfl, rfl⟩
instance : Has fns "_law_line" f_l_line 3 := ⟨by kernel_rfl, rfl, rfl⟩
instance : Has fns "_law_anew" f_l_anew 4 := ⟨by kernel_rfl, rfl, rfl⟩
instance : Has fns "_law_all_lays" f_l_all_lays 3 := ⟨by kernel_rfl, rfl, rfl⟩
instance : Has fns "_law_told" f_l_told 5 := ⟨by kernel_rfl, rfl, rfl⟩
instance : Has fns "law" f_law 1 := ⟨by kernel_rfl, rfl, rfl⟩
-- uses Cb3
open Cs
section
variable {wf n h k : Nat} {m : Store} {s o : Sec} {W w : Nat} {l : List Nat} {mo : Option Nat}
theorem lbent_ok (oo : SecOk s) (hW : ∀ w ∈ s.words, w.length ≤ W) (hwf : 1000 < wf) : wp (bodyN fns wf (n + 2) f_l_bent [encS s, .int (W : Int)] m) (k := ⟨fun d m' => d = encL (bentL s W) ∧ Keep none m m'⟩) := by
  have hl := oo.len
  have hh := oo.high
  rw [wp_body]
  simp [f_l_bent, startE]
  refine s_while' (fun k r m2 => ∃ i, k = (s.high - i) + (s.words.length - lay s W i) ∧ r = [some (encS s), some (.int (W : Int)), some (.ref m.length), some (.int (lay s W i : Nat))] ∧ m2[m.length]? = some (.lst ((List.range i).map fun j => encN (lay s W (j + 1)))) ∧ (∀ j, j < i → j < s.high ∨ lay s W j < s.words.length) ∧ i + k ≤ 50 ∧ Keep none m m2)
    (k := s.high + s.words.length) (by omega) ⟨0, rfl, rfl, by simp, fun j hj => by omega, by omega, Keep.new none m _⟩ (fun k r m2 ⟨i, hk, hr, h1, h3, h5, h6⟩ => ?_)
  subst hr
  have S := lay_step (s := s) (W := W) i
  have hle := S.le
  have fin : ¬ (lay s W i < s.words.length ∨ i < s.high) → bentL s W = (List.range i).map fun j => lay s W (j + 1) := fun hn => by
    have I : IsMany s W _ := ⟨⟨by omega, by omega⟩, h3⟩
    unfold bentL
    rw [many_of I]
  have go : (lay s W i < s.words.length ∨ i < s.high) → ∃ k', k' < k ∧ ∃ i', k' = (s.high - i') + (s.words.length - lay s W i') ∧ endE s.words (lay s W i) (roomN s W i) = lay s W i' ∧ (m2.set m.length (.lst (((List.range i).map fun j => encN (lay s W (j + 1))) ++ [encN (endE s.words (lay s W i) (roomN s W i))])))[m.length]? = some (.lst ((List.range i').map fun j => encN (lay s W (j + 1)))) ∧ (∀ j, j < i' → j < s.high ∨ lay s W j < s.words.length) ∧ i' + k' ≤ 50 ∧ Keep none m (m2.set m.length (.lst (((List.range i).map fun j => encN (lay s W (j + 1))) ++ [encN (endE s.words (lay s W i) (roomN s W i))]))) := fun hc => by
    have hm : s.high ≤ i → lay s W i < s.words.length → lay s W i < lay s W (i + 1) := fun q1 q2 => lay_grow hW q1 q2
    have h7 : (s.high - (i + 1)) + (s.words.length - lay s W (i + 1)) < k := by
      rcases Nat.lt_or_ge i s.high with q | q
      · omega
      · have := hm q (by omega)
        omega
    refine ⟨_, h7, i + 1, rfl, rfl, ?_, fun j hj => ?_, by omega, h6.set_new (Nat.le_refl _) _⟩
    · rw [get_set h1, range_succ_map]
      rfl
    · by_cases z : j = i
      · subst z
        omega
      · exact h3 j (by omega)
  simp [h1]
  have ex : ∀ i' : Nat, ((endE s.words (lay s W i) (roomN s W i) : Nat) : Int) = ((lay s W i' : Nat) : Int) ↔ endE s.words (lay s W i) (roomN s W i) = lay s W i' := fun i' => by omega
  refine ⟨fun hA => ?_, fun hA => ⟨fun hB => ?_, fun hB => ⟨?_, h6⟩⟩⟩
  · refine (space_ok (n := n) (i := i) (W := W)).mono fun d m3 ⟨z1, z2⟩ => ?_
    subst z1 z2
    simp
    refine (end_ok (n := n) (first := lay s W i) (sp := roomN s W i) oo.words hl.2 (lay_le i)).mono fun d m3 ⟨z1, I, z2⟩ => ?_
    subst z1 z2
    have G := go (.inl hA)
    simp [h1, encN] at G ⊢
    refine ⟨by unfold sizeLine; omega, ?_⟩
    obtain ⟨k', q1, i', q2, q3, q4⟩ := G
    exact ⟨k', q1, i', q2, by rw [q3], q4⟩
  · refine (space_ok (n := n) (i := i) (W := W)).mono fun d m3 ⟨z1, z2⟩ => ?_
    subst z1 z2
    simp
    refine (end_ok (n := n) (first := lay s W i) (sp := roomN s W i) oo.words hl.2 (lay_le i)).mono fun d m3 ⟨z1, I, z2⟩ => ?_
    subst z1 z2
    have G := go (.inr hB)
    simp [h1, encN] at G ⊢
    refine ⟨by unfold sizeLine; omega, ?_⟩
    obtain ⟨k', q1, i', q2, q3, q4⟩ := G
    exact ⟨k', q1, i', q2, by rw [q3], q4⟩
  · rw [fin (by omega)]
    unfold encL tupOf
    rw [List.map_map]
    rfl
theorem lsized_ok {high wide : Nat} : wp (bodyN fns wf (n + 1) f_l_sized [encS s, .tup [.int (high : Int), .int (wide : Int)]] m) (k := ⟨fun d m' => d = encS (sizedS s high wide) ∧ m' = m⟩) := by
  rw [wp_body]
  simp [f_l_sized, startE, encS, sizedS]
  decide
theorem line_any {i : Nat} (hr : ∀ i, i < l.length → fst l i ≤ fst l (i + 1)) : wp (bodyN fns wf (n + 1) f_l_line [encS s, encL l, .int (i : Int)] m) (k := ⟨fun d m' => d = lineD s l i ∧ m' = m⟩) := by
  rw [wp_body]
  simp [f_l_line, startE]
  refine ⟨fun h => by unfold lineD; rw [if_pos h], fun hi => ?_⟩
  have hle := hr i hi
  have g : l[i]? = some (fst l (i + 1)) := by
    rw [fst_succ]
    exact get_getD hi
  have g0 : 0 < i → L2.atI l ((i : Int) - 1) = some (fst l i) := fun h => by
    rw [show (i : Int) - 1 = ((i - 1 : Nat) : Int) by omega, Pf.atI_nat]
    obtain ⟨j, rfl⟩ : ∃ j, i = j + 1 := ⟨i - 1, by omega⟩
    rw [fst_succ, show j + 1 - 1 = j by omega]
    exact get_getD (by omega)
  have z0 : i = 0 → fst l i = 0 := fun h => by rw [h]; rfl
  have e : lineD s l i = if fst l i = fst l (i + 1) then .non else .tup [encN (fst l i), encN (fst l (i + 1)), encN (if i < s.high then s.wide else 0)] := by
    unfold lineD
    rw [if_neg (by omega), fst_succ]
  rw [e]
  generalize fst l (i + 1) = b at *
  generalize fst l i = a at *
  refine ⟨fun h => ⟨a, g0 h, b, g, ?_⟩, fun h => ⟨b, g, ?_⟩⟩
  · simp [encN, g]
    exact ⟨fun h1 => ⟨fun h2 => ⟨by decide, by rw [if_neg (by omega), if_pos h2]⟩, fun h2 => ⟨by decide, by rw [if_neg (by omega), if_neg (by omega)]; rfl⟩⟩, fun h => by omega⟩
  · have := z0 h
    subst this
    simp [encN, g]
    exact ⟨fun h1 => ⟨fun h2 => ⟨by decide, by rw [if_neg (by omega), if_pos h2]⟩, fun h2 => ⟨by decide, by rw [if_neg (by omega), if_neg (by omega)]; rfl⟩⟩, fun h => by omega⟩
theorem lanew_ok {q : List Nat} (hr : ∀ i, i < l.length → fst l i ≤ fst l (i + 1)) (hq : ∀ i, i < q.length → fst q i ≤ fst q (i + 1)) (h1 : l.length ≤ 100) (h2 : q.length ≤ 100) : wp (bodyN fns wf (n + 2) f_l_anew [encS s, encL l, encS o, encL q] m) (k := ⟨fun d m' => d = encL (anew s l o q) ∧ Keep none m m'⟩) := by
  rw [wp_body]
  simp [f_l_anew, startE]
  have e : (if l.length < q.length then (q.length : Int) else (l.length : Int)) = ((max l.length q.length : Nat) : Int) := by
    split <;> omega
  simp only [e]
  have hN := anew_len (s := s) (l := l) (o := o) (k := q)
  refine ⟨by unfold small62; omega, wfor_inv (fun i r m1 => ∃ x5, r = [some (encS s), some (encL l), some (encS o), some (encL q), some (.ref m.length), x5] ∧ m1[m.length]? = some (.lst (((List.range i).filter fun i => !decide (lineD s l i = lineD o q i)).map encN)) ∧ Keep none m m1) ⟨_, rfl, by simp, Keep.new none m _⟩ (fun i x r m1 hx ⟨x5, hr1, g1, k1⟩ => ?_) (fun r m1 ⟨x5, hr1, g1, k1⟩ => ?_)⟩
  · obtain ⟨hi, rfl⟩ := upto_get hx
    have hi : i < max l.length q.length := by
      rw [Int.toNat_natCast] at hi
      exact hi
    subst hr1
    unfold fturn
    simp
    refine (line_any (n := n) (s := s) (l := l) (i := i) hr).mono fun d m2 ⟨z1, z2⟩ => ?_
    subst z1 z2
    simp
    refine (line_any (n := n) (s := o) (l := q) (i := i) hq).mono fun d m2 ⟨z1, z2⟩ => ?_
    subst z1 z2
    rw [ne_simple line_simple line_simple (by omega) (by omega)]
    have hfl := List.length_filter_le (fun i => !decide (lineD s l i = lineD o q i)) (List.range i)
    rw [List.length_range] at hfl
    rw [List.range_succ, List.filter_append, List.map_append]
    by_cases c : lineD s l i = lineD o q i
    · simp [c]
      exact ⟨g1, k1⟩
    · simp [c]
      refine ⟨⟨_, g1⟩, _, g1, by rw [List.length_map]; unfold sizeLine; omega, ?_, k1.set_new (Nat.le_refl _) _⟩
      rw [get_set g1]
      rfl
  · subst hr1
    simp at g1
    simp [g1]
    exact ⟨rfl, k1⟩
theorem ltold_ok {h w : Nat} (oo : SecOk (sizedS s h w)) (hW : ∀ x ∈ s.words, x.length ≤ W) (hl : l.length ≤ 200) (hq : ∀ q, mo = some q → q ≤ 200) (hwf : 1000 < wf) :
    wp (bodyN fns wf (n + 7) f_l_told [encS s, encL l, .tup [.int (h : Int), .int (w : Int)], .int (W : Int), mD mo] m)
    (k := ⟨fun d m' => Keep none m m' ∧ (((∃ q, mo = some q ∧ q < many (sizedS s h w) W) ∧ d = .tup [.str "no", .str "most"]) ∨ ((∀ q, mo = some q → many (sizedS s h w) W ≤ q) ∧ ∃ N L k P, N = max (limitN (sizedS s h w) l W mo) l.length ∧ FA (ssOf s l (sizedS s h w) W (limitN (sizedS s h w) l W mo) N) (N + 1) s.words.length h L k ∧ d = .tup [.int (pr (N + 1) s.words.length (ssOf s l (sizedS s h w) W (limitN (sizedS s h w) l W mo) N) 0 0 : Nat), encL (L.take k), P]))⟩) := by
  rw [wp_body]
  simp [f_l_told, startE]
  refine (few_ok (n := n) (mo := mo) (W := W) oo hW hl hq hwf).monoE (fun d m1 ⟨z1, k1, N, L, k, z2, z3, z4⟩ => ?_) fun e m1 ⟨z1, z2, k1⟩ => ?_
  · subst z4
    simp
    subst z2
    exact ⟨k1, z1, L, k, z3, rfl, rfl⟩
  · subst z2
    simp
    exact ⟨by decide, k1.app _, z1⟩
end
theorem foldl_min : ∀ (xs : List Int) (x : Int), xs.foldl min x ∈ x :: xs ∧ ∀ y ∈ x :: xs, xs.foldl min x ≤ y
  | [], x => ⟨List.mem_cons_self, fun y hy => by rw [List.mem_singleton.mp hy]; exact Int.le_refl _⟩
  | a :: r, x => by
    obtain ⟨h1, h2⟩ := foldl_min r (min x a)
    show r.foldl min (min x a) ∈ _ ∧ ∀ y ∈ _, r.foldl min (min x a) ≤ y
    have h3 := h2 _ List.mem_cons_self
    refine ⟨?_, fun y hy => ?_⟩
    · rcases List.mem_cons.mp h1 with e | e
      · rw [e]
        rcases Int.le_total x a with c | c
        · rw [Int.min_eq_left c]
          exact List.mem_cons_self
        · rw [Int.min_eq_right c]
          exact List.mem_cons_of_mem _ List.mem_cons_self
      · exact List.mem_cons_of_mem _ (List.mem_cons_of_mem _ e)
    · rcases List.mem_cons.mp hy with e | e
      · omega
      · rcases List.mem_cons.mp e with e | e
        · omega
        · exact h2 y (List.mem_cons_of_mem _ e)
theorem minI_is {xs : List Int} {v : Int} (hv : v ∈ xs) (h : ∀ x ∈ xs, v ≤ x) : minI xs = v := by
  cases xs with
  | nil => exact nomatch hv
  | cons x r =>
    obtain ⟨h1, h2⟩ := foldl_min r x
    have a := h _ h1
    have b := h2 _ hv
    show r.foldl min x = v
    omega
theorem law_ok {ns : List Int} (hn : ns.length ≤ 63) : wp (bodyN fns 100000 20 f_law [.ref 0] [.frz (ns.map .int)]) (k := ⟨fun d _ => d = .bl true⟩) := by
  rw [wp_body]
  simp [f_law, startE]
  refine feed_ok.mono fun d m ⟨q1, q2⟩ => ?_
  subst q1
  simp
  refine ⟨by decide, wfor_inv (fun i r m1 => ∃ (x2 x3 x4 x5 x6 x7 x8 x9 x10 x11 x12 x13 : Option D), r = [some (.ref 0), some (.ref 2), x2, x3, x4, x5, x6, x7, x8, x9, x10, x11, x12, x13] ∧ Feed 2 (1000 * i) m1) ⟨_, _, _, _, _, _, _, _, _, _, _, _, rfl, q2⟩ (fun i x r m1 hx ⟨x2, x3, x4, x5, x6, x7, x8, x9, x10, x11, x12, x13, hr, f1⟩ => ?_) (fun r m1 ⟨x2, x3, x4, x5, x6, x7, x8, x9, x10, x11, x12, x13, hr, f1⟩ => ?_)⟩
  · obtain ⟨hi, rfl⟩ := upto_get hx
    have hi : i < 3 := hi
    subst hr
    unfold fturn
    simp
    refine (draw_ok (n := 18) (many := 2) f1 (by omega) (by omega) (by omega)).mono fun d m2 ⟨a, e1, ha, f2, k2, _⟩ => ?_
    subst e1
    simp
    refine (draw_ok (n := 18) (many := 6) f2 (by omega) (by omega) (by omega)).mono fun d m3 ⟨b, e1, hb, f3, k3, _⟩ => ?_
    subst e1
    simp
    refine (draw_ok (n := 18) (many := 6) f3 (by omega) (by omega) (by omega)).mono fun d m4 ⟨v, e1, hv, f4, k4, _⟩ => ?_
    subst e1
    simp
    rw [show 1 + (v : Int) = ((1 + v : Nat) : Int) by omega]
    refine (words_ok (n := 17) (many := 1 + v) (by omega) f4 (by omega)).mono fun d m5 ⟨ws, hwl, hwg, e1, f5, k5⟩ => ?_
    subst e1
    simp
    obtain ⟨s, hs⟩ : ∃ s : Sec, s = ⟨"bob", 1 + a, 1 + b, ws⟩ := ⟨_, rfl⟩
    have es : D.tup [.str "bob", .int (1 + (a : Int)), .int (1 + (b : Int)), encW ws] = encS s := by
      rw [hs]
      unfold encS
      simp
    have o : SecOk s := by
      rw [hs]
      exact ⟨⟨by show 1 ≤ 1 + a; omega, by show 1 + a ≤ 9; omega⟩, ⟨by show 1 ≤ 1 + b; omega, by show 1 + b ≤ 20; omega⟩, ⟨by show 1 ≤ ws.length; omega, by show ws.length ≤ 40; omega⟩, hwg⟩
    have h6 : s.words.length ≤ 6 := by
      rw [hs]
      show ws.length ≤ 6
      omega
    refine ⟨by decide, ?_⟩
    refine (draw_ok (n := 18) (many := 5) f5 (by omega) (by omega) (by omega)).mono fun d m6 ⟨u, e1, hu, f6, k6, _⟩ => ?_
    subst e1
    simp
    rw [es]
    obtain ⟨W, hW⟩ : ∃ W, W = 8 + u := ⟨_, rfl⟩
    rw [show 8 + (u : Int) = (W : Int) by omega]
    have hw8 : ∀ w ∈ s.words, w.length ≤ W := fun w hw => by
      have := (o.words w hw).1
      have e : w.length = w.cps.size := rfl
      omega
    refine (lay_ok (n := 17) (W := W) f6 (by omega) o hw8 (by omega)).mono fun d m7 ⟨l, L, e1, f7, k7⟩ => ?_
    subst e1
    have hl := L.many
    simp
    refine (draw_ok (n := 18) (many := 2) f7 (by omega) (by omega) (by omega)).mono fun d m8 ⟨a2, e1, ha2, f8, k8, _⟩ => ?_
    subst e1
    simp
    refine (draw_ok (n := 18) (many := 6) f8 (by omega) (by omega) (by omega)).mono fun d m9 ⟨b2, e1, hb2, f9, k9, _⟩ => ?_
    subst e1
    simp
    refine ⟨by decide, ?_⟩
    obtain ⟨h, hh⟩ : ∃ h, h = 1 + a2 := ⟨_, rfl⟩
    obtain ⟨w, hw⟩ : ∃ w, w = 1 + b2 := ⟨_, rfl⟩
    rw [show 1 + (a2 : Int) = (h : Int) by omega, show 1 + (b2 : Int) = (w : Int) by omega]
    refine (lsized_ok (n := 18)).mono fun d m10 ⟨e1, e2⟩ => ?_
    subst e1 e2
    have oo : SecOk (sizedS s h w) := ⟨⟨by show 1 ≤ h; omega, by show h ≤ 9; omega⟩, ⟨by show 1 ≤ w; omega, by show w ≤ 20; omega⟩, o.len, o.words⟩
    simp
    refine (lbent_ok (n := 17) (W := W) oo hw8 (by omega)).mono fun d m11 ⟨e1, k11⟩ => ?_
    subst e1
    have f11 := f9.keep k11
    have hbl : (bentL (sizedS s h w) W).length = many (sizedS s h w) W := bentL_len2
    obtain ⟨I, h50⟩ := many_is oo hw8
    simp [hbl]
    refine (draw_ok (n := 18) (many := 5) f11 (by omega) (by omega) (by omega)).mono fun d m12 ⟨c, e1, hc, f12, k12, _⟩ => ?_
    subst e1
    simp
    refine ⟨by decide, ?_⟩
    refine (draw_ok (n := 18) (many := 3) f12 (by omega) (by omega) (by omega)).mono fun d m13 ⟨v3, e1, hv3, f13, k13, _⟩ => ?_
    subst e1
    simp
    obtain ⟨d, hd, M0, rfl⟩ := get_all (xs := [D.int (many (sizedS s h w) W : Int), D.int 5, D.int (1 + (c : Int))]) (P := fun d => ∃ q : Nat, d = .int (q : Int)) (v := v3) (by simp; omega) (by
      intro x hx
      simp only [List.mem_cons, List.mem_nil_iff, or_false] at hx
      rcases hx with rfl | rfl | rfl
      · exact ⟨_, rfl⟩
      · exact ⟨5, rfl⟩
      · exact ⟨1 + c, by simp⟩)
    rw [← hbl] at hd
    refine ⟨_, hd, ?_⟩
    obtain ⟨M, hM⟩ : ∃ M, M = min 5 M0 := ⟨_, rfl⟩
    have eM : (if (M0 : Int) < 5 then (M0 : Int) else 5) = (M : Int) := by split <;> omega
    simp
    simp only [eM]
    have hM5 : M ≤ 5 := by omega
    refine (all_ok (n := 17) (o := sizedS s h w) (W := W) (M := M) oo h6 hM5).mono fun d m14 ⟨q, e1, g14, k14⟩ => ?_
    subst e1
    have f14 := f13.keep k14
    simp [g14]
    have lr : ∀ i, i < l.length → fst l i ≤ fst l (i + 1) := fun i hi => (L.st.step i hi).1
    refine wcomp_inv (fun j acc m' => acc = ((everyL (sizedS s h w) W M).take j).map (fun k => D.int ((anew s l (sizedS s h w) k).length : Int)) ∧ Keep none m14 m') ⟨by simp, Keep.refl _ _⟩ (fun j x acc m' hx ⟨ha, kj⟩ => ?_) (fun acc m' ⟨ha, kj⟩ => ?_)
    · subst ha
      rw [List.getElem?_map] at hx
      obtain ⟨k, hk, rfl⟩ := Option.map_eq_some_iff.mp hx
      have hkm := List.mem_of_getElem? hk
      have F := every_fits oo (by omega) hkm
      have hkl := F.many
      have gj := kj.cell g14 (by simp)
      unfold cturn
      simp [gj]
      refine (lanew_ok (n := 17) (s := s) (o := sizedS s h w) (l := l) (q := k) lr (fun i hi => (F.rise i hi).1) (by omega) (by omega)).mono fun d m16 ⟨z1, z2⟩ => ?_
      subst z1
      simp
      have hk2 : ((everyL (sizedS s h w) W M).map (fun k => D.int ((anew s l (sizedS s h w) k).length : Int)))[j]? = some (D.int ((anew s l (sizedS s h w) k).length : Int)) := map_get hk
      rw [List.take_add_one, hk2]
      exact ⟨rfl, kj.trans z2⟩
    · have ha2 : acc = (everyL (sizedS s h w) W M).map fun k => D.int ((anew s l (sizedS s h w) k).length : Int) := by
        rw [ha]
        simp
      subst ha2
      have gj := kj.cell g14 (by simp)
      simp [gj]
      simp only [eM]
      have hel := every_len (W := W) oo h6 M hM5
      refine ⟨by unfold sizeLine; omega, ?_⟩
      obtain ⟨p, hp⟩ : ∃ p, p = m'.length := ⟨_, rfl⟩
      obtain ⟨nums, hnums⟩ : ∃ nums, nums = (everyL (sizedS s h w) W M).map fun k => ((anew s l (sizedS s h w) k).length : Int) := ⟨_, rfl⟩
      obtain ⟨m15, hm15⟩ : ∃ m15, m15 = m' ++ [Cell.lst (List.map (fun k => D.int ((anew s l (sizedS s h w) k).length : Int)) (everyL (sizedS s h w) W M))] := ⟨_, rfl⟩
      have gp : m15[p]? = some (.lst (nums.map .int)) := by
        rw [hm15, hp, hnums, List.map_map]
        simp
      have gq : m15[q]? = some (.lst ((everyL (sizedS s h w) W M).map encL)) := by
        rw [hm15, List.getElem?_append_left (lt_get gj)]
        exact gj
      have f15 : Feed 2 (1000 * i + 300 + 50) m15 := by
        rw [hm15]
        exact ((f14.keep kj).app).mono (by omega)
      rw [← hm15, ← hp]
      refine (ltold_ok (n := 12) (mo := some M) (W := W) oo hw8 (by omega) (fun z e => by cases e; omega) (by omega)).mono fun d m16 ⟨k16, hcase⟩ => ?_
      have f16 := f15.keep k16
      have gp := k16.cell gp (by simp)
      have gq := k16.cell gq (by simp)
      have eqn : ∀ {m : Store} {Q : R → Store → Prop}, m[p]? = some (.lst (nums.map .int)) → (wp (cmpR .Eq (.d (.ref p)) (.tl []) m) (k := ⟨Q⟩) ↔ Q (.d (.bl (decide (nums = [])))) m) := fun {m Q} g => by
        rw [eq_ref_tl (d := 0) (d' := 0) g rfl (fun x hx => by
          obtain ⟨j, _, rfl⟩ := List.mem_map.mp (show x ∈ nums.map D.int from hx)
          exact .int _) (fun x hx => absurd hx (by simp)) (by omega) (by omega)]
        have e : (Cell.lst (nums.map .int)).items = nums.map D.int := rfl
        rw [e]
        simp
      rcases hcase with ⟨⟨z, z1, z2⟩, e1⟩ | ⟨z1, N1, L1, k, P, z2, F, e1⟩
      · subst e1
        cases z1
        have he : everyL (sizedS s h w) W M = [] := by
          cases e : everyL (sizedS s h w) W M with
          | nil => rfl
          | cons y ys =>
            have hy : y ∈ everyL (sizedS s h w) W M := by rw [e]; exact List.mem_cons_self
            have F := every_fits oo (by omega) hy
            have h1 := fits_many oo hw8 F
            have h2 := ((every_in _ _).mp hy).1.2
            omega
        have hn0 : nums = [] := by rw [hnums, he]; rfl
        simp
        rw [eqn gp]
        simp [hn0]
        have fl : Flat 100 1 (.tup [.str "no", .str "most"]) := .tup (n := 2) (b := 8) (fun z hz => by
          simp only [List.mem_cons, List.mem_nil_iff, or_false] at hz
          rcases hz with rfl | rfl <;> exact .str (by decide) (by decide)) (by simp) (by omega)
        refine ⟨by decide, (same_ok (n := 18) fl (by omega) (by omega)).mono fun d m17 ⟨z1, z2⟩ => ?_⟩
        subst z1 z2
        simp
        exact f16.mono (by omega)
      · subst e1
        have hlim : limitN (sizedS s h w) l W (some M) = M := rfl
        have hmM : many (sizedS s h w) W ≤ M := z1 M rfl
        have hhT : (sizedS s h w).high ≤ limitN (sizedS s h w) l W (some M) := by
          have := I.out.1
          omega
        have TT := FA.told (o := sizedS s h w) F hhT (by omega)
        have hkL : k ≤ L1.length := by
          rw [F.len]
          exact F.many.2
        have hTm := TT.many
        have Q : Fits (sizedS s h w) W (L1.take k) := TT.fits hkL (by omega)
        have hQl : (L1.take k).length = k := by
          rw [List.length_take]
          omega
        have num : (anew s l (sizedS s h w) (L1.take k)).length = pr (N1 + 1) s.words.length (ssOf s l (sizedS s h w) W (limitN (sizedS s h w) l W (some M)) N1) 0 0 := FA.number (o := sizedS s h w) F hTm.2 z2
        have hin : L1.take k ∈ everyL (sizedS s h w) W M := fits_every oo Q (by omega)
        have low : ∀ y ∈ everyL (sizedS s h w) W M, pr (N1 + 1) s.words.length (ssOf s l (sizedS s h w) W (limitN (sizedS s h w) l W (some M)) N1) 0 0 ≤ (anew s l (sizedS s h w) y).length := fun y hy =>
          ((every_fits oo (by omega) hy).way (T := limitN (sizedS s h w) l W (some M)) ((every_in _ _).mp hy).1.2).few (by omega) (by omega)
        generalize hb0 : pr (N1 + 1) s.words.length (ssOf s l (sizedS s h w) W (limitN (sizedS s h w) l W (some M)) N1) 0 0 = v at *
        have hn0 : ¬ nums = [] := fun z => by
          rw [hnums] at z
          rw [List.map_eq_nil_iff.mp z] at hin
          exact nomatch hin
        simp
        rw [eqn gp]
        simp [hn0, gp]
        have hmin : minI nums = (v : Int) := minI_is (by
          rw [hnums]
          exact List.mem_map.mpr ⟨_, hin, by rw [num]⟩) (fun x hx => by
          rw [hnums] at hx
          obtain ⟨y, hy, rfl⟩ := List.mem_map.mp hx
          have := low y hy
          show (v : Int) ≤ ((anew s l (sizedS s h w) y).length : Int)
          omega)
        rw [hmin]
        have hv2 : v ≤ 200 := by
          have := anew_len (s := s) (l := l) (o := sizedS s h w) (k := L1.take k)
          omega
        refine ⟨List.length_pos_iff.mpr hn0, (same_ok (n := 18) (x := .int (v : Int)) (b := 8) (d := 0) (.int (by omega)) (by omega) (by omega)).mono fun d m17 ⟨z3, z4⟩ => ?_⟩
        subst z3 z4
        simp
        rw [in_lst (d := 1) (d' := 1) gq encL_simp (fun y hy => by
          obtain ⟨j, _, rfl⟩ := List.mem_map.mp hy
          exact encL_simp) (by omega) (by omega), decide_eq_true (List.mem_map.mpr ⟨_, hin, rfl⟩)]
        simp
        refine (anew_ok (n := 16) (s := s) (l := l) (k := L1.take k) (h := h) (w := w) (by omega) (by omega)).mono fun d m18 ⟨z3, z4⟩ => ?_
        subst z3 z4
        simp [num]
        exact f16.mono (by omega)
  · subst hr
    simp
abbrev prog := PySem.Challenge.pw_leftspaces_k58_whole_anew_by_all_lays
def T : Txt := Txt.of prog
theorem ok : T.ok = true := by kernel_rfl
theorem okc : T.consts.all constB = true := by kernel_rfl
theorem fns_eq : T.fns = fns := by kernel_rfl
def law : He.DefD := T.defs.getD 27 ⟨("law", none), "law", "law", defArgs (.Pass ⟨0, 0, 0, 0⟩), [], defScope (.Pass ⟨0, 0, 0, 0⟩), [], []⟩
theorem law_fn : T.fnOf law = f_law := by kernel_rfl
theorem plain : T.Law law 100000 20 63 := Txt.law_of fns_eq law_fn fun ns hn => law_ok hn
abbrev R : PySem.W.OpenRow := PySem.W.OpenLaw.row PySem.Challenge.rw_leftspaces_k58_whole_anew_by_all_lays
abbrev hk : PySem.W.Hook := hookL 4 T
def ob (s : PySem.W.SharedT) : AlL := obsLG 4 T (HandSHeadRun.getT s)
theorem ob_eq (s : PySem.W.SharedT) : ob s = hk.obs s.abs := obsLG_eq (HandSHeadRun.getT_eq s)
theorem run (w : World) : HandSHeadRun.RunEq R (PySem.W.view R.prog [35]) hk ob 6000 (("LeftError" : PySem.Str) :: ("NoLay" : PySem.Str) :: ("begins" : PySem.Str) :: ("room" : PySem.Str) :: ("end_of" : PySem.Str) :: ("bent" : PySem.Str) :: ("first_of" : PySem.Str) :: ("sized" : PySem.Str) :: ("line_of" : PySem.Str) :: ("anew_lines" : PySem.Str) :: ("most_lines" : PySem.Str) :: ("ends_from" : PySem.Str) :: ("cost_of" : PySem.Str) :: ("step_rows" : PySem.Str) :: ("prices_of" : PySem.Str) :: ("fewest_anew" : PySem.Str) :: ("_law_feed" : PySem.Str) :: ("_law_draw" : PySem.Str) :: ("_law_same" : PySem.Str) :: ("_law_words" : PySem.Str) :: ("_law_end" : PySem.Str) :: ("_law_space" : PySem.Str) :: ("_law_lay" : PySem.Str) :: ("_law_sized" : PySem.Str) :: ("_law_bent" : PySem.Str) :: ("_law_line" : PySem.Str) :: ("_law_anew" : PySem.Str) :: ("_law_all_lays" : PySem.Str) :: ("_law_told" : PySem.Str) :: []) w := by
  intro os
  kernel_rfl
end K58
open PySem PySem.W PySem.Calls PyProof.Rows
theorem PySem.Challenge.cw_leftspaces_k58_whole_anew_by_all_lays_holds : PySem.Challenge.rw_leftspaces_k58_whole_anew_by_all_lays.Holds := by
  w_on; o_law
  refine HandSHeadRun.head_any (r := OpenLaw.row PySem.Challenge.rw_leftspaces_k58_whole_anew_by_all_lays) (q := view (OpenLaw.row PySem.Challenge.rw_leftspaces_k58_whole_anew_by_all_lays).prog [35]) (H := K58.hk) (ob := K58.ob) (M := 6000) (loose := (("LeftError" : PySem.Str) :: ("NoLay" : PySem.Str) :: ("begins" : PySem.Str) :: ("room" : PySem.Str) :: ("end_of" : PySem.Str) :: ("bent" : PySem.Str) :: ("first_of" : PySem.Str) :: ("sized" : PySem.Str) :: ("line_of" : PySem.Str) :: ("anew_lines" : PySem.Str) :: ("most_lines" : PySem.Str) :: ("ends_from" : PySem.Str) :: ("cost_of" : PySem.Str) :: ("step_rows" : PySem.Str) :: ("prices_of" : PySem.Str) :: ("fewest_anew" : PySem.Str) :: ("_law_feed" : PySem.Str) :: ("_law_draw" : PySem.Str) :: ("_law_same" : PySem.Str) :: ("_law_words" : PySem.Str) :: ("_law_end" : PySem.Str) :: ("_law_space" : PySem.Str) :: ("_law_lay" : PySem.Str) :: ("_law_sized" : PySem.Str) :: ("_law_bent" : PySem.Str) :: ("_law_line" : PySem.Str) :: ("_law_anew" : PySem.Str) :: ("_law_all_lays" : PySem.Str) :: ("_law_told" : PySem.Str) :: [])) (d := HandSHeadRun.topDef (OpenLaw.row PySem.Challenge.rw_leftspaces_k58_whole_anew_by_all_lays).prog 35) (kwd := []) K58.ob_eq
    (by kernel_rfl) (fun s => by kernel_rfl) K58.run (by kernel_rfl) (by kernel_rfl) (by kernel_rfl) (by rfl) (by first | assumption | decide +kernel) (by decide +kernel) ⟨rfl, rfl, rfl, rfl, rfl, by decide +kernel⟩ ?hw ?hc
  case hw => w_witness2
  case hc => exact Pf.Txt.walk (T := K58.T) (law := K58.law) (n := 63) (N := 20) (wf := 100000) (j := 27) (x := "_law_script") K58.ok K58.okc (by kernel_rfl) (by kernel_rfl) rfl (by decide) (by kernel_rfl) (by kernel_rfl) ⟨rfl, by decide, by decide⟩ (by kernel_rfl) (by decide +kernel) K58.plain
