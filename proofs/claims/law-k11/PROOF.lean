import PyProof.Rows.All
import Wide.All
import OpenK.AllK
import Wide.FinOn
import PyProof.EqAt
import PyProof.EqKinds
import PyProof.TupleCall
import KE.SortData
import KE.SortKeyHeap
import KE.DataMinMax
import KE.GoesMore
import KE.GoesEnum
import KE.KEqDict
import KE.KStateDown
import HandS.ForMost
import HandS.ForExc
import HandS.More
import HandS.Flow
import HandS.Deep
import HandS.SortInts
import HandS.TupAny
import HandS.TupMul
import HandS.Walk
import HandS.Small
import HandS.Defaults
import PySem.Challenge.RW_truelevels_k11_all_worlds
import Lean
import HandS.Base
import HandS.Call
import HandS.Ends
import HandS.Words
import HandS.WordsExc
import HandS.Head0
import HandS.Head1
import HandS.Head2
import HandS.HeadEnd
import HandS.HeadHook1
import HandS.HeadHook2
set_option Elab.async false
set_option linter.all false
set_option maxRecDepth 100000
/-! ## K11Rules -/
section
set_option maxHeartbeats 4000000
/-! Rules of the layer that this proof wants besides. -/
namespace K11
open PySem PySem.Spec PyProof.Rows L2
/-! ### names of readings -/
abbrev rPlus : R2 := rI0 fun i j => .int (i + j)
abbrev rMinus : R2 := rI0 fun i j => .int (i - j)
abbrev rTimes : R2 := rI CMul fun i j => .int (i * j)
abbrev rMod : R2 := rI (fun _ j => 0 < j) fun i j => .int (i % j)
abbrev rFdiv : R2 := rI CDiv fun i j => .int (i / j)
abbrev rPow : R2 := rI CPow fun i j => .int (i ^ j.toNat)
abbrev rNeg : V → Hp → VK → Prop := rU fun i => .int (-i)
abbrev rLt : R2 := rI0 fun i j => .bl (decide (i < j))
abbrev rLe : R2 := rI0 fun i j => .bl (decide (i ≤ j))
abbrev rGt : R2 := rI0 fun i j => .bl (decide (j < i))
abbrev rGe : R2 := rI0 fun i j => .bl (decide (j ≤ i))
abbrev rCatS : R2 := fun x y H Q => ∃ i j, x = .str i ∧ y = .str j ∧ i.length + j.length ≤ sizeLine ∧ Q (.str (i ++ j)) H
abbrev rIsN : R2 := fun x y H Q => y = .non ∧ Q (.bl (decide (x = .non))) H
abbrev rNotN : R2 := fun x y H Q => y = .non ∧ Q (.bl (!decide (x = .non))) H
abbrev rLenQ (K : PySem.W.Frag) : List V → Hp → VK → Prop := fun xs H Q => ∃ p ys, xs = [.ref p] ∧ (SqL K H p ys ∨ SqT K H p ys) ∧ Q (.int ys.length) H
abbrev rLenD : List V → Hp → VK → Prop := fun xs H Q => ∃ a kvs, xs = [V.ref a] ∧ H a = some (.dK kvs) ∧ Q (.int kvs.length) H
abbrev rTupO (K : PySem.W.Frag) : List V → Hp → VK → Prop := fun xs H Q => ∃ p ys, xs = [.ref p] ∧ ((SqL K H p ys ∧ ∀ l, H l = none → Q (.ref l) (upd H l (.tup ys))) ∨ (SqT K H p ys ∧ Q (.ref p) H))
abbrev rLstO (K : PySem.W.Frag) : List V → Hp → VK → Prop := fun xs H Q => ∃ p ys, xs = [.ref p] ∧ (SqL K H p ys ∨ SqT K H p ys) ∧ ∀ l, H l = none → Q (.ref l) (upd H l (.lst ys))
abbrev rInt1 : List V → Hp → VK → Prop := fun xs H Q => (∃ i, xs = [.int i] ∧ Q (.int i) H) ∨ ∃ k, xs = [.bl k] ∧ Q (.int (if k then 1 else 0)) H
abbrev rMin2 : List V → Hp → VK → Prop := fun xs H Q => ∃ i j, xs = [.int i, .int j] ∧ Q (.int (if j < i then j else i)) H
abbrev rDictCopy : List V → Hp → VK → Prop := fun xs H Q => ∃ (a : Addr) (kvs : List (Key × V)), xs = [.ref a] ∧ Rd H a (.dK kvs) ∧ ∀ p, H p = none → Q (.ref p) (upd H p (.dK kvs))
abbrev rInsert : V → List V → Hp → VK → Prop := fun x vs H Q => ∃ (l : Addr) (xs : List V) (i : Int) (y : V), x = .ref l ∧ vs = [.int i, y] ∧ H l = some (.lst xs) ∧ xs.length < sizeLine ∧ 0 ≤ i ∧ i < 2 ^ 63 ∧
    Q .non (upd H l (.lst (xs.take i.toNat ++ [y] ++ xs.drop i.toNat)))
theorem units65 {A : Around} {k : Nat} (hr : Room k A) : A.units + 65 < cLine := by
  have := hr.un
  omega
theorem units70 {A : Around} {k : Nat} (hr : Room k A) : A.units + 70 < cLine := by
  have := hr.un
  omega
/-! ### statements -/
theorem PS.nox {X : Cx} {st : Stmt} {t : TS} (h : PS X.nox st t) : PS X st t := ⟨fun pins s σ H D I hw =>
  wpAny_mono (h.run pins s σ H D (I.wish _) hw) (fun _ _ q => q.unwish) fun _ _ z => False.elim z⟩
/-! ### a def that may be called -/
structure DefAt (K : PySem.W.Frag) (mg : Str → Option Value) (x : Str) (st : Stmt) : Prop where
  ex : ∃ f fd, Fun K x x st f fd ∧ mg x = some (.ref f)
/-- what K tells to stand at f -/
def FdAt (K : PySem.W.Frag) (f : Addr) (fd : FuncData) : Prop := ∃ oc od osl, K.lookup f = some ⟨oc, od, .func fd, osl⟩
theorem FdAt.one {K : PySem.W.Frag} {f : Addr} {fd fd' : FuncData} (a : FdAt K f fd) (b : FdAt K f fd') : fd = fd' := by
  obtain ⟨_, _, _, a⟩ := a
  obtain ⟨_, _, _, b⟩ := b
  rw [a] at b
  injection b with b
  injection b with _ _ b _
  injection b
structure Cal (P : Program) (w : World) (K : PySem.W.Frag) (mg : Str → Option Value) (base : Heap) (CX : CXT) (k : Nat) (x : Str) (ps : List Str) (sp : Sp) : Prop where
  ex : ∃ f fd, FnOk P w K mg base CX k f fd ps sp ∧ mg x = some (.ref f) ∧ PySem.W.keepIn K (.ref f) = true ∧ Binds K fd ps [] ∧ FdAt K f fd
abbrev tCal (sp : Sp) (E : XK) (t : TA) : TE := tCallS sp (fun _ => E) t
section
variable {X : Cx} {CX : CXT} {k j : Nat} {ps : List Str} {sp : Sp} {x : Str} {p pos : Pos} {e : Expr} {es : List Expr} {t : TA}
theorem pe_calS {E : L2.St → XK} (C : Cal X.prog X.w X.K X.mg X.base CX k x ps sp) (hr : Room k X.A) (hg : Gl X x) (hx : ∀ σ, PassesAt CX X σ (E σ)) (ha : PA X (e :: es) t) (hdb : (x == ("__debug__" : Str)) = false := by decide)
    (he : starEach (e :: es) X.env = (false, eval e X.env) :: starEach es X.env := by rfl) (hpl : (backTo pos (starEach es X.env)).any (·.1) = false := by rfl) :
    PE X (.Call (.Name x p) (e :: es) [] pos) (tCallS sp E t) := by
  obtain ⟨f, fd, F, hm, hk, hb, _⟩ := C.ex
  exact pe_callS F hr hg hm hk hb hx ha hdb he hpl
theorem pe_cal {E : XK} (C : Cal X.prog X.w X.K X.mg X.base CX k x ps sp) (hr : Room k X.A) (hg : Gl X x) (hx : Passes CX X E) (ha : PA X (e :: es) t) (hdb : (x == ("__debug__" : Str)) = false := by decide)
    (he : starEach (e :: es) X.env = (false, eval e X.env) :: starEach es X.env := by rfl) (hpl : (backTo pos (starEach es X.env)).any (·.1) = false := by rfl) :
    PE X (.Call (.Name x p) (e :: es) [] pos) (tCal sp E t) := pe_calS (E := fun _ => E) C hr hg (fun σ pins H s e s' I c => hx pins σ H s e s' I c) ha hdb he hpl
end
section
variable {P : Program} {w : World} {K : PySem.W.Frag} {mg : Str → Option Value} {base : Heap} {x : Str} {st : Stmt} {N ps : List Str} {k : Nat} {sp : Sp}
theorem fdAt_of {q : Str} {f : Addr} {fd : FuncData} (F : Fun K x q st f fd) : FdAt K f fd := by
  obtain ⟨oc, od, kV, doc, pm, an, cdv, ct, osl, e, lk, _⟩ := F.ex
  exact ⟨oc, od, osl, lk⟩
theorem mk_cal (D : DefAt K mg x st) (S : FnScope N ps (defScope st))
    (hb : ∀ (kV doc pm : Value) (an : Option Addr) (cdv ct : Value) (us : List Value), us.length = ps.length → bindArgs (PySem.W.fnOf x x (defArgs st) (defBody st) (defScope st) .none kV doc pm an cdv ct) ⟨us, []⟩ = pure (ps.zip us))
    (len : ∀ vs H Q E, sp vs H Q E → vs.length = ps.length)
    (hbody : ∀ (f : Addr) (cdv : Value) (A : Around) (outer : List Env) (s : Shared) (H : Hp) (vs : List V) (Q : VK) (E : XK), Room k (A.deeper (envOfC x (defScope st) s.heap.objs.size f cdv)) → sp vs H Q E →
      ∃ t, PSs (cxOf CX0 P w K mg base N x (defScope st) f cdv A outer s H E).nox (defBody st) t ∧ t { nx := fun _ H' => Q .non H', rt := Q } (start N vs) H) : Cal P w K mg base CX0 (k + 1) x ps sp := by
  obtain ⟨f, fd, F, hm⟩ := D.ex
  exact ⟨f, fd, F.ok S len (hbody f), hm, F.kp, F.binds hb, fdAt_of F⟩
theorem mk_calX (D : DefAt K mg x st) (S : FnScope N ps (defScope st))
    (hb : ∀ (kV doc pm : Value) (an : Option Addr) (cdv ct : Value) (us : List Value), us.length = ps.length → bindArgs (PySem.W.fnOf x x (defArgs st) (defBody st) (defScope st) .none kV doc pm an cdv ct) ⟨us, []⟩ = pure (ps.zip us))
    (len : ∀ vs H Q E, sp vs H Q E → vs.length = ps.length)
    (hbody : ∀ (f : Addr) (cdv : Value) (A : Around) (outer : List Env) (s : Shared) (H : Hp) (vs : List V) (Q : VK) (E : XK), Room k (A.deeper (envOfC x (defScope st) s.heap.objs.size f cdv)) → sp vs H Q E →
      ∃ t, PSs (cxOf (L2.CX P w) P w K mg base N x (defScope st) f cdv A outer s H E) (defBody st) t ∧ t { nx := fun _ H' => Q .non H', rt := Q } (start N vs) H) : Cal P w K mg base (L2.CX P w) (k + 1) x ps sp := by
  obtain ⟨f, fd, F, hm⟩ := D.ex
  exact ⟨f, fd, F.okX S len (hbody f), hm, F.kp, F.binds hb, fdAt_of F⟩
end
/-! ### BadState() -/
structure Bs (K : PySem.W.Frag) (mg : Str → Option Value) (C : Addr) : Prop where
  g : mg "BadState" = some (.ref C)
  x : PySem.W.excIn K C [.type "ValueError", .type "Exception", .type "BaseException", .type "object"] "ValueError.__new__" = true
  k : PySem.W.keepIn K (.ref C) = true
  b : PySem.W.subIn K (.ref C) (.type "BaseException") = some true
  t : PySem.W.typeIn K (.ref C) = some (.type "type")
  e : PySem.W.exmOne K (.ref C) (.ref C) = some true
theorem pmk_bs {X : Cx} {C : Addr} {bmB : List Value} {B newId initId : String} {x : Str} {p pos : Pos} (F : ExcBaseFacts B newId initId bmB) (q : PySem.W.excIn X.K C bmB newId = true) (gC : X.mg x = some (.ref C))
    (kC : PySem.W.keepIn X.K (.ref C) = true) (r : Raises X (.ref C)) (hg : Gl X x) (hdb : (x == ("__debug__" : Str)) = false := by decide) :
    PMk X (.Call (.Name x p) [] [] pos) (fun _ H Q => Q (.ref C) none H) := by
  intro pins s σ H Q I h
  refine wpAny_Call_Name_kw (ld_glob I hg gC ?_ hdb)
  refine PySem.W.callWith_K0 I.kIn kC ?_
  show wpAny _ _ (call (.ref C) []) _ _ _
  obtain ⟨bm, N, nm, qn, bs, hdct, sn, sub, ab, col, dd, k0, k1, k2, k3, k5, mN, hC, hN, hni, T⟩ := exc_obj I.kIn q
  refine wpAny_call_exc_subT F T hC hN hni (fun h' e hm => ?_) (by show 0 ≤ sizeLine; exact Nat.zero_le _)
  exact mk_of I hm r h (I.hok.gone hm.new)
/-! ### enumerate(tuple) -/
theorem meets_enum1 {v : Value} {o : Obj} {H : Heap → Prop} (B : Begins v o H) :
    Meets (Builtin.«enumerate.__new__» ⟨[.type "enumerate", v], []⟩) (fun _ R s => H s.heap ∧
      R (.ok (.ret (.ref (s.heap.push o).objs.size))) { s with heap := (s.heap.push o).push { cls := .type "enumerate", data := .fields #[.none, .bool false, .ref s.heap.objs.size, rawInt 0, .none, .none] } }) :=
  .of_wp fun prog w A R s h => by
    obtain ⟨hp, g, d, tk, os⟩ := s; obtain ⟨h1, h⟩ := h
    have hsub := sub_enumerate
    have q1 : ∀ {A' : Around} {E : Value → Shared → Prop} {Q : Value → Shared → Prop}, Q (.ref hp.objs.size) ⟨hp.push o, g, d, tk, os⟩ → wpAny (model prog w) A' (pyIter v) Q E ⟨hp, g, d, tk, os⟩ :=
      fun q => B.iter prog w _ _ ⟨hp, g, d, tk, os⟩ _ h1 q
    wp_walk using q1
    refine wpAny_stack_any fun st => wpAny_pure ?_
    split
    · rename_i c _ _ _ _ _
      cases (c == Value.type "enumerate")
      · wp_walk using q1
        exact ⟨_, rfl, h⟩
      · wp_walk using q1
        exact ⟨_, rfl, h⟩
    · wp_walk using q1
      exact ⟨_, rfl, h⟩
theorem call_enum1 {prog : Program} {w : World} {A : Around} {E : Value → Shared → Prop} {s : Shared} {v : Value} {o : Obj} {H : Heap → Prop} {Q : Value → Shared → Prop} (B : Begins v o H) (h1 : H s.heap)
    (h : ∀ h', IsEnum h' (s.heap.objs.size + 1) s.heap.objs.size 0 .none → h'.get? s.heap.objs.size = some o → h'.objs.size = s.heap.objs.size + 2 →
      (∀ b o, s.heap.get? b = some o → h'.get? b = some o) → Q (.ref (s.heap.objs.size + 1)) { s with heap := h' }) :
    wpAny (model prog w) A (call (.type "enumerate") [v]) Q E s := by
  refine callType_new F.called_enumerate (by decide) (F.typeCall_enumerate_1 _) (F.newCall_enumerate_1 _) (fun obj => F.args_object_init_2 obj _) F.entry_enumerate_new
    (meets_enum1 B) ⟨h1, ?_⟩
  have hz : (s.heap.push o).objs.size = s.heap.objs.size + 1 := Heap.size_push ..
  show _ ∧ _
  rw [hz]
  have he : IsEnum ((s.heap.push o).push { cls := .type "enumerate", data := .fields #[.none, .bool false, .ref s.heap.objs.size, rawInt 0, .none, .none] }) (s.heap.objs.size + 1) s.heap.objs.size 0 .none := by
    have := Heap.get?_push_size (s.heap.push o) (o := { cls := .type "enumerate", data := .fields #[.none, .bool false, .ref s.heap.objs.size, rawInt 0, .none, .none] }) rfl
    rw [hz] at this; exact this
  refine ⟨⟨_, he, rfl⟩, h _ he (Heap.get?_push_of_some _ (Heap.get?_push_size _ B.free)) (by rw [Heap.size_push, hz]) fun b o x => Heap.get?_push_of_some _ (Heap.get?_push_of_some _ x)⟩
/-- the tuple at a, each item in a new pair -/
def IteT (K : PySem.W.Frag) (a : Addr) : It :=
  ⟨fun i H => ∃ (xs : List V) (x : V), SqT K H a xs ∧ xs[i]? = some x, fun i H v H' => ∃ T x, v = .ref T ∧ H T = none ∧ H' = upd H T (.tup [.int (i : Nat), x]) ∧ ∀ xs, SqT K H a xs → xs[i]? = some x, fun i H => ∃ xs : List V, SqT K H a xs ∧ xs.length ≤ i⟩
theorem turn_enumT {P : Program} {w : World} {K : PySem.W.Frag} {elts : List Expr} {kk : Nat} {tpos : Pos} (a e it : Addr) :
    Turn P w K (.Tuple elts kk tpos) (IteT K a) [e, it] e (fun i h => (∃ old, IsEnum h e it ((i : Nat) : Int) old) ∧ h.IsTupleIter it a i ∧ e ≠ it) where
  mem := by simp
  obj := fun i h st b hb => by
    obtain ⟨⟨old, he⟩, ⟨o, ho, hc, hd⟩, _⟩ := st
    have e' : b = e ∨ b = it := by simpa using hb
    rcases e' with z | z
    · rw [z]; exact ⟨_, he, fun v q => nomatch q⟩
    · rw [z]; exact ⟨o, ho, fun v q => by rw [hd] at q; cases q⟩
  keep := fun i h h' st k => let ⟨⟨old, he⟩, hi, hne⟩ := st; ⟨⟨old, k e (by simp) _ he⟩, hi.at fun o q => k it (by simp) o q, hne⟩
  item := by
    intro X hP hw hK hc i pins s σ H E I hf st hg
    subst hP hw hK
    obtain ⟨⟨old, he⟩, hit, hne⟩ := st
    obtain ⟨xs, x, hq, hx⟩ := hg
    obtain ⟨its, rv, p, hz⟩ := I.tuple hq
    have hel : e < s.heap.objs.size := Heap.lt_size he
    have hil : it < s.heap.objs.size := by obtain ⟨_, q, _⟩ := hit; exact Heap.lt_size q
    have pt : s.heap.IsTuple a its.toArray := p
    have hae : a ≠ it := fun z => by
      obtain ⟨o1, q1, c1, _⟩ := hit
      obtain ⟨o2, q2, c2, _⟩ := pt
      rw [z, q1] at q2
      cases q2
      rw [c1] at c2
      exact absurd (Value.type.inj c2) (by decide)
    have haee : a ≠ e := fun z => by
      obtain ⟨o2, q2, c2, _⟩ := pt
      rw [z, he] at q2
      cases q2
      exact absurd (Value.type.inj c2) (by decide)
    have hlt : i < its.toArray.size := by
      have := rv.length
      have := (List.getElem?_eq_some_iff.mp hx).1
      simp
      omega
    refine wpAny_pyNext_enum_itemD (Draws.tuple (A := X.A.in1) (show X.A.in1.handled = none from I.ok.hd hc) it a hae its.toArray) he ⟨hit, pt⟩ hlt hne (by simp [hne, haee.symm]) fun u h' tk hu ho hit' hT hsz hk => ?_
    have ru : RelV x u := by
      obtain ⟨u', hu', ru⟩ := rv.get hx
      have e1 : its.toArray[i]? = some u' := by simpa using hu'
      have e2 : some u' = some u := e1.symm.trans hu
      cases e2
      exact ru
    refine ⟨_, rfl, wpAny_letOwnedTupleGo_enum (s := { s with heap := h', toks := tk + 1 }) ho fun h'' he' sb => ?_⟩
    have hT2 : h''.get? s.heap.objs.size = some { cls := .type "tuple", data := .seq #[.int i tk, u] } := (sb.2 _ (Nat.ne_of_gt hel)).trans hT
    have new : ObjOk X.prog X.w (upd H s.heap.objs.size (.tup [.int (i : Nat), x])) h'' s.heap.objs.size (.tup [.int (i : Nat), x]) :=
      ⟨by show 2 ≤ sizeLine; decide, [.int i tk, u], .cons ⟨_, rfl⟩ (.cons ru .nil), ⟨_, hT2, rfl, _, rfl⟩⟩
    have I1 : Inv X pins σ (upd H s.heap.objs.size (.tup [.int (i : Nat), x])) { s with heap := h'', toks := tk + 1 } :=
      I.turnedNew (ch := [e, it]) (fun b ob hb q => (sb.2 b (fun z => hb (by simp [z]))).trans (hk b ob (fun z => hb (by simp [z])) (fun z => hb (by simp [z])) q)) hf (Nat.le_refl _) new
    refine ⟨.ref s.heap.objs.size, _, I1, rfl, ⟨_, x, rfl, I.hok.fresh (Nat.le_refl _), rfl, fun ys hy => by rw [I.tuple_inj hy hq]; exact hx⟩, ⟨⟨u, ?_⟩, hit'.1.at fun o q => (sb.2 it (Ne.symm hne)).trans q, hne⟩, fun b hb => ?_⟩
    · have e1 : ((i + 1 : Nat) : Int) = (i : Int) + 1 := by omega
      rw [e1]; exact he'
    · have hb' : b < s.heap.objs.size := by
        have e' : b = e ∨ b = it := by simpa using hb
        rcases e' with z | z
        · rw [z]; exact hel
        · rw [z]; exact hil
      rw [upd_ne (Nat.ne_of_lt hb')]
      exact (hf b hb).1
  done := by
    intro X hP hw hK hc i pins s σ H E I hf st hg
    subst hP hw hK
    obtain ⟨⟨old, he⟩, hit, hne⟩ := st
    obtain ⟨xs, hq, hx⟩ := hg
    obtain ⟨its, rv, p, hz⟩ := I.tuple hq
    have pt : s.heap.IsTuple a its.toArray := p
    obtain ⟨f0, f1, f2, f3, f4, f5⟩ := hf it (by simp)
    have hl := rv.length
    have hT : s.TypeIs (.ref e) "enumerate" := ⟨_, he, rfl⟩
    unfold pyNext
    refine wpAny_bind (wpAny_attempt (wpAny_callSpecial?_slot (name := Str.ofString "__next__") hT F.slot_enumerate_next
      (wpAny_call_entry F.slot_enumerate_next hT F.entry_enumerate_next ?_ (F.args_enumerate_next_1 _))))
    show wpAny _ _ (field (.ref e) 2 >>= _) _ _ _
    refine wpAny_bind (wpAny_field he rfl (x := .ref it) rfl ?_)
    refine wpAny_bind (wpAny_nextOf_tuple_end (show X.A.in1.handled = none from I.ok.hd hc) hit pt (by simp; omega) fun h' x he' hx' => ?_)
    obtain ⟨o, ho, hc'⟩ := hx'
    refine wpAny_bind (wpAny_isInstance (T := "StopIteration") (b := true) ⟨o, ho, hc'⟩ isSubtype_stop ?_)
    exact wpAny_pure ⟨rfl, I.turned (t' := s.toks) (fun b o hb q => he' b o hb q) f0 f1 f3 f4 f5⟩
  self := fun A i s Q E st h => let ⟨⟨_, he⟩, _⟩ := st; wpAny_pyIter_enum he h
def iEnumT (K : PySem.W.Frag) (ta : TA) : TI := fun σ H R => ta σ H fun vs H1 => ∃ a xs, vs = [.ref a] ∧ SqT K H1 a xs ∧ R (IteT K a) H1
theorem pi_enumT {X : Cx} {e : Expr} {ta : TA} {p pos tpos : Pos} {elts : List Expr} {kk : Nat} (hg : Gl X "enumerate") (hm : X.mg "enumerate" = none) (ha : PA X [e] ta) (hs : starEach [e] X.env = [(false, eval e X.env)] := by rfl) :
    PI X (.Tuple elts kk tpos) (.Call (.Name "enumerate" p) [e] [] pos) (iEnumT X.K ta) := by
  refine ⟨fun pins s σ H R I h => ?_⟩
  refine Call_ (ld_blt I hg hm boot_enumerate (PyProof.Rows.callWith_type1 (thn (ha.run pos pins s σ H _ I h) fun us s1 ⟨vs, H1, I1, r1, q1⟩ => ?_) hs rfl))
  obtain ⟨a, xs, ex, hq, q⟩ := q1
  subst ex
  cases r1 with
  | cons r rr =>
    cases rr
    cases r
    obtain ⟨its, rv, p', hz⟩ := I1.tuple hq
    have pt : s1.heap.IsTuple a its.toArray := p'
    refine call_enum1 (begins_tuple a its.toArray) pt fun h' he hit hsz hk => wpAny_pyIter_enum he ?_
    have I2 : Inv X pins σ H1 { s1 with heap := h' } := I1.kept (t' := s1.toks) hk
    refine ⟨s1.heap.objs.size + 1, [s1.heap.objs.size + 1, s1.heap.objs.size], _, _, H1, rfl, I2, turn_enumT a (s1.heap.objs.size + 1) s1.heap.objs.size, ⟨⟨.none, he⟩, ⟨_, hit, rfl, rfl⟩, Nat.succ_ne_self _⟩, fun b hb => ?_, q⟩
    have e' : b = s1.heap.objs.size + 1 ∨ b = s1.heap.objs.size := by simpa using hb
    have hle : s1.heap.objs.size ≤ b := by
      rcases e' with z | z
      · rw [z]; exact Nat.le_add_right _ _
      · rw [z]; exact Nat.le_refl _
    exact I1.fpOk hle (I1.hok.fresh hle)
theorem walk_enumT {K : PySem.W.Frag} {a : Addr} {xs : List V} : Walk (IteT K a) xs.length (fun H => SqT K H a xs) (YPair (fun i => some (.int (i : Nat))) (fun i => xs[i]?)) := by
  refine ⟨fun i _ hi q => ⟨xs, xs[i], q, by simp [hi]⟩, fun _ q => ⟨xs, q, Nat.le_refl _⟩, fun i H v H' _ q y => ?_⟩
  obtain ⟨T, x, h1, h2, h3, h4⟩ := y
  exact ⟨T, .int (i : Nat), x, h1, h2, h3, rfl, h4 xs q⟩
end K11
end

/-! ## K11Sort -/
section
set_option maxHeartbeats 4000000
/-! sorted of data, sorted by a key of the program's own, min of data. -/
namespace K11
open PySem PySem.Spec PyProof.Rows L2
/-! ### data and heaps -/
section
variable {K : PySem.W.Frag} {H H' : Hp}
theorem rd_mono (e : Same H H') {a : Addr} {u : HO} (h : Rd H a u) : Rd H' a u := by
  rcases h with h | ⟨o, h⟩
  · exact .inl (e _ _ h)
  · exact .inr ⟨o, e _ _ h⟩
theorem sqL_mono (e : Same H H') {a : Addr} {xs : List V} (h : SqL K H a xs) : SqL K H' a xs := by
  rcases h with h | h
  · exact .inl (rd_mono e h)
  · exact .inr h
theorem sqT_mono (e : Same H H') {a : Addr} {xs : List V} (h : SqT K H a xs) : SqT K H' a xs := by
  rcases h with h | h
  · exact .inl (rd_mono e h)
  · exact .inr h
mutual
theorem Dp.mono (e : Same H H') : ∀ (d : PyData) (v : V), Dp K H v d → Dp K H' v d
  | .none, _, h => by cases h; exact .non
  | .bool b, _, h => by cases h; exact .bl b
  | .int i, _, h => by cases h; exact .int i
  | .str x, _, h => by cases h; exact .str x
  | .list ds, _, h => by
    cases h with
    | lst hs ha => exact .lst (sqL_mono e hs) (DpAll.mono e ds _ ha)
  | .tuple ds, _, h => by
    cases h with
    | tup hs ha => exact .tup (sqT_mono e hs) (DpAll.mono e ds _ ha)
  | .dict _, _, h => by cases h
theorem DpAll.mono (e : Same H H') : ∀ (ds : List PyData) (vs : List V), DpAll K H vs ds → DpAll K H' vs ds
  | [], _, h => by cases h; exact .nil
  | d :: ds, _, h => by
    cases h with
    | cons h1 h2 => exact .cons (Dp.mono e d _ h1) (DpAll.mono e ds _ h2)
end
theorem dpAll_len {vs : List V} {ds : List PyData} (h : DpAll K H vs ds) : vs.length = ds.length := by
  induction ds generalizing vs with
  | nil => cases h; rfl
  | cons d ds ih => cases h with | cons h1 h2 => simp [ih h2]
theorem dpAll_append {vs ws : List V} {ds es : List PyData} (h : DpAll K H vs ds) (g : DpAll K H ws es) : DpAll K H (vs ++ ws) (ds ++ es) := by
  induction ds generalizing vs with
  | nil => cases h; exact g
  | cons d ds ih => cases h with | cons h1 h2 => exact .cons h1 (ih h2)
theorem dpAll_take {vs : List V} {ds : List PyData} (h : DpAll K H vs ds) (n : Nat) : DpAll K H (vs.take n) (ds.take n) := by
  induction ds generalizing vs n with
  | nil => cases h; simp; exact .nil
  | cons d ds ih => cases h with | cons h1 h2 => cases n with
    | zero => exact .nil
    | succ n => exact .cons h1 (ih h2 n)
theorem dpAll_drop {vs : List V} {ds : List PyData} (h : DpAll K H vs ds) (n : Nat) : DpAll K H (vs.drop n) (ds.drop n) := by
  induction ds generalizing vs n with
  | nil => cases h; simp; exact .nil
  | cons d ds ih => cases h with | cons h1 h2 => cases n with
    | zero => exact .cons h1 h2
    | succ n => exact ih h2 n
theorem dpAll_get {vs : List V} {ds : List PyData} (h : DpAll K H vs ds) {i : Nat} {d : PyData} (e : ds[i]? = some d) : ∃ v, vs[i]? = some v ∧ Dp K H v d := by
  induction ds generalizing vs i with
  | nil => simp at e
  | cons d ds ih => cases h with | cons h1 h2 => cases i with
    | zero => simp at e; subst e; exact ⟨_, rfl, h1⟩
    | succ i => simp at e; obtain ⟨v, q, r⟩ := ih h2 e; exact ⟨v, by simpa using q, r⟩
theorem dpAll_get' {vs : List V} {ds : List PyData} (h : DpAll K H vs ds) {i : Nat} {v : V} (e : vs[i]? = some v) : ∃ d, ds[i]? = some d ∧ Dp K H v d := by
  induction ds generalizing vs i with
  | nil => cases h; simp at e
  | cons d ds ih => cases h with | cons h1 h2 => cases i with
    | zero => simp at e; subst e; exact ⟨_, rfl, h1⟩
    | succ i => simp at e; obtain ⟨v, q, r⟩ := ih h2 e; exact ⟨v, by simpa using q, r⟩
theorem dpAll_set {vs : List V} {ds : List PyData} (h : DpAll K H vs ds) (i : Nat) {v : V} {d : PyData} (g : Dp K H v d) : DpAll K H (vs.set i v) (ds.set i d) := by
  induction ds generalizing vs i with
  | nil => cases h; exact .nil
  | cons d' ds ih => cases h with | cons h1 h2 => cases i with
    | zero => exact .cons g h2
    | succ i => exact .cons h1 (ih h2 i)
end
section
variable {X : Cx} {pins : List (Addr × Obj)} {σ : L2.St} {H : Hp} {s : Shared} {h' : Heap}
/-- several records of ours have turned, one of them is told from now on -/
theorem inv_adopt {t' : Nat} {ch : List Addr} {T : Addr} {ob : HO} (I : Inv X pins σ H s) (k : ∀ b o, b ∉ ch → s.heap.get? b = some o → h'.get? b = some o) (hf : ∀ b ∈ ch, FpOk X pins H b) (hT : T ∈ ch)
    (th : ∃ o, h'.get? T = some o) (new : ObjOk X.prog X.w (upd H T ob) h' T ob) : Inv X pins σ (upd H T ob) { s with heap := h', toks := t' } := by
  have hn : H T = none := (hf T hT).1
  have nit : ∀ b u, H b = some u → b ∉ ch := fun b u e z => by
    have q := (hf b z).1
    rw [q] at e; cases e
  refine I.step (g' := s.gens) (d' := s.drawn) (ch := ch) (fun b hb => ⟨(hf b hb).2.2.2.1, (hf b hb).2.1, (hf b hb).2.2.2.2.1, (hf b hb).2.2.2.2.2⟩) (fun b o _ _ hc e _ => k b o hc e) (fun b o _ _ hc e _ => ⟨o.slots, k b o hc e⟩)
    (fun b o hc e n => ?_) (fun b o hc e => ⟨o, k b o hc e⟩) (fun b xs e => ?_) (fun b o u e => ?_) (fun b ps e => ⟨#[], ?_⟩) (fun m hm => ?_) (fun b u e => ?_) I.bare
  · rw [upd_ne (fun z => hc (by rw [z]; exact hT))]; exact n
  · rw [upd_ne (ne_of_none e hn)]; exact e
  · rw [upd_ne (ne_of_none e hn)]; exact e
  · rw [upd_ne (ne_of_none e hn), e]; simp
  · obtain ⟨o, es, ep, ho, r⟩ := hm
    exact ⟨o, es, ep, k _ o (fun z => (hf _ z).2.1 rfl) ho, r⟩
  · by_cases hb : b = T
    · subst hb
      rw [upd_same] at e
      cases e
      exact new
    · rw [upd_ne hb] at e
      refine (I.hok b u e).stay (fun c v hc q => k c v ?_ q) (fun c q => by rw [upd_ne (ne_of_none q hn)]; exact q) fun c xs q => by rw [upd_ne (ne_of_none q hn)]; exact q
      rcases hc with z | z
      · rw [z]; exact nit b u e
      · exact nit c _ z
/-- values and what they stand for, item by item -/
def RelD (K : PySem.W.Frag) (H : Hp) (u : Value) (d : PyData) : Prop := ∃ x, RelV x u ∧ Dp K H x d
theorem eachIs_of {K : PySem.W.Frag} {xs : List V} {us : List Value} {ds : List PyData} (r : Vals xs us) (h : DpAll K H xs ds) : PySem.W.EachIs (RelD K H) us ds := by
  induction ds generalizing xs us with
  | nil => cases h; cases r; exact .nil
  | cons d ds ih => cases h with | cons h1 h2 => cases r with | cons r1 r2 => exact .cons ⟨_, r1, h1⟩ (ih r2 h2)
theorem of_eachIs {K : PySem.W.Frag} {us : List Value} {ds : List PyData} (e : PySem.W.EachIs (RelD K H) us ds) : ∃ xs, Vals xs us ∧ DpAll K H xs ds := by
  induction e with
  | nil => exact ⟨[], .nil, .nil⟩
  | cons h _ ih =>
    obtain ⟨x, r, p⟩ := h
    obtain ⟨xs, q1, q2⟩ := ih
    exact ⟨x :: xs, .cons r q1, .cons p q2⟩
theorem reads_each (I : Inv X pins σ H s) {us : List Value} {ds : List PyData} (e : PySem.W.EachIs (RelD X.K H) us ds) : PySem.W.EachIs (fun v d => ∃ as, Reads s.heap v d as) us ds :=
  e.mono fun u d ⟨x, r, p⟩ => Dp.reads I d x u p r
end
/-- sorted(xs), xs a list of data that are alike -/
def rSortD (K : PySem.W.Frag) : List V → Hp → VK → Prop := fun vs H Q => ∃ (a : Addr) (xs : List V) (ds : List PyData), vs = [V.ref a] ∧ SqL K H a xs ∧ DpAll K H xs ds ∧ PySem.W.AllAlike ds ∧ PySem.W.Sortable ds ∧ (∀ d ∈ ds, d.depth ≤ 8) ∧
  ∀ ys p, H p = none → DpAll K H ys (ds.mergeSort (PySem.W.dataLe false id)) → Q (.ref p) (upd H p (.lst ys))
/-- min(xs), xs a list of data that are alike -/
def rMinD (K : PySem.W.Frag) : List V → Hp → VK → Prop := fun vs H Q => ∃ (a : Addr) (xs : List V) (d : PyData) (ds : List PyData), vs = [V.ref a] ∧ SqL K H a xs ∧ DpAll K H xs (d :: ds) ∧ PySem.W.AlikeAll (d :: ds) ∧ PyData.depthAll (d :: ds) ≤ 8 ∧
  ∀ x : V, Dp K H x (PySem.W.minD d ds) → Q x H
section
variable {X : Cx}
theorem cr_sortD (hu : X.A.units + 64 < cLine) : CallR X (.builtin "sorted") (rSortD X.K) := by
  intro pins s σ H vs us Q I r h
  obtain ⟨a, xs, ds, rfl, hs, hd, hal, hso, hdep, q⟩ := h
  obtain ⟨its, rv, hl, hz⟩ := I.list hs
  rw [Vals.ref1 r]
  have e := eachIs_of rv hd
  have hlen : ds.length ≤ sizeLine := by
    have := dpAll_len hd
    have := rv.length
    omega
  refine PySem.W.sorted_data (enc := id) (R := RelD X.K H) hl.isList e (by simpa using reads_each I e) (by simpa using hal) (by simpa using hso) hlen (fun d hm => by have := hdep d hm; show X.A.units + 2 + d.depth < cLine; omega) fun out ho hout => ?_
  obtain ⟨ys, r1, r2⟩ := of_eachIs hout
  obtain ⟨ep, he'⟩ := PyProof.Rows.sortedAll_at s.heap its out.toArray
  have hyl : ys.length ≤ sizeLine := by
    have := r1.length
    omega
  exact ⟨.ref _, upd H (s.heap.objs.size + 1) (.lst ys), I.laid (t' := s.toks) (fun _ _ => PyProof.Rows.sortedAll_old) (Nat.le_succ _) ⟨hyl, out, ep, r1, he'⟩, rfl, q _ _ (I.hok.fresh (Nat.le_succ _)) r2⟩
theorem minD_mem (d : PyData) (ds : List PyData) : PySem.W.minD d ds ∈ d :: ds := by
  unfold PySem.W.minD
  induction ds generalizing d with
  | nil => simp
  | cons e ds ih =>
    rw [List.foldl_cons]
    rcases List.mem_cons.mp (ih (if PySem.W.dataLt e d then e else d)) with h | h
    · rw [h]
      split <;> simp
    · exact List.mem_cons_of_mem _ (List.mem_cons_of_mem _ h)
theorem cr_minD (hc : X.calm = true) (hu : X.A.units + 64 < cLine) : CallR X (.builtin "min") (rMinD X.K) := by
  intro pins s σ H vs us Q I r h
  obtain ⟨a, xs, d, ds, rfl, hs, hd, hal, hdep, q⟩ := h
  obtain ⟨its, rv, hl, hz⟩ := I.list hs
  rw [Vals.ref1 r]
  obtain ⟨as, hr⟩ := Dp.readsAll I (d :: ds) xs its hd rv
  refine PySem.W.min_list_data (I.ok.hd hc) hl.isList (by simpa using hr) hal (by omega) fun i v h' tk bs hv hrd kp => ?_
  have hv' : its[i]? = some v := by simpa using hv
  have hil := (List.getElem?_eq_some_iff.mp hv').1
  obtain ⟨x, hx⟩ : ∃ x, xs[i]? = some x := ⟨_, List.getElem?_eq_getElem (by rw [rv.length]; exact hil)⟩
  obtain ⟨u, hu', ru⟩ := rv.get hx
  rw [hv'] at hu'
  cases hu'
  obtain ⟨e, he, de⟩ := dpAll_get' hd hx
  have I2 : Inv X pins σ H { s with heap := h', toks := tk } := I.kept (t' := tk) kp
  obtain ⟨as2, hr2⟩ := Dp.reads I2 e x v de ru
  have hmem : e ∈ d :: ds := List.mem_of_getElem? he
  have : e = PySem.W.minD d ds := PySem.W.alike_unique e _ v as2 bs (hal.1 e hmem _ (minD_mem d ds)) hr2 hrd
  subst this
  exact ⟨x, H, I2, ru, q x de⟩
end
/-! ### sorted(xs, key=f) -/
/-- t: the arguments; sp: f's promise; ks: what f gives of an item -/
def tSortK (K : PySem.W.Frag) (sp : Sp) (t : TA) : TE := fun σ H Q => t σ H fun vs H1 => ∃ (a : Addr) (xs : List V) (ds : List PyData) (ks : PyData → PyData), vs = [V.ref a] ∧ SqL K H1 a xs ∧ DpAll K H1 xs ds ∧
  PySem.W.AllAlike (ds.map ks) ∧ PySem.W.Sortable (ds.map ks) ∧ (∀ d ∈ ds, (ks d).depth ≤ 8) ∧
  (∀ (x : V) (d : PyData) (H2 : Hp) (Q' : VK), d ∈ ds → Same H1 H2 → Dp K H2 x d → (∀ v H3, Same H2 H3 → Dp K H3 v (ks d) → Q' v H3) → sp [x] H2 Q' E0) ∧
  ∀ ys p H2, Same H1 H2 → H1 p = none → H2 p = some (.lst ys) → DpAll K H2 ys (ds.mergeSort (PySem.W.dataLe false ks)) → Q (.ref p) H2
section
variable {X : Cx} {pins : List (Addr × Obj)} {σ : L2.St} {H : Hp} {s : Shared} {sp : Sp} {f : Addr} {fd : FuncData} {k : Nat} {ps : List Str}
/-- f, called from within built-ins two deep -/
theorem run_in2 {Q : VK} {us : List Value} {vs : List V} {E : Value → Shared → Prop} (F : FnOk X.prog X.w X.K X.mg X.base CX0 k f fd ps sp) (hr : Room (k + 2) X.A) (hb : Binds X.K fd ps []) (I : Inv X pins σ H s) (r : Vals vs us) (h : sp vs H Q E0) :
    wpAny (model X.prog X.w) X.A.in1.in1 (call (.ref f) us) (EP X pins σ Q) E s := by
  have hl : us.length = ps.length := by rw [← r.length]; exact F.len _ _ _ _ h
  have b := hb s us I.kIn (by rw [List.append_nil]; exact hl)
  rw [List.append_nil] at b
  refine wpAny_call (codeAny_mono (F.run X.A.in1.in1 X.stack s H ⟨us, []⟩ us vs Q E0 (Room.in1 (Room.in1 hr)) I.env0.in1.in1 b r h) fun r s' hq => ?_)
  cases r with
  | error e => exact False.elim hq
  | ok fl =>
    cases fl with
    | ret u => exact I.after hq
    | next => exact False.elim hq
    | brk => exact False.elim hq
    | cont => exact False.elim hq
theorem inv_os {Q : VK} {u : Value} {s' : Shared} (h : EP X pins σ Q u s') : s'.os = X.s_0.os := by
  obtain ⟨v, H', I, _⟩ := h
  exact I.os
theorem sortK_run {a : Addr} {xs : List V} {ds : List PyData} {ks : PyData → PyData} {Q : VK} (F : FnOk X.prog X.w X.K X.mg X.base CX0 k f fd ps sp) (hr : Room (k + 2) X.A) (hb : Binds X.K fd ps []) (I : Inv X pins σ H s)
    (hs : SqL X.K H a xs) (hd : DpAll X.K H xs ds) (hal : PySem.W.AllAlike (ds.map ks)) (hso : PySem.W.Sortable (ds.map ks)) (hdep : ∀ d ∈ ds, (ks d).depth ≤ 8)
    (hf : ∀ (x : V) (d : PyData) (H2 : Hp) (Q' : VK), d ∈ ds → Same H H2 → Dp X.K H2 x d → (∀ v H3, Same H2 H3 → Dp X.K H3 v (ks d) → Q' v H3) → sp [x] H2 Q' E0)
    (q : ∀ ys p H2, Same H H2 → H p = none → H2 p = some (.lst ys) → DpAll X.K H2 ys (ds.mergeSort (PySem.W.dataLe false ks)) → Q (.ref p) H2) :
    wpAny (model X.prog X.w) X.A (call (.builtin "sorted") [.ref a] [(Str.ofString "key", .ref f)]) (EP X pins σ Q) X.xe s := by
  obtain ⟨its, rv, hl, hz⟩ := I.list hs
  have hdl := dpAll_len hd
  have hvl := rv.length
  have e0 := eachIs_of rv hd
  refine PySem.W.sorted_of_sort hl.isList (by omega) (ksk_s1 _ _) (fun x => ksk_l1 _ _) fun E' => ?_
  rw [ksk_t1]
  -- the new list at b
  obtain ⟨b, hbd⟩ : ∃ b, b = s.heap.objs.size + 1 := ⟨_, rfl⟩
  rw [← hbd]
  have ho : (PySem.W.copyHeap s.heap its).get? b = some (seqObj "list" its.toArray 0) := by rw [hbd]; exact PySem.W.copyHeap_at s.heap its
  have hbl : b < (PySem.W.copyHeap s.heap its).objs.size := Heap.lt_size ho
  obtain ⟨e1, ho1⟩ : ∃ e1, ((PySem.W.copyHeap s.heap its).update b (Obj.mapSeq fun _ => (#[] : Array Value))).get? b = some (seqObj "list" #[] e1) := ⟨_, get?_update_seq ho fun _ => #[]⟩
  have hkS : (((PySem.W.copyHeap s.heap its).update b (Obj.mapSeq fun _ => (#[] : Array Value))).push (seqObj "tuple" its.toArray 0)).objs.size = (PySem.W.copyHeap s.heap its).objs.size + 1 := by rw [size_push', Heap.size_update]
  obtain ⟨kS, hkd⟩ : ∃ kS, kS = (PySem.W.copyHeap s.heap its).objs.size + 1 := ⟨_, rfl⟩
  unfold ksk_tree
  refine wpAny_bind (listItems_at ho rfl ?_)
  refine wpAny_bind (listUpdate_at ho rfl ?_ (by rw [List.size_toArray]; omega) (Nat.zero_le _))
  refine wpAny_bind (seqEpoch_at ho1 rfl ?_)
  refine wpAny_bind (wpAny_newTuple ?_ (by show its.length ≤ _; omega))
  refine wpAny_bind (wpAny_newList ?_ (Nat.zero_le _))
  refine wpAny_holding ?_
  obtain ⟨h1, hh1⟩ : ∃ h1, h1 = (((PySem.W.copyHeap s.heap its).update b (Obj.mapSeq fun _ => (#[] : Array Value))).push (seqObj "tuple" its.toArray 0)).push (seqObj "list" #[] 0) := ⟨_, rfl⟩
  have g1 : ∀ c o, s.heap.get? c = some o → h1.get? c = some o := fun c o e => by
    have hlt := Heap.lt_size e
    rw [hh1]
    refine Heap.get?_push_of_some _ (Heap.get?_push_of_some _ ?_)
    rw [Heap.get?_update_ne _ _ _ _ (by rw [hbd]; exact Nat.ne_of_lt (Nat.lt_succ_of_lt hlt))]
    exact PySem.W.copyHeap_old e
  have ga : h1.get? b = some (seqObj "list" #[] e1) := by
    rw [hh1]
    exact Heap.get?_push_of_some _ (Heap.get?_push_of_some _ ho1)
  have gk : h1.get? kS = some (seqObj "list" #[] 0) := by
    rw [hh1, hkd, ← hkS]
    exact Heap.get?_push_size _ rfl
  have hba : s.heap.objs.size ≤ b := by rw [hbd]; exact Nat.le_succ _
  have hka : s.heap.objs.size ≤ kS := by rw [hkd]; omega
  have hne : kS ≠ b := by rw [hkd]; omega
  show wpAny _ _ (ksk_rest b (.ref f) false its.toArray e1 (.ref (((PySem.W.copyHeap s.heap its).update b (Obj.mapSeq fun _ => (#[] : Array Value))).push (seqObj "tuple" its.toArray 0)).objs.size)) _ _ { s with heap := (((PySem.W.copyHeap s.heap its).update b (Obj.mapSeq fun _ => (#[] : Array Value))).push (seqObj "tuple" its.toArray 0)).push (seqObj "list" #[] 0) }
  rw [hkS, ← hkd, ← hh1]
  have I1 : Inv X pins σ H { s with heap := h1 } := I.kept (t' := s.toks) g1
  have fp : ∀ {H' : Hp}, H' b = none → H' kS = none → ∀ c ∈ [b, kS], FpOk X pins H' c := fun {H'} n1 n2 c hc => by
    rcases List.mem_cons.mp hc with z | hc
    · rw [z]; exact I.fpOk hba n1
    · rw [List.mem_singleton.mp hc]; exact I.fpOk hka n2
  -- the keys
  unfold ksk_rest
  refine wpAny_bind (wpAny_rule ?_)
  rw [List.forIn_toArray]
  refine wpAny_bind (ksk_fold (fun i s' => ∃ (H' : Hp) (kA : Array Value) (e : Nat) (kv : List V), Inv X pins σ H' s' ∧ Same H H' ∧ H' b = none ∧ H' kS = none ∧ s'.heap.get? kS = some (seqObj "list" kA e) ∧ s'.heap.get? b = some (seqObj "list" #[] e1) ∧ Vals kv kA.toList ∧ DpAll X.K H' kv ((ds.map ks).take i)) its 0 { s with heap := h1 }
    ⟨H, #[], 0, [], I1, Same.refl H, I.hok.fresh hba, I.hok.fresh hka, gk, ga, .nil, by simp; exact .nil⟩ ?step ?done)
  case step =>
    rintro j u s' hu ⟨H', kA, e, kv, J, sm, n1, n2, k1, k2, rk, dk⟩
    simp only [Nat.zero_add] at dk ⊢
    have hjl := (List.getElem?_eq_some_iff.mp hu).1
    obtain ⟨x, hx⟩ : ∃ x, xs[j]? = some x := ⟨_, List.getElem?_eq_getElem (by omega)⟩
    obtain ⟨u', hu', ru⟩ := rv.get hx
    rw [hu] at hu'
    cases hu'
    obtain ⟨d, hdj, dx⟩ := dpAll_get' hd hx
    have ek : (ds.map ks).take (j + 1) = (ds.map ks).take j ++ [ks d] := by
      rw [List.take_add_one, List.getElem?_map, hdj]
      rfl
    have hkl : kA.size ≤ its.length := by
      have q0 : kA.toList.length = kA.size := Array.length_toList
      have q1 := rk.length
      have q2 := dpAll_len dk
      rw [List.length_take, List.length_map] at q2
      omega
    have nocell : ∀ (vs : Array Value) (n : Nat) (v : Option Value), (seqObj "list" vs n).data ≠ .cell v := fun vs n v z => by cases z
    have J2 : Inv X ((kS, seqObj "list" kA e) :: (b, seqObj "list" #[] e1) :: pins) σ H' s' := J.pins_of fun p hp => by
      rcases List.mem_cons.mp hp with z | hp
      · rw [z]
        exact ⟨k1, n2, (fp n1 n2 kS (by simp)).2.1, (fp n1 n2 kS (by simp)).2.2.1, nocell _ _⟩
      rcases List.mem_cons.mp hp with z | hp
      · rw [z]
        exact ⟨k2, n1, (fp n1 n2 b (by simp)).2.1, (fp n1 n2 b (by simp)).2.2.1, nocell _ _⟩
      · exact J.pin p (List.mem_append_right _ hp)
    refine wpAny_bind (wpAny_attempt (wpAny_mono (run_in2 (E := fun _ _ => False) F hr hb J2 (.cons ru .nil) (hf x d H' (fun v H3 => Same H' H3 ∧ Dp X.K H3 v (ks d)) (List.mem_of_getElem? hdj) sm (Dp.mono sm d x dx) fun v H3 sm3 p3 => ⟨sm3, p3⟩)) (fun u2 s2 he => ?_) fun _ _ hF => hF.elim))
    obtain ⟨y, H3, J3, r3, sm3, p3⟩ := he
    try dsimp only
    obtain ⟨k1', n2', _⟩ := J3.pin (kS, seqObj "list" kA e) (by simp)
    obtain ⟨k2', n1', _⟩ := J3.pin (b, seqObj "list" #[] e1) (by simp)
    have J4 : Inv X pins σ H3 s2 := J3.pins_of fun p hp => J3.pin p (List.mem_append_right _ (List.mem_cons_of_mem _ (List.mem_cons_of_mem _ hp)))
    have sb := Heap.SameBut.update s2.heap kS (Obj.mapSeq (·.push u2))
    obtain ⟨c2, hc2⟩ : ∃ c2, (s2.heap.update kS (Obj.mapSeq (·.push u2))).get? kS = some (seqObj "list" (kA.push u2) c2) := ⟨_, get?_update_seq k1' (·.push u2)⟩
    refine wpAny_bind (listUpdate_at k1' rfl ?_ (by omega) (Nat.le_trans (Nat.le_of_eq (Array.size_push ..)) (by omega)))
    have J5 : Inv X pins σ H3 { s2 with heap := s2.heap.update kS (Obj.mapSeq (·.push u2)) } := J4.turnedL (t' := s2.toks) (ch := [kS]) (fun c o hc e => (sb.2 c (fun z => hc (by simp [z]))).trans e) fun c hc => by
      rw [List.mem_singleton.mp hc]
      exact I.fpOk hka n2'
    refine wpAny_pure ⟨rfl, H3, kA.push u2, c2, kv ++ [y], J5, sm.trans sm3, n1', n2', hc2, (sb.2 b hne.symm).trans k2', ?_, ?_⟩
    · rw [Array.toList_push]
      exact rk.append (.cons r3 .nil)
    · rw [ek]
      exact dpAll_append (DpAll.mono sm3 _ _ dk) (.cons p3 .nil)
  case done =>
    rintro s' ⟨H', kA, e, kv, J, sm, n1, n2, k1, k2, rk, dk⟩
    try dsimp only
    have e3 : (ds.map ks).take (0 + its.length) = ds.map ks := List.take_of_length_le (by rw [List.length_map]; omega)
    rw [e3] at dk
    have hsz : kA.size = its.length := by
      have q0 : kA.toList.length = kA.size := Array.length_toList
      have q1 := rk.length
      have q2 := dpAll_len dk
      rw [List.length_map] at q2
      omega
    have hkr : PySem.W.EachIs (fun v d => ∃ as, Reads s'.heap v d as) kA.toList (ds.map ks) := reads_each J (eachIs_of rk dk)
    refine wpAny_bind (listItems_at k1 rfl ?_)
    obtain ⟨G, gG1, gG2⟩ := restrict s'.heap fun c => decide (c ≠ kS)
    have kp : PySem.W.KeepsBut b G s'.heap := fun c o hc eo => by
      by_cases hcs : c = kS
      · rw [hcs, gG2 kS (by simp)] at eo
        cases eo
      · rw [← gG1 c (by simp [hcs])]
        exact eo
    refine PySem.W.keyH_end (κ := PySem.W.dataKind s'.heap (ds.map ks)) (h₁ := G) kp (gG2 kS (by simp)) k1 k2 hne (PySem.W.SortsAt.data (s := s') hkr hal hso (fun d hm => ?_)) hsz (by omega) fun h3 tk3 c kp3 hb3 => ?_
    · obtain ⟨d0, hd0, rfl⟩ := List.mem_map.mp hm
      have := hdep d0 hd0
      have := hr.un
      show X.A.units + 1 + 1 + (ks d0).depth < cLine
      omega
    · refine ⟨rfl, ?_⟩
      have ko : PySem.W.KeyedOut false (ds.map ks) its (PySem.W.sortVals (PySem.W.dataKind s'.heap (ds.map ks)) false kA.toList its) := ⟨s'.heap, kA.toList, hal, rfl, hkr⟩
      have eo := PySem.W.keyedOut_each ks ko e0
      obtain ⟨ys, r1, r2⟩ := of_eachIs eo
      have keepAll : ∀ c o, c ∉ [b, kS] → s'.heap.get? c = some o → h3.get? c = some o := fun c o hc eo => by
        have h1 : c ≠ b := fun z => hc (by simp [z])
        have h2 : c ≠ kS := fun z => hc (by simp [z])
        exact kp3 c o h1 (by rw [gG1 c (by simp [h2])]; exact eo)
      have hyl : ys.length ≤ sizeLine := by
        have q1 := r1.length
        have q2 := PySem.W.sortVals_length (κ := PySem.W.dataKind s'.heap (ds.map ks)) false (ks := kA.toList) (vs := its) (by rw [Array.length_toList]; exact hsz)
        omega
      refine ⟨.ref b, upd H' b (.lst ys), inv_adopt (t' := tk3) (ch := [b, kS]) J keepAll (fp n1 n2) (by simp) ⟨_, hb3⟩ ⟨hyl, _, c, r1, hb3⟩, rfl, q ys b _ (fun c o eo => ?_) (I.hok.fresh hba) upd_same ?_⟩
      · rw [upd_ne (ne_of_none (sm c o eo) n1)]
        exact sm c o eo
      · refine DpAll.mono (fun c o eo => ?_) _ _ (DpAll.mono sm _ _ r2)
        rw [upd_ne (ne_of_none eo n1)]
        exact eo
end
section
variable {X : Cx} {k : Nat} {ps : List Str} {sp : Sp} {x : Str} {p fp kpos pos : Pos} {e : Expr} {t : TA}
theorem pe_sortK (C : Cal X.prog X.w X.K X.mg X.base CX0 k x ps sp) (hr : Room (k + 2) X.A) (hg : Gl X "sorted") (hm : X.mg "sorted" = none) (hgx : Gl X x) (ha : PA X [e] t) (hdb : (x == ("__debug__" : Str)) = false := by decide)
    (he : backTo pos (starEach [e] X.env) = (false, eval e X.env) :: backTo pos (starEach [] X.env) := by rfl) (hpl : (backTo pos (starEach [e] X.env)).any (·.1) = false := by rfl) :
    PE X (.Call (.Name "sorted" p) [e] [⟨some "key", .Name x fp, kpos⟩] pos) (tSortK X.K sp t) := by
  obtain ⟨f, fd, F, hmf, hk, hb, _⟩ := C.ex
  refine ⟨fun pins s σ H Q I h => ?_⟩
  refine wpAny_Call_Name_kw (ld_blt I hg hm (by decide +kernel : bootBuiltins "sorted" = some (.builtin "sorted")) ?_)
  have pk : PK X [⟨some "key", .Name x fp, kpos⟩] (tCons (tC (.ref f)) tNil) := pk_cons (pe_glob hgx hmf rfl hdb) pk_nil
  refine PyProof.Rows.callWith_kw (thn (ha.run pos pins s σ H _ I h) fun us s1 ⟨vs, H1, I1, r1, q1⟩ => thn (pk.run pos pins s1 σ H1 (fun zs H2 => zs = [.ref f] ∧ H2 = H1) I1 ⟨rfl, rfl⟩) fun ws s2 ⟨zs, H2, I2, r2, ez, eH⟩ => ?_) he hpl (by rfl) (by rfl)
  subst ez
  rw [eH] at I2
  obtain ⟨a, xs, ds, ks, rfl, hs, hd, hal, hso, hdep, hf, q⟩ := q1
  rw [Vals.ref1 r1]
  cases r2 with
  | cons ru rn =>
    cases rn
    cases ru
    exact sortK_run F hr hb I2 hs hd hal hso hdep hf q
end
end K11
end

/-! ## K11More -/
section
set_option maxHeartbeats 4000000
/-! tuple * int (any), a dict among dicts, {0: 0}. -/
namespace K11
open PySem PySem.Spec PyProof.Rows L2
open AutoSeq1 (wpAny_loadPart')
/-! ### tuple * int -/
theorem tuple_mul1 (l : Addr) (items : Array Value) (n : Nat) (sl : Array (Option Value)) (x : Int) (u : Tok) (dd : Option Addr) (c0 : (decide (x < -(2 ^ 63)) || decide (x ≥ 2 ^ 63)) = false) (c1 : (items.isEmpty || x == 1) = true) :
    Meets (Builtin.«tuple.__mul__» ⟨[.ref l, .int x u], []⟩) (fun _ R s => s.heap.get? l = some { cls := .type "tuple", dict := dd, data := .seq items n, slots := sl } ∧
      R (.ok (.ret (Value.ref l))) s) :=
  .of_wp fun prog w A R s h => by
    obtain ⟨hp, g, d, tk, os⟩ := s
    obtain ⟨hl, h⟩ := h
    have f1 := AutoSeq1.idx_int
    wp_walk using wpAny_loadPart' hl
    repeat (first
      | (refine wpAny_ite_false (decide_eq_false (by rw [c0]; exact Bool.false_ne_true)) ?_; wp_walk using wpAny_loadPart' hl)
      | (refine wpAny_ite_true (decide_eq_true (by rw [c1])) ?_; wp_walk using wpAny_loadPart' hl))
    exact ⟨_, rfl, h⟩
theorem tuple_mul0 (l : Addr) (items : Array Value) (n : Nat) (sl : Array (Option Value)) (u : Tok) (dd : Option Addr) (hne : items.isEmpty = false) :
    Meets (Builtin.«tuple.__mul__» ⟨[.ref l, .int 0 u], []⟩) (fun _ R s => s.heap.get? l = some { cls := .type "tuple", dict := dd, data := .seq items n, slots := sl } ∧
      R (.ok (.ret (Value.ref s.heap.objs.size))) { s with heap := s.heap.push { cls := Value.type "tuple", data := Data.seq #[] }, toks := s.toks }) :=
  .of_wp fun prog w A R s h => by
    obtain ⟨hp, g, d, tk, os⟩ := s
    obtain ⟨hl, h⟩ := h
    have f1 := AutoSeq1.idx_int
    have c0 : (decide ((0 : Int) < -(2 ^ 63)) || decide ((0 : Int) ≥ 2 ^ 63)) = false := by decide
    have c1 : (items.isEmpty || (0 : Int) == 1) = false := by rw [hne]; decide
    have c2 : (decide ((0 : Int) ≤ 0) || items.isEmpty) = true := by simp
    wp_walk using wpAny_loadPart' hl
    repeat (first
      | (refine wpAny_ite_false (decide_eq_false (by rw [c0]; exact Bool.false_ne_true)) ?_; wp_walk using wpAny_loadPart' hl)
      | (refine wpAny_ite_false (decide_eq_false (by rw [c1]; exact Bool.false_ne_true)) ?_; wp_walk using wpAny_loadPart' hl)
      | (refine wpAny_ite_true (decide_eq_true (by rw [c2])) ?_; wp_walk using wpAny_loadPart' hl))
    exact ⟨_, rfl, h⟩
/-- t * k, k from 0 to 1000 -/
def rRepA (K : PySem.W.Frag) : R2 := fun x y H Q => ∃ l k xs, x = .ref l ∧ y = .int k ∧ SqT K H l xs ∧ 0 ≤ k ∧ k ≤ 1000 ∧ xs.length ≤ 1000 ∧ ((xs = [] ∨ k = 1) → Q (.ref l) H) ∧ (xs ≠ [] → k ≠ 1 → ∀ p, H p = none → Q (.ref p) (upd H p (.tup (List.replicate k.toNat xs).flatten)))
section
variable {X : Cx}
theorem op_repA : OpR X (binaryOp .Mult) (rRepA X.K) := by
  intro pins s σ H x y v u Q I rx ry h
  obtain ⟨l, k, xs, rfl, rfl, hT, h1, h2, hz, q1, q2⟩ := h
  by_cases hk2 : xs ≠ [] ∧ 2 ≤ k
  · exact op_repT pins s σ H _ _ v u Q I rx ry ⟨l, k, xs, rfl, rfl, hT, hk2.1, hk2.2, h2, hz, q2 hk2.1 (by omega)⟩
  cases rx
  obtain ⟨t, rfl⟩ := ry
  obtain ⟨its, r, ⟨⟨cls, dd, data, sl⟩, ho, hc, n, hd⟩, hs⟩ := I.tuple hT
  simp only at hc hd
  subst hc hd
  have hle : its.length = xs.length := r.length.symm
  have c0 : (decide (k < -(2 ^ 63)) || decide (k ≥ 2 ^ 63)) = false := by
    rw [decide_eq_false (by omega), decide_eq_false (by omega)] <;> rfl
  have hemp : xs = [] ↔ its.toArray.isEmpty = true := by
    cases its with
    | nil => simpa using List.eq_nil_of_length_eq_zero (by simpa using hle.symm)
    | cons a b =>
      constructor
      · intro e
        rw [e] at hle
        simp at hle
      · intro e
        simp at e
  have both : xs ≠ [] → k < 2 := fun hx => by
    exact Int.not_le.mp fun h => hk2 ⟨hx, h⟩
  by_cases hc1 : xs = [] ∨ k = 1
  · have c1 : (its.toArray.isEmpty || k == 1) = true := by
      rcases hc1 with e | e
      · rw [hemp.mp e]
        rfl
      · subst e
        simp
    refine wpAny_binaryOp_repeat_ref (T := "tuple") (U := "int") (by decide) ⟨_, ho, rfl⟩ (fun s' => typeIs_int s' k t) noFill_tuple_mul F.fills_int_mul F.slot_int_rmul repeat_tuple F.slot_int_index.lookup
      (call_meets F.slot_int_rmul (typeIs_int s k t) F.entry_int_rmul (F.args_int_rmul_2 _ _) (int_rmul_tuple k t l its.toArray n dd sl)
        ⟨ho, rfl, ⟨_, ho, rfl⟩, call_meets F.slot_tuple_mul ⟨_, ho, rfl⟩ F.entry_tuple_mul (F.args_tuple_mul_2 _ _) (tuple_mul1 l its.toArray n sl k t dd c0 c1) ⟨ho, ?_⟩⟩)
    exact ⟨.ref l, H, I, rfl, q1 hc1⟩
  · have hx : xs ≠ [] := fun e => hc1 (.inl e)
    have hk1 : k ≠ 1 := fun e => hc1 (.inr e)
    have hk0 : k = 0 := by
      have := both hx
      omega
    subst hk0
    have hi : its.toArray.isEmpty = false := by
      cases e : its.toArray.isEmpty with
      | false => rfl
      | true => exact (hx (hemp.mpr e)).elim
    refine wpAny_binaryOp_repeat_ref (T := "tuple") (U := "int") (by decide) ⟨_, ho, rfl⟩ (fun s' => typeIs_int s' 0 t) noFill_tuple_mul F.fills_int_mul F.slot_int_rmul repeat_tuple F.slot_int_index.lookup
      (call_meets F.slot_int_rmul (typeIs_int s 0 t) F.entry_int_rmul (F.args_int_rmul_2 _ _) (int_rmul_tuple 0 t l its.toArray n dd sl)
        ⟨ho, rfl, ⟨_, ho, rfl⟩, call_meets F.slot_tuple_mul ⟨_, ho, rfl⟩ F.entry_tuple_mul (F.args_tuple_mul_2 _ _) (tuple_mul0 l its.toArray n sl t dd hi) ⟨ho, ?_⟩⟩)
    have q := q2 hx (by decide) _ (I.hok.fresh (Nat.le_refl s.heap.objs.size))
    refine ⟨.ref s.heap.objs.size, _, I.laid (t' := s.toks) (o := .tup []) (fun b ob q => Heap.get?_push_of_some _ q) (Nat.le_refl _) ?_, rfl, q⟩
    exact ⟨Nat.zero_le _, [], .nil, IsTup.new _ _⟩
end
/-! ### {0: 0} -/
def tDisp1 (tk tv : TE) : TE := tDisp [(tk, tv)]
theorem pe_disp1 {X : Cx} {pos : Pos} {k v : Expr} {tk tv : TE} (hk : PE X k tk) (hv : PE X v tv) : PE X (.Dict [some k] [v] pos) (tDisp1 tk tv) :=
  pe_disp (pps_cons hk hv pps_nil) rfl rfl (fun z => by cases z) (by show 1 ≤ 15; decide)
/-! ### a dict of ints among such -/
def IntD (kvs : List (Key × V)) : Prop := ∀ p ∈ kvs, (∃ i, p.1 = .inl i) ∧ ∃ j, p.2 = V.int j
def eqDict (ka kb : List (Key × V)) : Bool := ka.length == kb.length && ka.all fun p => decide (valV kb p.1 = some p.2)
theorem kv_inl {kvs : List (Key × V)} {vs : List (Key × Value)} (r : KV kvs vs) : IntD kvs → ∀ q ∈ vs, ∃ i, q.1 = .inl i := by
  unfold KV at r
  induction r with
  | nil => intro _ q hq; cases hq
  | @cons x y xs ys h1 h2 ih =>
    intro hi q hq
    rcases List.mem_cons.mp hq with e | hq
    · subst e
      obtain ⟨⟨i, e⟩, _⟩ := hi x (by simp)
      exact ⟨i, h1.1.symm.trans e⟩
    · exact ih (fun p hp => hi p (by simp [hp])) q hq
theorem pairs_any {P P' : Program} {w w' : World} {l : List DictEntry} {vs : List (Key × Value)} (h : Pairs (mixKind P w) l vs) : Pairs (mixKind P' w') l vs := by
  induction h with
  | nil => exact .nil
  | cons h1 h2 h3 ih => exact .cons h1 h2 ih
theorem pairs_mem {P : Program} {w : World} {l : List DictEntry} {vs : List (Key × Value)} (h : Pairs (mixKind P w) l vs) : ∀ e ∈ l, ∃ q ∈ vs, keyIs q.1 e.key = true := by
  induction h with
  | nil => intro e he; cases he
  | @cons e kv es kvs h1 h2 h3 ih =>
    intro e' he
    rcases List.mem_cons.mp he with z | he
    · subst z
      exact ⟨kv, by simp, h1⟩
    · obtain ⟨q, a, b⟩ := ih e' he
      exact ⟨q, by simp [a], b⟩
theorem dictOf_any {P P' : Program} {w w' : World} {h : Heap} {a : Addr} {kvs : List (Key × V)} {vs : List (Key × Value)} (r : KV kvs vs) (hi : IntD kvs) (d : h.DictOf (mixKind P w) a vs) : h.DictOf (mixKind P' w') a vs := by
  obtain ⟨o, es, ep, ho, hx, hd, hk, hp, hn⟩ := d
  refine ⟨o, es, ep, ho, hx, hd, fun e he => ?_, pairs_any hp, hn⟩
  obtain ⟨k, h1, h2⟩ := hk e he
  refine ⟨k, h1, ?_⟩
  rw [h2]
  obtain ⟨q, hq, hqk⟩ := pairs_mem hp e (by simpa using he)
  obtain ⟨i, ei⟩ := kv_inl r hi q hq
  have : q.1 = k := (mixKind P w).inj e.key q.1 k hqk h1
  rw [← this, ei]
  rfl
theorem hits_any {A : Around} {s : Shared} {ka : List (Key × V)} {va : List (Key × Value)} (ra : KV ka va) {kb : List (Key × V)} {vb : List (Key × Value)} (rb : KV kb vb) (hb : IntD kb) :
    IntD ka → PySem.W.KeqHits A s vb va (ka.all fun p => decide (valV kb p.1 = some p.2)) := by
  unfold KV at ra
  induction ra with
  | nil => intro _; exact .nil
  | @cons p q ps qs h t ih =>
    intro hi
    obtain ⟨key, v⟩ := q
    obtain ⟨h1, h2⟩ := h
    have h1' : p.1 = key := h1
    have ih' := ih (fun x hx => hi x (by simp [hx]))
    rw [List.all_cons]
    have rr : RelO (valV kb p.1) (valueAt vb p.1) := rb.val p.1
    obtain ⟨_, j, ej⟩ := hi p (by simp)
    rw [ej] at h2
    obtain ⟨t1, ev⟩ := h2
    have ev' : v = Value.int j t1 := ev
    cases e : valV kb p.1 with
    | none =>
      rw [e] at rr
      cases e2 : valueAt vb p.1 with
      | some u => rw [e2] at rr; exact rr.elim
      | none =>
        have : decide ((none : Option V) = some p.2) = false := by simp
        rw [this, Bool.false_and]
        exact .miss (by rw [← h1']; exact e2)
    | some u =>
      rw [e] at rr
      cases e2 : valueAt vb p.1 with
      | none => rw [e2] at rr; exact rr.elim
      | some y =>
        rw [e2] at rr
        have rr' : RelV u y := rr
        obtain ⟨pm, hpm, epm⟩ : ∃ pm ∈ kb, pm.2 = u := by
          unfold valV at e
          cases ef : kb.find? fun kv => decide (kv.1 = p.1) with
          | none => rw [ef] at e; cases e
          | some z =>
            rw [ef] at e
            exact ⟨z, List.mem_of_find?_eq_some ef, Option.some.inj e⟩
        obtain ⟨_, j2, ej2⟩ := hb pm hpm
        have eu : u = V.int j2 := epm.symm.trans ej2
        rw [eu] at rr'
        obtain ⟨t2, ey⟩ := rr'
        refine .hit (y := y) (by rw [← h1']; exact e2) ?_ ih'
        rw [ev', ey, ej, eu]
        have hc : decide (some (V.int j2) = some (V.int j)) = (j == j2) := by
          by_cases c : j = j2
          · subst c; simp
          · have : ¬ j2 = j := fun z => c z.symm
            simp [c, this]
        rw [hc]
        exact SeqAt.EqAt.int_int j t1 j2 t2
/-- what an item answers to the dict d -/
def ansD (H : Hp) (d : List (Key × V)) (y : Value) : Bool := match y with
  | .ref b => (match H b with
    | some (.dK e) => eqDict e d
    | _ => false)
  | _ => false
/-- x not in l: x a dict at a, l a list of other dicts -/
def rNotInDs : R2 := fun x y H Q => ∃ (a l : Addr) (d : List (Key × V)) (as : List Addr) (ds : List (List (Key × V))), x = .ref a ∧ y = .ref l ∧ H l = some (.lst (as.map V.ref)) ∧ H a = some (.dK d) ∧ a ∉ as ∧ IntD d ∧
  Paired (fun b e => H b = some (.dK e) ∧ IntD e) as ds ∧ Q (.bl (!ds.any fun e => eqDict e d)) H
theorem op_notInDs {X : Cx} (hu : X.A.units + 64 < cLine) : OpR X (compareOp .NotIn) rNotInDs := by
  intro pins s σ H x y v u Q I rx ry h
  obtain ⟨a, l, d, as, ds, rfl, rfl, hl, ha, hna, hid, hp, q⟩ := h
  cases rx
  cases ry
  obtain ⟨its, rv, pl, hz⟩ := I.list (SqL.of hl)
  obtain ⟨_, ya, va, ra, da⟩ := (show ObjOk X.prog X.w H s.heap a (.dK d) from I.hok a _ ha)
  -- what each item answers
  have ex : ∀ {as : List Addr} {ds : List (List (Key × V))} {its : List Value}, Paired (fun b e => H b = some (.dK e) ∧ IntD e) as ds → a ∉ as → Vals (as.map V.ref) its →
      (∀ y ∈ its, SeqAt.EqAt X.A.in1 s y (.ref a) (ansD H d y)) ∧
      its.any (ansD H d) = ds.any fun e => eqDict e d := by
    intro as ds its hp
    induction hp generalizing its with
    | nil =>
      intro _ r
      cases r
      exact ⟨fun y hy => (by cases hy), rfl⟩
    | @cons b e as ds h t ih =>
      intro hna r
      rw [List.map_cons] at r
      cases r with
      | @cons _ u _ us r1 r2 =>
        obtain rfl : u = Value.ref b := r1
        obtain ⟨ih1, ih2⟩ := ih (fun z => hna (by simp [z])) r2
        obtain ⟨hb, hib⟩ := h
        have hab : b ≠ a := fun z => hna (by simp [z])
        refine ⟨fun y hy => ?_, ?_⟩
        · rcases List.mem_cons.mp hy with z | hy
          · subst z
            simp only [ansD, hb]
            obtain ⟨_, yb, vb, rb, db⟩ := (show ObjOk X.prog X.w H s.heap b (.dK e) from I.hok b _ hb)
            refine SeqAt.EqAt.of_refs hab fun prog w E Q hq => ?_
            refine PySem.W.keq_eq (knd := mixKind prog w) (r := e.all fun p => decide (valV d p.1 = some p.2)) yb ya (dictOf_any rb hib db) (dictOf_any ra hid da) (by show X.A.units + 1 < cLine; omega) (fun _ => hits_any rb ra hid hib) ?_
            rw [← rb.length, ← ra.length]
            exact hq
          · exact ih1 y hy
        · rw [List.any_cons, List.any_cons, ih2]
          simp only [ansD, hb]
  obtain ⟨e1, e2⟩ := ex hp hna rv
  refine SeqAt.notIn_listAt (ansD H d) pl.isList (fun y hy => e1 y (by simpa using hy)) ⟨.bl (!its.toArray.any (ansD H d)), H, I, rfl, ?_⟩
  rw [List.any_toArray, e2]
  exact q

end K11
end

/-! ## K11Ev -/
section
set_option maxHeartbeats 4000000
/-! What evaluates to which data, the heap only growing. -/
namespace K11
open PySem PySem.Spec PyProof.Rows L2
/-! ### heaps -/
def But (l : Addr) (H H' : Hp) : Prop := ∀ a o, a ≠ l → H a = some o → H' a = some o
theorem same_but {H H' : Hp} (e : Same H H') (l : Addr) : But l H H' := fun a o _ h => e a o h
theorem But.trans {l : Addr} {H H1 H2 : Hp} (a : But l H H1) (b : But l H1 H2) : But l H H2 := fun c o n h => b c o n (a c o n h)
theorem But.mut {l : Addr} {H0 H H' : Hp} (e : Same H0 H) (n : H0 l = none) (b : But l H H') : Same H0 H' := fun a o h => b a o (ne_of_none h n) (e a o h)
theorem But.upd {l : Addr} {H H1 : Hp} {o : HO} (e : Same H H1) : But l H (upd H1 l o) := fun a u n h => by
  rw [upd_ne n]
  exact e a u h
theorem same_upd {H : Hp} {p : Addr} {o : HO} (h : H p = none) : Same H (upd H p o) := fun a u e => by
  rw [upd_ne (ne_of_none e h)]
  exact e
theorem fresh_back {H H' : Hp} {p : Addr} (e : Same H H') (h : H' p = none) : H p = none := by
  cases h1 : H p with
  | none => rfl
  | some o =>
    rw [e p o h1] at h
    cases h
/-! ### data without lists -/
mutual
def noL : PyData → Bool
  | .list _ => false
  | .tuple ds => noLAll ds
  | .dict _ => false
  | _ => true
def noLAll : List PyData → Bool
  | [] => true
  | d :: ds => noL d && noLAll ds
end
theorem noL_cons {d : PyData} {ds : List PyData} (h : noLAll (d :: ds) = true) : noL d = true ∧ noLAll ds = true := by
  unfold noLAll at h
  simpa using h
theorem noLAll_iff {ds : List PyData} : noLAll ds = true ↔ ∀ d ∈ ds, noL d = true := by
  induction ds with
  | nil => simp [noLAll]
  | cons d ds ih => simp [noLAll, ih]
theorem noL_tuple {ds : List PyData} : noL (.tuple ds) = noLAll ds := by rw [noL]
section
variable {K : PySem.W.Frag} {H H' : Hp} {l : Addr} {zs : List V}
mutual
theorem Dp.but (b : But l H H') (hl : H l = some (.lst zs)) : ∀ (d : PyData) (v : V), noL d = true → Dp K H v d → Dp K H' v d
  | .none, _, _, h => by cases h; exact .non
  | .bool x, _, _, h => by cases h; exact .bl x
  | .int i, _, _, h => by cases h; exact .int i
  | .str x, _, _, h => by cases h; exact .str x
  | .list ds, _, n, h => by simp [noL] at n
  | .tuple ds, _, n, h => by
    cases h with
    | tup hs ha =>
      rename_i a xs
      refine .tup ?_ (DpAll.but b hl ds _ (by rw [noL] at n; exact n) ha)
      rcases hs with (h | ⟨o, h⟩) | h
      · exact .inl (.inl (b _ _ (fun e => by rw [e, hl] at h; cases h) h))
      · exact .inl (.inr ⟨o, b _ _ (fun e => by rw [e, hl] at h; cases h) h⟩)
      · exact .inr h
  | .dict _, _, _, h => by cases h
theorem DpAll.but (b : But l H H') (hl : H l = some (.lst zs)) : ∀ (ds : List PyData) (vs : List V), noLAll ds = true → DpAll K H vs ds → DpAll K H' vs ds
  | [], _, _, h => by cases h; exact .nil
  | d :: ds, _, n, h => by
    cases h with
    | cons h1 h2 => exact .cons (Dp.but b hl d _ (noL_cons n).1 h1) (DpAll.but b hl ds _ (noL_cons n).2 h2)
end
/-- a list that may be written, its items data -/
def LstAt (K : PySem.W.Frag) (H : Hp) (l : Addr) (ds : List PyData) : Prop := ∃ xs, H l = some (.lst xs) ∧ DpAll K H xs ds
theorem LstAt.mono {ds : List PyData} (e : Same H H') (h : LstAt K H l ds) : LstAt K H' l ds := by
  obtain ⟨xs, h1, h2⟩ := h
  exact ⟨xs, e _ _ h1, DpAll.mono e _ _ h2⟩
theorem LstAt.dp {ds : List PyData} (h : LstAt K H l ds) : Dp K H (.ref l) (.list ds) := by
  obtain ⟨xs, h1, h2⟩ := h
  exact .lst (SqL.of h1) h2
theorem LstAt.but {l2 : Addr} {ds : List PyData} (h : LstAt K H l2 ds) (hn : l2 ≠ l) (b : But l H H') (hl : H l = some (.lst zs)) (n : noLAll ds = true) : LstAt K H' l2 ds := by
  obtain ⟨xs, h1, h2⟩ := h
  exact ⟨xs, b _ _ hn h1, DpAll.but b hl _ _ n h2⟩
theorem LstAt.some {ds : List PyData} (h : LstAt K H l ds) : ∃ zs, H l = Option.some (.lst zs) := by
  obtain ⟨xs, h1, _⟩ := h
  exact ⟨xs, h1⟩
end
/-! ### arguments -/
section
variable {K : PySem.W.Frag} {H : Hp}
theorem dp0 {vs : List V} (h : DpAll K H vs []) : vs = [] := by cases h; rfl
theorem dp1 {vs : List V} {a : PyData} (h : DpAll K H vs [a]) : ∃ x, vs = [x] ∧ Dp K H x a := by
  cases h with | cons h1 h2 => cases h2; exact ⟨_, rfl, h1⟩
theorem dp2 {vs : List V} {a b : PyData} (h : DpAll K H vs [a, b]) : ∃ x y, vs = [x, y] ∧ Dp K H x a ∧ Dp K H y b := by
  cases h with | cons h1 h2 =>
    obtain ⟨y, rfl, h3⟩ := dp1 h2
    exact ⟨_, _, rfl, h1, h3⟩
theorem dp3 {vs : List V} {a b c : PyData} (h : DpAll K H vs [a, b, c]) : ∃ x y z, vs = [x, y, z] ∧ Dp K H x a ∧ Dp K H y b ∧ Dp K H z c := by
  cases h with | cons h1 h2 =>
    obtain ⟨y, z, rfl, h3, h4⟩ := dp2 h2
    exact ⟨_, _, _, rfl, h1, h3, h4⟩
theorem dp4 {vs : List V} {a b c d : PyData} (h : DpAll K H vs [a, b, c, d]) : ∃ x y z u, vs = [x, y, z, u] ∧ Dp K H x a ∧ Dp K H y b ∧ Dp K H z c ∧ Dp K H u d := by
  cases h with | cons h1 h2 =>
    obtain ⟨y, z, u, rfl, h3, h4, h5⟩ := dp3 h2
    exact ⟨_, _, _, _, rfl, h1, h3, h4, h5⟩
theorem dp_int {v : V} {i : Int} (h : Dp K H v (.int i)) : v = .int i := by cases h; rfl
theorem dp_bool {v : V} {b : Bool} (h : Dp K H v (.bool b)) : v = .bl b := by cases h; rfl
theorem dp_str {v : V} {x : Str} (h : Dp K H v (.str x)) : v = .str x := by cases h; rfl
theorem dp_none {v : V} (h : Dp K H v .none) : v = .non := by cases h; rfl
theorem dp_tup {v : V} {ds : List PyData} (h : Dp K H v (.tuple ds)) : ∃ a xs, v = .ref a ∧ SqT K H a xs ∧ DpAll K H xs ds := by
  cases h with | tup h1 h2 => exact ⟨_, _, rfl, h1, h2⟩
theorem dp_lst {v : V} {ds : List PyData} (h : Dp K H v (.list ds)) : ∃ a xs, v = .ref a ∧ SqL K H a xs ∧ DpAll K H xs ds := by
  cases h with | lst h1 h2 => exact ⟨_, _, rfl, h1, h2⟩
end
/-! ### what evaluates to what -/
def EvD (K : PySem.W.Frag) (te : TE) (σ : L2.St) (H : Hp) (d : PyData) : Prop := ∀ H1, Same H H1 → ∀ Q : VK, (∀ v H2, Same H1 H2 → Dp K H2 v d → Q v H2) → te σ H1 Q
/-- a new list -/
def EvN (K : PySem.W.Frag) (te : TE) (σ : L2.St) (H : Hp) (ds : List PyData) : Prop := ∀ H1, Same H H1 → ∀ Q : VK, (∀ p H2, Same H1 H2 → H1 p = none → LstAt K H2 p ds → Q (.ref p) H2) → te σ H1 Q
/-- some data with P -/
def EvR (K : PySem.W.Frag) (te : TE) (σ : L2.St) (H : Hp) (P : PyData → Prop) : Prop := ∀ H1, Same H H1 → ∀ Q : VK, (∀ v H2 d, P d → Same H1 H2 → Dp K H2 v d → Q v H2) → te σ H1 Q
def EvT (tt : TT) (σ : L2.St) (H : Hp) (b : Bool) : Prop := ∀ H1, Same H H1 → ∀ Q : Bool → Hp → Prop, (∀ H2, Same H1 H2 → Q b H2) → tt σ H1 Q
def EvA (K : PySem.W.Frag) (ta : TA) (σ : L2.St) (H : Hp) (ds : List PyData) : Prop := ∀ H1, Same H H1 → ∀ Q : List V → Hp → Prop, (∀ vs H2, Same H1 H2 → DpAll K H2 vs ds → Q vs H2) → ta σ H1 Q
/-- what a promise gives -/
def Ret (K : PySem.W.Frag) (H : Hp) (d : PyData) (Q : VK) : Prop := ∀ v H', Same H H' → Dp K H' v d → Q v H'
def RetP (K : PySem.W.Frag) (H : Hp) (P : PyData → Prop) (Q : VK) : Prop := ∀ v H' d, P d → Same H H' → Dp K H' v d → Q v H'
/-- .. a list that is new -/
def RetN (K : PySem.W.Frag) (H : Hp) (ds : List PyData) (Q : VK) : Prop := ∀ p H', Same H H' → H p = none → LstAt K H' p ds → Q (.ref p) H'
def RetNP (K : PySem.W.Frag) (H : Hp) (P : List PyData → Prop) (Q : VK) : Prop := ∀ p H' ds, P ds → Same H H' → H p = none → LstAt K H' p ds → Q (.ref p) H'
section
variable {K : PySem.W.Frag} {σ : L2.St} {H H' : Hp} {ta tb tc te tl : TE} {t u : TT} {d da db dz : PyData} {v : V} {r : R2} {ds es : List PyData} {i j k : Int}
theorem EvD.mono (e : Same H H') (h : EvD K te σ H d) : EvD K te σ H' d := fun H1 a Q q => h H1 (e.trans a) Q q
theorem EvN.mono (e : Same H H') (h : EvN K te σ H ds) : EvN K te σ H' ds := fun H1 a Q q => h H1 (e.trans a) Q q
theorem EvR.mono {P : PyData → Prop} (e : Same H H') (h : EvR K te σ H P) : EvR K te σ H' P := fun H1 a Q q => h H1 (e.trans a) Q q
theorem EvT.mono {b : Bool} (e : Same H H') (h : EvT t σ H b) : EvT t σ H' b := fun H1 a Q q => h H1 (e.trans a) Q q
theorem EvA.mono {ta : TA} (e : Same H H') (h : EvA K ta σ H ds) : EvA K ta σ H' ds := fun H1 a Q q => h H1 (e.trans a) Q q
theorem EvN.dd (h : EvN K te σ H ds) : EvD K te σ H (.list ds) := fun H1 e Q q => h H1 e Q fun p H2 e2 _ l => q _ _ e2 l.dp
theorem EvD.to (h : EvD K te σ H d) (e : d = dz) : EvD K te σ H dz := e ▸ h
theorem EvT.to {b c : Bool} (h : EvT t σ H b) (e : b = c) : EvT t σ H c := e ▸ h
theorem EvN.to (h : EvN K te σ H ds) (e : ds = es) : EvN K te σ H es := e ▸ h
theorem ev_var {n : Nat} (h : σ[n]? = some (some v)) (hd : Dp K H v d) : EvD K (tVar n) σ H d := fun H1 e Q q => ⟨v, h, q v H1 (Same.refl H1) (Dp.mono e d v hd)⟩
theorem ev_int : EvD K (tC (.int i)) σ H (.int i) := fun H1 _ Q q => q _ H1 (Same.refl H1) (.int i)
theorem ev_bl {b : Bool} : EvD K (tC (.bl b)) σ H (.bool b) := fun H1 _ Q q => q _ H1 (Same.refl H1) (.bl b)
theorem ev_str {x : Str} : EvD K (tC (.str x)) σ H (.str x) := fun H1 _ Q q => q _ H1 (Same.refl H1) (.str x)
theorem ev_non : EvD K (tC .non) σ H .none := fun H1 _ Q q => q _ H1 (Same.refl H1) .non
/-- two operands, then an operation by values -/
theorem ev_op (ha : EvD K ta σ H da) (hb : EvD K tb σ H db) (hr : ∀ x y H1, Same H H1 → Dp K H1 x da → Dp K H1 y db → ∀ Q : VK, (∀ v H2, Same H1 H2 → Dp K H2 v dz → Q v H2) → r x y H1 Q) : EvD K (tOp r ta tb) σ H dz := fun H1 e Q q =>
  ha H1 e _ fun x H2 e2 dx => hb H2 (e.trans e2) _ fun y H3 e3 dy => hr x y H3 ((e.trans e2).trans e3) (Dp.mono e3 _ _ dx) dy Q fun v H4 e4 dv => q v H4 ((e2.trans e3).trans e4) dv
theorem ev_I0 {g : Int → Int → V} (hg : ∀ H : Hp, Dp K H (g i j) dz) (ha : EvD K ta σ H (.int i)) (hb : EvD K tb σ H (.int j)) : EvD K (tOp (rI0 g) ta tb) σ H dz :=
  ev_op ha hb fun x y H1 _ dx dy Q q => by
    cases dp_int dx
    cases dp_int dy
    exact ⟨i, j, rfl, rfl, q _ H1 (Same.refl H1) (hg H1)⟩
theorem ev_I {C : Int → Int → Prop} {g : Int → Int → V} (hc : C i j) (hg : ∀ H : Hp, Dp K H (g i j) dz) (ha : EvD K ta σ H (.int i)) (hb : EvD K tb σ H (.int j)) : EvD K (tOp (rI C g) ta tb) σ H dz :=
  ev_op ha hb fun x y H1 _ dx dy Q q => by
    cases dp_int dx
    cases dp_int dy
    exact ⟨i, j, rfl, rfl, hc, q _ H1 (Same.refl H1) (hg H1)⟩
theorem ev_plus (ha : EvD K ta σ H (.int i)) (hb : EvD K tb σ H (.int j)) : EvD K (tOp rPlus ta tb) σ H (.int (i + j)) := ev_I0 (fun _ => .int _) ha hb
theorem ev_minus (ha : EvD K ta σ H (.int i)) (hb : EvD K tb σ H (.int j)) : EvD K (tOp rMinus ta tb) σ H (.int (i - j)) := ev_I0 (fun _ => .int _) ha hb
theorem ev_times (hc : CMul i j) (ha : EvD K ta σ H (.int i)) (hb : EvD K tb σ H (.int j)) : EvD K (tOp rTimes ta tb) σ H (.int (i * j)) := ev_I hc (fun _ => .int _) ha hb
theorem ev_mod (hc : 0 < j) (ha : EvD K ta σ H (.int i)) (hb : EvD K tb σ H (.int j)) : EvD K (tOp rMod ta tb) σ H (.int (i % j)) := ev_I hc (fun _ => .int _) ha hb
theorem ev_fdiv (hc : CDiv i j) (ha : EvD K ta σ H (.int i)) (hb : EvD K tb σ H (.int j)) : EvD K (tOp rFdiv ta tb) σ H (.int (i / j)) := ev_I hc (fun _ => .int _) ha hb
theorem ev_pow (hc : CPow i j) (ha : EvD K ta σ H (.int i)) (hb : EvD K tb σ H (.int j)) : EvD K (tOp rPow ta tb) σ H (.int (i ^ j.toNat)) := ev_I hc (fun _ => .int _) ha hb
theorem ev_lt (ha : EvD K ta σ H (.int i)) (hb : EvD K tb σ H (.int j)) : EvD K (tOp rLt ta tb) σ H (.bool (decide (i < j))) := ev_I0 (fun _ => .bl _) ha hb
theorem ev_le (ha : EvD K ta σ H (.int i)) (hb : EvD K tb σ H (.int j)) : EvD K (tOp rLe ta tb) σ H (.bool (decide (i ≤ j))) := ev_I0 (fun _ => .bl _) ha hb
theorem ev_gt (ha : EvD K ta σ H (.int i)) (hb : EvD K tb σ H (.int j)) : EvD K (tOp rGt ta tb) σ H (.bool (decide (j < i))) := ev_I0 (fun _ => .bl _) ha hb
theorem ev_ge (ha : EvD K ta σ H (.int i)) (hb : EvD K tb σ H (.int j)) : EvD K (tOp rGe ta tb) σ H (.bool (decide (j ≤ i))) := ev_I0 (fun _ => .bl _) ha hb
theorem ev_neg (ha : EvD K ta σ H (.int i)) : EvD K (tUn rNeg ta) σ H (.int (-i)) := fun H1 e Q q => ha H1 e _ fun x H2 e2 dx => by
  cases dp_int dx
  exact ⟨i, rfl, q _ H2 e2 (.int _)⟩
theorem ev_eqI (ha : EvD K ta σ H (.int i)) (hb : EvD K tb σ H (.int j)) : EvD K (tOp rEq ta tb) σ H (.bool (decide (i = j))) :=
  ev_op ha hb fun x y H1 _ dx dy Q q => by
    cases dp_int dx
    cases dp_int dy
    refine ⟨rfl, q _ H1 (Same.refl H1) ?_⟩
    have : decide (V.int i = V.int j) = decide (i = j) := by simp
    rw [this]
    exact .bl _
theorem ev_neI (ha : EvD K ta σ H (.int i)) (hb : EvD K tb σ H (.int j)) : EvD K (tOp rNe ta tb) σ H (.bool (!decide (i = j))) :=
  ev_op ha hb fun x y H1 _ dx dy Q q => by
    cases dp_int dx
    cases dp_int dy
    refine ⟨rfl, q _ H1 (Same.refl H1) ?_⟩
    have : decide (V.int i = V.int j) = decide (i = j) := by simp
    rw [this]
    exact .bl _
theorem ev_neB {a b : Bool} (ha : EvD K ta σ H (.bool a)) (hb : EvD K tb σ H (.bool b)) : EvD K (tOp rNe ta tb) σ H (.bool (a != b)) :=
  ev_op ha hb fun x y H1 _ dx dy Q q => by
    cases dp_bool dx
    cases dp_bool dy
    refine ⟨rfl, q _ H1 (Same.refl H1) ?_⟩
    have : (!decide (V.bl a = V.bl b)) = (a != b) := by cases a <;> cases b <;> rfl
    rw [this]
    exact .bl _
theorem ev_eqD (sa : SeqAt.shaped da = true) (sb : SeqAt.shaped db = true) (ha : EvD K ta σ H da) (hb : EvD K tb σ H db) : EvD K (tOp (rEqD K) ta tb) σ H (.bool (PyData.eqv da db)) :=
  ev_op ha hb fun x y H1 _ dx dy Q q => ⟨da, db, dx, dy, sa, sb, q _ H1 (Same.refl H1) (.bl _)⟩
theorem ev_neD (sa : SeqAt.shaped da = true) (sb : SeqAt.shaped db = true) (ha : EvD K ta σ H da) (hb : EvD K tb σ H db) : EvD K (tOp (rNeD K) ta tb) σ H (.bool (!PyData.eqv da db)) :=
  ev_op ha hb fun x y H1 _ dx dy Q q => ⟨da, db, dx, dy, sa, sb, q _ H1 (Same.refl H1) (.bl _)⟩
def isNone : PyData → Bool
  | .none => true
  | _ => false
theorem non_iff {x : V} (h : Dp K H x d) : decide (x = .non) = isNone d := by cases h <;> rfl
theorem ev_isN (ha : EvD K ta σ H d) : EvD K (tOp rIsN ta (tC .non)) σ H (.bool (isNone d)) := fun H1 e Q q => ha H1 e _ fun x H2 e2 dx => ⟨rfl, by
  rw [non_iff dx]
  exact q _ H2 e2 (.bl _)⟩
theorem ev_notN (ha : EvD K ta σ H d) : EvD K (tOp rNotN ta (tC .non)) σ H (.bool (!isNone d)) := fun H1 e Q q => ha H1 e _ fun x H2 e2 dx => ⟨rfl, by
  rw [non_iff dx]
  exact q _ H2 e2 (.bl _)⟩
/-- items -/
theorem ev_ixT {n : Nat} (ha : EvD K ta σ H (.tuple ds)) (hb : EvD K tb σ H (.int (n : Int))) (h : ds[n]? = some d) : EvD K (tOp (rIx K) ta tb) σ H d :=
  ev_op ha hb fun x y H1 _ dx dy Q q => by
    obtain ⟨a, xs, rfl, hs, hd⟩ := dp_tup dx
    cases dp_int dy
    obtain ⟨v, hv, dv⟩ := dpAll_get hd h
    exact .inr (.inl ⟨a, xs, (n : Int), v, rfl, rfl, hs, atI_nat hv, q v H1 (Same.refl H1) dv⟩)
theorem ev_ixL {n : Nat} (ha : EvD K ta σ H (.list ds)) (hb : EvD K tb σ H (.int (n : Int))) (h : ds[n]? = some d) : EvD K (tOp (rIx K) ta tb) σ H d :=
  ev_op ha hb fun x y H1 _ dx dy Q q => by
    obtain ⟨a, xs, rfl, hs, hd⟩ := dp_lst dx
    cases dp_int dy
    obtain ⟨v, hv, dv⟩ := dpAll_get hd h
    exact .inl ⟨a, xs, (n : Int), v, rfl, rfl, hs, atI_nat hv, q v H1 (Same.refl H1) dv⟩
theorem ev_ixS {n : Nat} {z : Str} {c : Nat} (ha : EvD K ta σ H (.str z)) (hb : EvD K tb σ H (.int (n : Int))) (hz : z.length ≤ sizeLine) (h : z.cps.toList[n]? = some c) : EvD K (tOp (rIx K) ta tb) σ H (.str ⟨#[c]⟩) :=
  ev_op ha hb fun x y H1 _ dx dy Q q => by
    cases dp_str dx
    cases dp_int dy
    exact .inr (.inr ⟨z, (n : Int), c, rfl, rfl, hz, atI_nat h, q _ H1 (Same.refl H1) (.str _)⟩)
/-- whole numbers in a list, a tuple -/
theorem ints_vs {is : List Int} {xs : List V} (h : DpAll K H xs (is.map .int)) : xs = is.map V.int := by
  induction is generalizing xs with
  | nil => cases h; rfl
  | cons a is ih => cases h with | cons h1 h2 => rw [dp_int h1, ih h2]; rfl
theorem inV_ints (i : Int) (is : List Int) : inV (V.int i) (is.map V.int) = is.contains i := by
  unfold inV
  rw [List.any_map]
  induction is with
  | nil => rfl
  | cons a is ih =>
    rw [List.any_cons, List.contains_cons, ih]
    congr 1
    show (a == i) = (i == a)
    rw [Bool.eq_iff_iff, beq_iff_eq, beq_iff_eq]
    exact eq_comm
theorem flat_ints (is : List Int) : (is.map V.int).all flatV = true := by
  rw [List.all_map]
  exact List.all_eq_true.mpr fun _ _ => rfl
theorem ev_inL {neg : Bool} {is : List Int} (ha : EvD K ta σ H (.int i)) (hb : EvD K tb σ H (.list (is.map .int))) : EvD K (tOp (rIn K neg) ta tb) σ H (.bool (if neg then !is.contains i else is.contains i)) :=
  ev_op ha hb fun x y H1 _ dx dy Q q => by
    cases dp_int dx
    obtain ⟨a, xs, rfl, hs, hd⟩ := dp_lst dy
    obtain rfl := ints_vs hd
    refine ⟨a, _, rfl, .inl hs, rfl, flat_ints is, ?_⟩
    rw [inV_ints]
    exact q _ H1 (Same.refl H1) (.bl _)
theorem ev_inT {neg : Bool} {is : List Int} (ha : EvD K ta σ H (.int i)) (hb : EvD K tb σ H (.tuple (is.map .int))) : EvD K (tOp (rIn K neg) ta tb) σ H (.bool (if neg then !is.contains i else is.contains i)) :=
  ev_op ha hb fun x y H1 _ dx dy Q q => by
    cases dp_int dx
    obtain ⟨a, xs, rfl, hs, hd⟩ := dp_tup dy
    obtain rfl := ints_vs hd
    refine ⟨a, _, rfl, .inr hs, rfl, flat_ints is, ?_⟩
    rw [inV_ints]
    exact q _ H1 (Same.refl H1) (.bl _)
theorem ev_notInD (sd : SeqAt.shaped d = true) (ss : SeqAt.shaped (.list ds) = true) (ha : EvD K ta σ H d) (hb : EvD K tb σ H (.list ds)) : EvD K (tOp (rNotInD K) ta tb) σ H (.bool (!ds.any fun z => PyData.eqv z d)) :=
  ev_op ha hb fun x y H1 _ dx dy Q q => ⟨d, ds, dx, dy, sd, ss, q _ H1 (Same.refl H1) (.bl _)⟩
theorem ev_catS {x y : Str} (h : x.length + y.length ≤ sizeLine) (ha : EvD K ta σ H (.str x)) (hb : EvD K tb σ H (.str y)) : EvD K (tOp rCatS ta tb) σ H (.str (x ++ y)) :=
  ev_op ha hb fun a b H1 _ dx dy Q q => by
    cases dp_str dx
    cases dp_str dy
    exact ⟨x, y, rfl, rfl, h, q _ H1 (Same.refl H1) (.str _)⟩
/-- tuples put together -/
theorem ev_catT (h : ds.length + es.length ≤ sizeLine) (ha : EvD K ta σ H (.tuple ds)) (hb : EvD K tb σ H (.tuple es)) : EvD K (tOp (rCatA K) ta tb) σ H (.tuple (ds ++ es)) :=
  ev_op ha hb fun x y H1 _ dx dy Q q => by
    obtain ⟨a, xs, rfl, hs, hd⟩ := dp_tup dx
    obtain ⟨b, ys, rfl, gs, gd⟩ := dp_tup dy
    have l1 := dpAll_len hd
    have l2 := dpAll_len gd
    refine ⟨a, b, xs, ys, rfl, rfl, hs, gs, by omega, fun e => ?_, fun _ e => ?_, fun _ _ p hp => ?_⟩
    · subst e
      cases ds with
      | nil => exact q _ H1 (Same.refl H1) dy
      | cons _ _ => simp at l1
    · subst e
      cases es with
      | nil => rw [List.append_nil] at q; exact q _ H1 (Same.refl H1) dx
      | cons _ _ => simp at l2
    · have e := same_upd (o := HO.tup (xs ++ ys)) hp
      exact q _ _ e (.tup (SqT.of upd_same) (dpAll_append (DpAll.mono e _ _ hd) (DpAll.mono e _ _ gd)))
/-- truth -/
theorem et_test {b : Bool} (h : EvD K te σ H (.bool b)) : EvT (tTest te) σ H b := fun H1 e Q q => h H1 e _ fun v H2 e2 dv => ⟨b, dp_bool dv, q H2 e2⟩
theorem et_B {b : Bool} (h : EvD K te σ H (.bool b)) : EvT (tB te) σ H b := fun H1 e Q q => h H1 e _ fun v H2 e2 dv => ⟨b, dp_bool dv, q H2 e2⟩
theorem et_and {a b : Bool} (h1 : EvT t σ H a) (h2 : a = true → EvT u σ H b) : EvT (tAnd t u) σ H (a && b) := fun H1 e Q q => h1 H1 e _ fun H2 e2 => by
  cases a with
  | true => exact h2 rfl H2 (e.trans e2) Q fun H3 e3 => q H3 (e2.trans e3)
  | false => exact q H2 e2
theorem et_or {a b : Bool} (h1 : EvT t σ H a) (h2 : a = false → EvT u σ H b) : EvT (tOr t u) σ H (a || b) := fun H1 e Q q => h1 H1 e _ fun H2 e2 => by
  cases a with
  | true => exact q H2 e2
  | false => exact h2 rfl H2 (e.trans e2) Q fun H3 e3 => q H3 (e2.trans e3)
theorem et_yes : EvT tYes σ H true := fun H1 _ Q q => q H1 (Same.refl H1)
/-- argument lists -/
theorem ea_nil : EvA K tNil σ H [] := fun H1 _ Q q => q [] H1 (Same.refl H1) .nil
theorem ea_cons {tr : TA} (h : EvD K ta σ H d) (hr : EvA K tr σ H ds) : EvA K (tCons ta tr) σ H (d :: ds) := fun H1 e Q q =>
  h H1 e _ fun x H2 e2 dx => hr H2 (e.trans e2) _ fun vs H3 e3 dv => q _ H3 (e2.trans e3) (.cons (Dp.mono e3 _ _ dx) dv)
theorem ea1 (h : EvD K ta σ H d) : EvA K (tCons ta tNil) σ H [d] := ea_cons h ea_nil
theorem ea2 (h : EvD K ta σ H da) (h2 : EvD K tb σ H db) : EvA K (tCons ta (tCons tb tNil)) σ H [da, db] := ea_cons h (ea1 h2)
theorem ea3 (h : EvD K ta σ H da) (h2 : EvD K tb σ H db) (h3 : EvD K tc σ H dz) : EvA K (tCons ta (tCons tb (tCons tc tNil))) σ H [da, db, dz] := ea_cons h (ea2 h2 h3)
theorem ev_tup {ta : TA} (hz : ds.length ≤ 1000) (h : EvA K ta σ H ds) : EvD K (tTup ta) σ H (.tuple ds) := fun H1 e Q q => h H1 e _ fun vs H2 e2 dv =>
  ⟨by have := dpAll_len dv; have : 1000 ≤ sizeLine := by decide
      omega, fun p hp => q _ _ (e2.trans (same_upd hp)) (.tup (SqT.of upd_same) (DpAll.mono (same_upd hp) _ _ dv))⟩
theorem en_lst {ta : TA} (hz : ds.length ≤ 1000) (h : EvA K ta σ H ds) : EvN K (tLst ta) σ H ds := fun H1 e Q q => h H1 e _ fun vs H2 e2 dv =>
  ⟨by have := dpAll_len dv; have : 1000 ≤ sizeLine := by decide
      omega, fun p hp => q _ _ (e2.trans (same_upd hp)) (fresh_back e2 hp) ⟨vs, upd_same, DpAll.mono (same_upd hp) _ _ dv⟩⟩
/-- built-ins -/
theorem ev_lenL (h : EvD K ta σ H (.list ds)) : EvD K (tCB (rLenQ K) (tCons ta tNil)) σ H (.int (ds.length : Int)) := fun H1 e Q q => h H1 e _ fun x H2 e2 dx => by
  obtain ⟨a, xs, rfl, hs, hd⟩ := dp_lst dx
  refine ⟨a, xs, rfl, .inl hs, ?_⟩
  rw [dpAll_len hd]
  exact q _ H2 e2 (.int _)
theorem ev_lenT (h : EvD K ta σ H (.tuple ds)) : EvD K (tCB (rLenQ K) (tCons ta tNil)) σ H (.int (ds.length : Int)) := fun H1 e Q q => h H1 e _ fun x H2 e2 dx => by
  obtain ⟨a, xs, rfl, hs, hd⟩ := dp_tup dx
  refine ⟨a, xs, rfl, .inr hs, ?_⟩
  rw [dpAll_len hd]
  exact q _ H2 e2 (.int _)
theorem ev_tupL (h : EvD K ta σ H (.list ds)) : EvD K (tCB (rTupO K) (tCons ta tNil)) σ H (.tuple ds) := fun H1 e Q q => h H1 e _ fun x H2 e2 dx => by
  obtain ⟨a, xs, rfl, hs, hd⟩ := dp_lst dx
  exact ⟨a, xs, rfl, .inl ⟨hs, fun p hp => q _ _ (e2.trans (same_upd hp)) (.tup (SqT.of upd_same) (DpAll.mono (same_upd hp) _ _ hd))⟩⟩
theorem en_lstT (h : EvD K ta σ H (.tuple ds)) : EvN K (tCB (rLstO K) (tCons ta tNil)) σ H ds := fun H1 e Q q => h H1 e _ fun x H2 e2 dx => by
  obtain ⟨a, xs, rfl, hs, hd⟩ := dp_tup dx
  exact ⟨a, xs, rfl, .inr hs, fun p hp => q _ _ (e2.trans (same_upd hp)) (fresh_back e2 hp) ⟨xs, upd_same, DpAll.mono (same_upd hp) _ _ hd⟩⟩
theorem en_lstL (h : EvD K ta σ H (.list ds)) : EvN K (tCB (rLstO K) (tCons ta tNil)) σ H ds := fun H1 e Q q => h H1 e _ fun x H2 e2 dx => by
  obtain ⟨a, xs, rfl, hs, hd⟩ := dp_lst dx
  exact ⟨a, xs, rfl, .inl hs, fun p hp => q _ _ (e2.trans (same_upd hp)) (fresh_back e2 hp) ⟨xs, upd_same, DpAll.mono (same_upd hp) _ _ hd⟩⟩
theorem ev_intI (h : EvD K ta σ H (.int i)) : EvD K (tCB rInt1 (tCons ta tNil)) σ H (.int i) := fun H1 e Q q => h H1 e _ fun x H2 e2 dx => by
  cases dp_int dx
  exact .inl ⟨i, rfl, q _ H2 e2 (.int _)⟩
theorem ev_intB {b : Bool} (h : EvD K ta σ H (.bool b)) : EvD K (tCB rInt1 (tCons ta tNil)) σ H (.int (if b then 1 else 0)) := fun H1 e Q q => h H1 e _ fun x H2 e2 dx => by
  cases dp_bool dx
  exact .inr ⟨b, rfl, q _ H2 e2 (.int _)⟩
theorem ev_min2 (ha : EvD K ta σ H (.int i)) (hb : EvD K tb σ H (.int j)) : EvD K (tCB rMin2 (tCons ta (tCons tb tNil))) σ H (.int (if j < i then j else i)) := fun H1 e Q q =>
  ha H1 e _ fun x H2 e2 dx => hb H2 (e.trans e2) _ fun y H3 e3 dy => by
    cases dp_int dx
    cases dp_int dy
    exact ⟨i, j, rfl, q _ H3 (e2.trans e3) (.int _)⟩
/-- a slice of a list, of a tuple -/
theorem es_no {H : Hp} : ∀ Q : Option Int → Hp → Prop, Q none H → tNoPart σ H Q := fun Q q => q
theorem cut_to (xs : List V) (n : Nat) : cutV xs none (some (n : Int)) = xs.take n := by
  unfold cutV
  rw [HT.sIx_none, HT.sIx_nat, List.drop_zero, Nat.sub_zero]
  rcases Nat.le_total n xs.length with h | h
  · rw [Nat.min_eq_left h]
  · rw [Nat.min_eq_right h, List.take_length, List.take_of_length_le h]
theorem cut_from (xs : List V) (n : Nat) : cutV xs (some (n : Int)) none = xs.drop n := by
  unfold cutV
  rw [HT.sIx_none, HT.sIx_nat]
  rcases Nat.le_total n xs.length with h | h
  · rw [Nat.min_eq_left h, ← List.length_drop, List.take_length]
  · rw [Nat.min_eq_right h, Nat.sub_self, List.take_zero, List.drop_eq_nil_of_le h]
theorem en_slTo {n : Nat} (ha : EvD K ta σ H (.list ds)) (hb : EvD K tb σ H (.int (n : Int))) : EvN K (tSl (rSlL K) ta tNoPart (tPart tb)) σ H (ds.take n) := fun H1 e Q q =>
  ha H1 e _ fun x H2 e2 dx => hb H2 (e.trans e2) _ fun y H3 e3 dy => by
    obtain ⟨a, xs, rfl, hs, hd⟩ := dp_lst (Dp.mono e3 _ _ dx)
    cases dp_int dy
    refine ⟨(n : Int), rfl, a, xs, rfl, hs, fun p hp => ?_⟩
    refine q _ _ ((e2.trans e3).trans (same_upd hp)) (fresh_back (e2.trans e3) hp) ⟨_, upd_same, ?_⟩
    rw [cut_to]
    exact dpAll_take (DpAll.mono (same_upd hp) _ _ hd) n
theorem cutV_all {xs : List V} {lo hi : Option Int} (h : HT.sIx xs.length 0 lo = 0 ∧ HT.sIx xs.length xs.length hi = xs.length) : cutV xs lo hi = xs := by
  unfold cutV
  rw [h.1, h.2, List.drop_zero, Nat.sub_zero, List.take_length]
theorem ev_slT (ha : EvD K ta σ H (.tuple ds)) {lo hi : TO} {ol oh : Option Int} (hl : ∀ H1, Same H H1 → ∀ Q, (∀ H2, Same H1 H2 → Q ol H2) → lo σ H1 Q) (hh : ∀ H1, Same H H1 → ∀ Q, (∀ H2, Same H1 H2 → Q oh H2) → hi σ H1 Q)
    (hc : ∀ (xs : List V) (H' : Hp), DpAll K H' xs ds → DpAll K H' (cutV xs ol oh) es) : EvD K (tSl (rSlA K) ta lo hi) σ H (.tuple es) := fun H1 e Q q =>
  ha H1 e _ fun x H2 e2 dx => hl H2 (e.trans e2) _ fun H3 e3 => hh H3 ((e.trans e2).trans e3) _ fun H4 e4 => by
    obtain ⟨a, xs, rfl, hs, hd⟩ := dp_tup (Dp.mono (e3.trans e4) _ _ dx)
    have eA := (e2.trans e3).trans e4
    refine ⟨a, xs, rfl, hs, fun hw => ?_, fun _ p hp => ?_⟩
    · have h1 := hc xs H4 hd
      rw [cutV_all hw] at h1
      exact q _ H4 eA (.tup hs h1)
    · exact q _ _ (eA.trans (same_upd hp)) (.tup (SqT.of upd_same) (DpAll.mono (same_upd hp) _ _ (hc xs H4 hd)))
theorem es_none : ∀ H1, Same H H1 → ∀ Q : Option Int → Hp → Prop, (∀ H2, Same H1 H2 → Q none H2) → tNoPart σ H1 Q := fun H1 _ Q q => q H1 (Same.refl H1)
theorem es_some (h : EvD K te σ H (.int i)) : ∀ H1, Same H H1 → ∀ Q : Option Int → Hp → Prop, (∀ H2, Same H1 H2 → Q (some i) H2) → tPart te σ H1 Q := fun H1 e Q q => h H1 e _ fun x H2 e2 dx => by
  cases dp_int dx
  exact ⟨i, rfl, q H2 e2⟩
theorem ev_slTto {n : Nat} (ha : EvD K ta σ H (.tuple ds)) (hb : EvD K tb σ H (.int (n : Int))) : EvD K (tSl (rSlA K) ta tNoPart (tPart tb)) σ H (.tuple (ds.take n)) :=
  ev_slT ha es_none (es_some hb) fun xs H' h => by rw [cut_to]; exact dpAll_take h n
theorem ev_slTfrom {n : Nat} (ha : EvD K ta σ H (.tuple ds)) (hb : EvD K tb σ H (.int (n : Int))) : EvD K (tSl (rSlA K) ta (tPart tb) tNoPart) σ H (.tuple (ds.drop n)) :=
  ev_slT ha (es_some hb) es_none fun xs H' h => by rw [cut_from]; exact dpAll_drop h n
/-- calls -/
theorem ev_cal {sp : Sp} {ta : TA} (ha : EvA K ta σ H ds) (h : ∀ vs H1 (Q : VK), Same H H1 → DpAll K H1 vs ds → Ret K H1 dz Q → sp vs H1 Q E0) : EvD K (tCal sp E0 ta) σ H dz := fun H1 e Q q =>
  ha H1 e _ fun vs H2 e2 dv => h vs H2 Q (e.trans e2) dv fun v H3 e3 d3 => q v H3 (e2.trans e3) d3
theorem er_cal {sp : Sp} {ta : TA} {P : PyData → Prop} (ha : EvA K ta σ H ds) (h : ∀ vs H1 (Q : VK), Same H H1 → DpAll K H1 vs ds → RetP K H1 P Q → sp vs H1 Q E0) : EvR K (tCal sp E0 ta) σ H P := fun H1 e Q q =>
  ha H1 e _ fun vs H2 e2 dv => h vs H2 Q (e.trans e2) dv fun v H3 d p e3 d3 => q v H3 d p (e2.trans e3) d3
end
end K11
end

/-! ## K11St -/
section
set_option maxHeartbeats 4000000
/-! What is walked, comprehensions, statements. -/
namespace K11
open PySem PySem.Spec PyProof.Rows L2
/-- all stands but the lists in M -/
def ButM (M : Addr → Prop) (H H' : Hp) : Prop := ∀ a o, H a = some o → ¬ (M a ∧ ∃ xs, o = .lst xs) → H' a = some o
abbrev noM : Addr → Prop := fun _ => False
abbrev oneM (l : Addr) : Addr → Prop := fun a => a = l
section
variable {K : PySem.W.Frag} {M : Addr → Prop} {H H' H1 H2 : Hp} {l : Addr}
theorem same_butM (e : Same H H') : ButM M H H' := fun a o h _ => e a o h
theorem ButM.same (e : ButM noM H H') : Same H H' := fun a o h => e a o h fun z => z.1
theorem ButM.trans (a : ButM M H H1) (b : ButM M H1 H2) : ButM M H H2 := fun c o h n => b c o (a c o h n) n
theorem But.butM (b : But l H H') (h : M l) (hl : ∃ xs, H l = some (.lst xs)) : ButM M H H' := fun a o e n => by
  refine b a o (fun z => n ?_) e
  subst z
  obtain ⟨xs, hx⟩ := hl
  rw [hx] at e
  cases e
  exact ⟨h, xs, rfl⟩
/-- what was free ahead may change -/
theorem ButM.mut (e : Same H H1) (b : ButM M H1 H2) (n : ∀ a, M a → H a = none) : Same H H2 := fun a o h => b a o (e a o h) fun z => by
  rw [n a z.1] at h
  cases h
theorem SqT.butM {a : Addr} {xs : List V} (b : ButM M H H') (h : SqT K H a xs) : SqT K H' a xs := by
  rcases h with (h | ⟨o, h⟩) | h
  · exact .inl (.inl (b _ _ h (fun z => by obtain ⟨_, _, e⟩ := z; cases e)))
  · exact .inl (.inr ⟨o, b _ _ h (fun z => by obtain ⟨_, _, e⟩ := z; cases e)⟩)
  · exact .inr h
theorem SqL.butM {a : Addr} {xs : List V} (b : ButM M H H') (n : ¬ M a) (h : SqL K H a xs) : SqL K H' a xs := by
  rcases h with (h | ⟨o, h⟩) | h
  · exact .inl (.inl (b _ _ h (fun z => n z.1)))
  · exact .inl (.inr ⟨o, b _ _ h (fun z => n z.1)⟩)
  · exact .inr h
mutual
theorem Dp.butM (b : ButM M H H') : ∀ (d : PyData) (v : V), noL d = true → Dp K H v d → Dp K H' v d
  | .none, _, _, h => by cases h; exact .non
  | .bool x, _, _, h => by cases h; exact .bl x
  | .int i, _, _, h => by cases h; exact .int i
  | .str x, _, _, h => by cases h; exact .str x
  | .list ds, _, n, h => by simp [noL] at n
  | .tuple ds, _, n, h => by
    cases h with
    | tup hs ha => exact .tup (SqT.butM b hs) (DpAll.butM b ds _ (by rw [noL] at n; exact n) ha)
  | .dict _, _, _, h => by cases h
theorem DpAll.butM (b : ButM M H H') : ∀ (ds : List PyData) (vs : List V), noLAll ds = true → DpAll K H vs ds → DpAll K H' vs ds
  | [], _, _, h => by cases h; exact .nil
  | d :: ds, _, n, h => by
    cases h with
    | cons h1 h2 => exact .cons (Dp.butM b d _ (noL_cons n).1 h1) (DpAll.butM b ds _ (noL_cons n).2 h2)
end
theorem LstAt.butM {ds : List PyData} (h : LstAt K H l ds) (hn : ¬ M l) (b : ButM M H H') (n : noLAll ds = true) : LstAt K H' l ds := by
  obtain ⟨xs, h1, h2⟩ := h
  exact ⟨xs, b _ _ h1 (fun z => hn z.1), DpAll.butM b _ _ n h2⟩
end
/-- what is walked: n items; lists in M may be written meanwhile -/
def EvI (K : PySem.W.Frag) (M : Addr → Prop) (wi : TI) (σ : L2.St) (H : Hp) (n : Nat) (item : Nat → PyData) : Prop := ∀ H1, Same H H1 → ∀ R : It → Hp → Prop,
  (∀ (J : It) (H2 : Hp) (G : Hp → Prop) (Y : Nat → Hp → V → Hp → Prop), Same H1 H2 → Walk J n G Y → (∀ H3, ButM M H2 H3 → G H3) → (∀ i H3 x H4, i < n → ButM M H2 H3 → Y i H3 x H4 → Same H3 H4 ∧ Dp K H4 x (item i)) → R J H2) → wi σ H1 R
section
variable {K : PySem.W.Frag} {M : Addr → Prop} {σ : L2.St} {H H' : Hp} {ta tb te tl : TE} {ds : List PyData}
theorem EvI.mono {wi : TI} {n : Nat} {item : Nat → PyData} (e : Same H H') (h : EvI K M wi σ H n item) : EvI K M wi σ H' n item := fun H1 a R q => h H1 (e.trans a) R q
theorem getD_of {ds : List PyData} {i : Nat} {d : PyData} (h : ds[i]? = some d) : ds.getD i .none = d := by
  rw [List.getD_eq_getElem?_getD, h]
  rfl
theorem noL_mem {ds : List PyData} {i : Nat} {d : PyData} (hn : noLAll ds = true) (h : ds[i]? = some d) : noL d = true := noLAll_iff.mp hn d (List.mem_of_getElem? h)
theorem ei_tup (h : EvD K tl σ H (.tuple ds)) (hn : noLAll ds = true) : EvI K M (iTup K tl) σ H ds.length (fun i => ds.getD i .none) := fun H1 e R q => h H1 e _ fun x H2 e2 dx => by
  obtain ⟨a, xs, rfl, hs, hd⟩ := dp_tup dx
  refine ⟨a, rfl, ⟨xs, hs⟩, ?_⟩
  rw [← dpAll_len hd] at q
  refine q _ H2 _ _ e2 (walk_tup (a := a) (xs := xs)) (fun H3 e3 => SqT.butM e3 hs) fun i H3 x H4 hi e3 y => ?_
  obtain ⟨rfl, hx⟩ := y
  obtain ⟨d, hd1, hd2⟩ := dpAll_get' hd hx
  show Same _ _ ∧ Dp K _ _ (ds.getD i .none)
  rw [getD_of hd1]
  exact ⟨Same.refl _, Dp.butM e3 _ _ (noL_mem hn hd1) hd2⟩
/-- a list, at a place that is not written -/
theorem ei_lstA (h : EvD K tl σ H (.list ds)) (hn : noLAll ds = true) (hm : ∀ a, ¬ M a) : EvI K M (iList K tl) σ H ds.length (fun i => ds.getD i .none) := fun H1 e R q => h H1 e _ fun x H2 e2 dx => by
  obtain ⟨a, xs, rfl, hs, hd⟩ := dp_lst dx
  refine ⟨a, rfl, ⟨xs, hs⟩, ?_⟩
  rw [← dpAll_len hd] at q
  refine q _ H2 _ _ e2 (walk_list (a := a) (xs := xs)) (fun H3 e3 => SqL.butM e3 (hm a) hs) fun i H3 x H4 hi e3 y => ?_
  obtain ⟨rfl, hx⟩ := y
  obtain ⟨d, hd1, hd2⟩ := dpAll_get' hd hx
  show Same _ _ ∧ Dp K _ _ (ds.getD i .none)
  rw [getD_of hd1]
  exact ⟨Same.refl _, Dp.butM e3 _ _ (noL_mem hn hd1) hd2⟩
theorem ei_lst (h : EvD K tl σ H (.list ds)) (hn : noLAll ds = true) : EvI K noM (iList K tl) σ H ds.length (fun i => ds.getD i .none) := ei_lstA h hn fun _ z => z
/-- a list at a, named -/
theorem ei_lstV {n : Nat} {a : Addr} {xs : List V} (h : σ[n]? = some (some (.ref a))) (hs : SqL K H a xs) (hd : DpAll K H xs ds) (hn : noLAll ds = true) (hm : ¬ M a) : EvI K M (iList K (tVar n)) σ H ds.length (fun i => ds.getD i .none) := fun H1 e R q => by
  refine ⟨_, h, a, rfl, ⟨xs, sqL_mono e hs⟩, ?_⟩
  rw [← dpAll_len hd] at q
  refine q _ H1 _ _ (Same.refl H1) (walk_list (a := a) (xs := xs)) (fun H3 e3 => SqL.butM e3 hm (sqL_mono e hs)) fun i H3 x H4 hi e3 y => ?_
  obtain ⟨rfl, hx⟩ := y
  obtain ⟨d, hd1, hd2⟩ := dpAll_get' hd hx
  show Same _ _ ∧ Dp K _ _ (ds.getD i .none)
  rw [getD_of hd1]
  exact ⟨Same.refl _, Dp.butM e3 _ _ (noL_mem hn hd1) (Dp.mono e _ _ hd2)⟩
/-- a new list -/
theorem ei_lstN (h : EvN K tl σ H ds) (hn : noLAll ds = true) (hm : ∀ l, M l → H l ≠ none) : EvI K M (iList K tl) σ H ds.length (fun i => ds.getD i .none) := fun H1 e R q => h H1 e _ fun a H2 e2 ha hl => by
  obtain ⟨xs, hs, hd⟩ := hl
  refine ⟨a, rfl, ⟨xs, SqL.of hs⟩, ?_⟩
  rw [← dpAll_len hd] at q
  have nm : ¬ M a := fun z => hm a z (fresh_back e ha)
  refine q _ H2 _ _ e2 (walk_list (a := a) (xs := xs)) (fun H3 e3 => SqL.butM e3 nm (SqL.of hs)) fun i H3 x H4 hi e3 y => ?_
  obtain ⟨rfl, hx⟩ := y
  obtain ⟨d, hd1, hd2⟩ := dpAll_get' hd hx
  show Same _ _ ∧ Dp K _ _ (ds.getD i .none)
  rw [getD_of hd1]
  exact ⟨Same.refl _, Dp.butM e3 _ _ (noL_mem hn hd1) hd2⟩
theorem ei_rng1 {n : Nat} (h : EvD K ta σ H (.int (n : Int))) (hn : n ≤ 100000) : EvI K M (iRng1 (tCons ta tNil)) σ H n (fun i => .int (i : Nat)) := fun H1 e R q => h H1 e _ fun x H2 e2 dx => by
  cases dp_int dx
  refine ⟨(n : Int), rfl, by omega, by omega, ?_⟩
  have e0 : ((n : Int)).toNat = n := by omega
  rw [e0]
  refine q _ H2 _ _ e2 walk_range (fun _ _ => trivial) fun i H3 x H4 hi e3 y => ?_
  obtain ⟨rfl, hx⟩ := y
  subst hx
  refine ⟨Same.refl _, ?_⟩
  show Dp K _ (.int ((0 : Int) + (i : Int))) (.int (i : Nat))
  have : (0 : Int) + (i : Int) = (i : Int) := by omega
  rw [this]
  exact .int _
theorem ei_rng2 {lo hi : Int} (ha : EvD K ta σ H (.int lo)) (hb : EvD K tb σ H (.int hi)) (h1 : 0 ≤ lo) (h2 : lo ≤ 100000) (h3 : 0 ≤ hi) (h4 : hi ≤ 100000) : EvI K M (iRng2 (tCons ta (tCons tb tNil))) σ H (hi - lo).toNat (fun i => .int (lo + (i : Nat))) := fun H1 e R q => ha H1 e _ fun x H2 e2 dx => hb H2 (e.trans e2) _ fun y H3 e3 dy => by
  cases dp_int dx
  cases dp_int dy
  refine ⟨lo, hi, rfl, ⟨by omega, by omega, by omega, by omega⟩, ?_⟩
  refine q _ H3 _ _ (e2.trans e3) walk_range (fun _ _ => trivial) fun i H4 x H5 hi e4 y => ?_
  obtain ⟨rfl, hx⟩ := y
  subst hx
  exact ⟨Same.refl _, .int _⟩
theorem pair_new {H3 H4 : Hp} {T : Addr} {x y : V} {a b : PyData} (h2 : H3 T = none) (h3 : H4 = upd H3 T (.tup [x, y])) (dx : Dp K H3 x a) (dy : Dp K H3 y b) : Same H3 H4 ∧ Dp K H4 (.ref T) (.tuple [a, b]) := by
  subst h3
  have e := same_upd (o := HO.tup [x, y]) h2
  exact ⟨e, .tup (SqT.of upd_same) (.cons (Dp.mono e _ _ dx) (.cons (Dp.mono e _ _ dy) .nil))⟩
theorem ei_enumT (h : EvD K tl σ H (.tuple ds)) (hn : noLAll ds = true) : EvI K M (iEnumT K (tCons tl tNil)) σ H ds.length (fun i => .tuple [.int (i : Nat), ds.getD i .none]) := fun H1 e R q => h H1 e _ fun x H2 e2 dx => by
  obtain ⟨a, xs, rfl, hs, hd⟩ := dp_tup dx
  refine ⟨a, xs, rfl, hs, ?_⟩
  rw [← dpAll_len hd] at q
  refine q _ H2 _ _ e2 (walk_enumT (a := a) (xs := xs)) (fun H3 e3 => SqT.butM e3 hs) fun i H3 x H4 hi e3 y => ?_
  obtain ⟨T, x1, y1, rfl, h2, h3, h4, h5⟩ := y
  cases h4
  obtain ⟨d, hd1, hd2⟩ := dpAll_get' hd h5
  show Same _ _ ∧ Dp K _ _ (.tuple [.int (i : Nat), ds.getD i .none])
  rw [getD_of hd1]
  exact pair_new h2 h3 (.int _) (Dp.butM e3 _ _ (noL_mem hn hd1) hd2)
theorem ei_enum (h : EvD K tl σ H (.list ds)) (hn : noLAll ds = true) : EvI K noM (iEnum K (tCons tl tNil)) σ H ds.length (fun i => .tuple [.int (i : Nat), ds.getD i .none]) := fun H1 e R q => h H1 e _ fun x H2 e2 dx => by
  obtain ⟨a, xs, rfl, hs, hd⟩ := dp_lst dx
  refine ⟨a, xs, rfl, hs, ?_⟩
  rw [← dpAll_len hd] at q
  refine q _ H2 _ _ e2 (walk_enum (a := a) (xs := xs)) (fun H3 e3 => sqL_mono e3.same hs) fun i H3 x H4 hi e3 y => ?_
  obtain ⟨T, x1, y1, rfl, h2, h3, h4, h5⟩ := y
  cases h4
  obtain ⟨d, hd1, hd2⟩ := dpAll_get' hd h5
  show Same _ _ ∧ Dp K _ _ (.tuple [.int (i : Nat), ds.getD i .none])
  rw [getD_of hd1]
  exact pair_new h2 h3 (.int _) (Dp.butM e3 _ _ (noL_mem hn hd1) hd2)
/-! ### targets -/
theorem tg2 {x : V} {a b : PyData} {j1 j2 : Nat} {Q : L2.St → Hp → Prop} (dx : Dp K H x (.tuple [a, b])) (q : ∀ x1 x2, Dp K H x1 a → Dp K H x2 b → Q ((σ.set j1 (some x1)).set j2 (some x2)) H) : gTup K 2 (gCons (gName j1) (gCons (gName j2) gNil)) x σ H Q := by
  obtain ⟨p, xs, rfl, hs, hd⟩ := dp_tup dx
  obtain ⟨x1, x2, rfl, d1, d2⟩ := dp2 hd
  exact ⟨p, _, rfl, hs, rfl, x1, [x2], rfl, x2, [], rfl, rfl, q x1 x2 d1 d2⟩
theorem tg3 {x : V} {a b c : PyData} {j1 j2 j3 : Nat} {Q : L2.St → Hp → Prop} (dx : Dp K H x (.tuple [a, b, c])) (q : ∀ x1 x2 x3, Dp K H x1 a → Dp K H x2 b → Dp K H x3 c → Q (((σ.set j1 (some x1)).set j2 (some x2)).set j3 (some x3)) H) :
    gTup K 3 (gCons (gName j1) (gCons (gName j2) (gCons (gName j3) gNil))) x σ H Q := by
  obtain ⟨p, xs, rfl, hs, hd⟩ := dp_tup dx
  obtain ⟨x1, x2, x3, rfl, d1, d2, d3⟩ := dp3 hd
  exact ⟨p, _, rfl, hs, rfl, x1, [x2, x3], rfl, x2, [x3], rfl, x3, [], rfl, rfl, q x1 x2 x3 d1 d2 d3⟩
/-! ### comprehensions -/
def givenD (n : Nat) (f : Nat → Bool) (g : Nat → PyData) : List PyData := ((List.range n).filter f).map g
theorem given_yes {n : Nat} {f : Nat → Bool} {g : Nat → PyData} (h : f n = true) : givenD (n + 1) f g = givenD n f g ++ [g n] := by
  unfold givenD
  rw [List.range_succ, List.filter_append, List.map_append, List.filter_cons, if_pos h]
  rfl
theorem given_no {n : Nat} {f : Nat → Bool} {g : Nat → PyData} (h : f n = false) : givenD (n + 1) f g = givenD n f g := by
  unfold givenD
  rw [List.range_succ, List.filter_append, List.map_append, List.filter_cons, if_neg (by rw [h]; decide)]
  show _ ++ [] = _
  rw [List.append_nil]
theorem given_len (n : Nat) (f : Nat → Bool) (g : Nat → PyData) : (givenD n f g).length ≤ n := by
  unfold givenD
  rw [List.length_map]
  have h := List.length_filter_le f (List.range n)
  rw [List.length_range] at h
  exact h
theorem en_lc {wi : TI} {gt : TG} {tt : TT} {vs : List Nat} {n : Nat} {item : Nat → PyData} (h : EvI K M wi σ H n item) (f : Nat → Bool) (g : Nat → PyData) (hz : n ≤ 100000) (hn : ∀ i, i < n → f i = true → noL (g i) = true)
    (ht : ∀ i H1 x, i < n → Same H H1 → Dp K H1 x (item i) → ∀ Q : L2.St → Hp → Prop, (∀ σ2 H2, Same H1 H2 → wipe σ2 vs = wipe σ vs → EvT tt σ2 H2 (f i) → (f i = true → EvD K te σ2 H2 (g i)) → Q σ2 H2) → gt x (wipe σ vs) H1 Q) :
    EvN K (tLc wi gt tt te vs) σ H (givenD n f g) := fun H1 e Q q => h H1 e _ fun J H2 G Y e2 wk hG hY D hD => by
  refine lc_it wk (fun i H' => Same H2 H' ∧ LstAt K H' D (givenD i f g) ∧ i ≤ n) ⟨same_upd hD, ⟨[], upd_same, .nil⟩, Nat.zero_le _⟩ (fun i H' hi p => hG H' (same_butM p.1)) (fun i x H' H'' hi p y => ?_) fun H' p => q D H' (e2.trans p.1) (fresh_back e2 hD) p.2.1
  obtain ⟨p1, p2, p3⟩ := p
  obtain ⟨e3, dx⟩ := hY i H' x H'' hi (same_butM p1) y
  refine ht i H'' x hi (((e.trans e2).trans p1).trans e3) dx _ fun σ2 H4 e4 hw tv ev => ⟨hw, ?_⟩
  refine tv H4 (Same.refl H4) _ fun H5 e5 => ?_
  have eA : Same H' H5 := (e3.trans e4).trans e5
  cases hf : f i with
  | true =>
    refine iteT ?_
    refine ev hf H5 e5 _ fun v H6 e6 dv => ?_
    obtain ⟨acc, a1, a2⟩ := p2.mono (eA.trans e6)
    have hn2 : H2 D = none := hD
    refine ⟨acc, a1, ?_, ?_, ?_, hi⟩
    · have := dpAll_len a2
      have := given_len i f g
      have : 100000 < sizeLine := by decide
      omega
    · intro b o hb
      rw [upd_ne (ne_of_none hb hn2)]
      exact (p1.trans (eA.trans e6)) b o hb
    · rw [given_yes hf]
      have bt : But D H6 (upd H6 D (.lst (acc ++ [v]))) := But.upd (Same.refl H6)
      refine ⟨acc ++ [v], upd_same, dpAll_append (DpAll.but bt a1 _ _ ?_ a2) (.cons (Dp.but bt a1 _ _ (hn i hi hf) dv) .nil)⟩
      refine noLAll_iff.mpr fun d hd => ?_
      obtain ⟨j, hj, rfl⟩ := List.mem_map.mp hd
      obtain ⟨j1, j2⟩ := List.mem_filter.mp hj
      exact hn j (Nat.lt_trans (List.mem_range.mp j1) hi) j2
  | false =>
    refine iteF ?_
    refine ⟨p1.trans eA, ?_, hi⟩
    rw [given_no hf]
    exact p2.mono eA
/-- over items that stand for bs -/
theorem en_lcB {wi : TI} {gt : TG} {tt : TT} {vs : List Nat} {β : Type} {n : Nat} {item : Nat → PyData} (bs : List β) (enc : β → PyData) (h : EvI K M wi σ H n item) (hn : n = bs.length) (hi : ∀ (i : Nat) (b : β), bs[i]? = some b → item i = enc b)
    (f : β → Bool) (g : β → PyData) (hz : bs.length ≤ 100000) (hg : ∀ b ∈ bs, f b = true → noL (g b) = true)
    (ht : ∀ b ∈ bs, ∀ H1 x, Same H H1 → Dp K H1 x (enc b) → ∀ Q : L2.St → Hp → Prop, (∀ σ2 H2, Same H1 H2 → wipe σ2 vs = wipe σ vs → EvT tt σ2 H2 (f b) → (f b = true → EvD K te σ2 H2 (g b)) → Q σ2 H2) → gt x (wipe σ vs) H1 Q) :
    EvN K (tLc wi gt tt te vs) σ H ((bs.filter f).map g) := by
  subst hn
  have key : ∀ k, k ≤ bs.length → givenD k (fun i => match bs[i]? with | some b => f b | none => false) (fun i => match bs[i]? with | some b => g b | none => .none) = ((bs.take k).filter f).map g := by
    intro k
    induction k with
    | zero => intro _; rfl
    | succ k ih =>
      intro hk
      have hb : bs[k]? = some bs[k] := List.getElem?_eq_getElem hk
      rw [List.take_add_one, hb, Option.toList_some, List.filter_append, List.map_append, ← ih (by omega)]
      cases hf : f bs[k] with
      | true =>
        rw [given_yes (by simp only [hb]; exact hf)]
        simp only [hb, List.filter_cons, hf, if_true, List.filter_nil, List.map_cons, List.map_nil]
      | false =>
        rw [given_no (by simp only [hb]; exact hf)]
        simp [hf]
  have e := key bs.length (Nat.le_refl _)
  rw [List.take_length] at e
  refine EvN.to (en_lc h _ _ hz (fun i hi' hf => ?_) fun i H1 x hi' e1 dx Q q => ?_) e
  · have hb : bs[i]? = some bs[i] := List.getElem?_eq_getElem hi'
    simp only [hb] at hf ⊢
    exact hg _ (List.getElem_mem hi') hf
  · have hb : bs[i]? = some bs[i] := List.getElem?_eq_getElem hi'
    rw [hi i _ hb] at dx
    refine ht bs[i] (List.getElem_mem hi') H1 x e1 dx Q fun σ2 H2 e2 hw tv ev => q σ2 H2 e2 hw ?_ ?_
    · simp only [hb]
      exact tv
    · simp only [hb]
      exact ev
/-! ### statements -/
variable {D : Ends} {tu tw tz : TS} {t : TT} {d : PyData}
theorem s_asg {i : Nat} (h : EvD K te σ H d) (k : ∀ v H1, Same H H1 → Dp K H1 v d → D.nx (σ.set i (some v)) H1) : tAsg te (gName i) D σ H := h H (Same.refl H) _ k
theorem q_asg {i : Nat} (h : EvD K te σ H d) (k : ∀ v H1, Same H H1 → Dp K H1 v d → tz D (σ.set i (some v)) H1) : tSeq (tAsg te (gName i)) tz D σ H := s_asg (D := { D with nx := tz D }) h k
theorem s_asgN {i : Nat} (h : EvN K te σ H ds) (k : ∀ p H1, Same H H1 → H p = none → LstAt K H1 p ds → D.nx (σ.set i (some (.ref p))) H1) : tAsg te (gName i) D σ H := h H (Same.refl H) _ k
theorem q_asgN {i : Nat} (h : EvN K te σ H ds) (k : ∀ p H1, Same H H1 → H p = none → LstAt K H1 p ds → tz D (σ.set i (some (.ref p))) H1) : tSeq (tAsg te (gName i)) tz D σ H := s_asgN (D := { D with nx := tz D }) h k
theorem s_asgR {i : Nat} {P : PyData → Prop} (h : EvR K te σ H P) (k : ∀ v H1 d, P d → Same H H1 → Dp K H1 v d → D.nx (σ.set i (some v)) H1) : tAsg te (gName i) D σ H := h H (Same.refl H) _ k
theorem q_asgR {i : Nat} {P : PyData → Prop} (h : EvR K te σ H P) (k : ∀ v H1 d, P d → Same H H1 → Dp K H1 v d → tz D (σ.set i (some v)) H1) : tSeq (tAsg te (gName i)) tz D σ H := s_asgR (D := { D with nx := tz D }) h k
theorem s_ret (h : EvD K te σ H d) (k : Ret K H d D.rt) : tRet te D σ H := h H (Same.refl H) _ k
theorem s_retN (h : EvN K te σ H ds) (k : RetN K H ds D.rt) : tRet te D σ H := h H (Same.refl H) _ k
theorem s_if {b : Bool} (h : EvT t σ H b) (h1 : b = true → ∀ H1, Same H H1 → tu D σ H1) (h2 : b = false → ∀ H1, Same H H1 → tw D σ H1) : tIfS t tu tw D σ H := h H (Same.refl H) _ fun H1 e => by
  cases b with
  | true => exact h1 rfl H1 e
  | false => exact h2 rfl H1 e
theorem q_if {b : Bool} (h : EvT t σ H b) (h1 : b = true → ∀ H1, Same H H1 → tu { D with nx := tz D } σ H1) (h2 : b = false → ∀ H1, Same H H1 → tw { D with nx := tz D } σ H1) : tSeq (tIfS t tu tw) tz D σ H := s_if (D := { D with nx := tz D }) h h1 h2
/-- an if without else -/
theorem q_when {b : Bool} (h : EvT t σ H b) (h1 : b = true → ∀ H1, Same H H1 → tu { D with nx := tz D } σ H1) (h2 : b = false → ∀ H1, Same H H1 → tz D σ H1) : tSeq (tIfS t tu tNext) tz D σ H := s_if (D := { D with nx := tz D }) h h1 h2
theorem s_when {b : Bool} (h : EvT t σ H b) (h1 : b = true → ∀ H1, Same H H1 → tu D σ H1) (h2 : b = false → ∀ H1, Same H H1 → D.nx σ H1) : tIfS t tu tNext D σ H := s_if h h1 h2
/-- xs.append(e) -/
theorem s_app {l : Addr} {i : Nat} (hv : σ[i]? = some (some (.ref l))) (hl : LstAt K H l ds) (hn : noLAll ds = true) (hd : noL d = true) (h : EvD K te σ H d) (hz : ds.length ≤ 1000000) (k : ∀ H1, But l H H1 → LstAt K H1 l (ds ++ [d]) → D.nx σ H1) :
    tDrop (tBM K "list" rAppend (tVar i) (tCons te tNil)) D σ H := by
  obtain ⟨xs, hx, hdx⟩ := id hl
  refine ⟨_, hv, .inl ⟨rfl, xs, SqL.of hx⟩, ?_⟩
  refine h H (Same.refl H) _ fun y H1 e1 dy => ⟨l, xs, y, rfl, rfl, e1 _ _ hx, ?_, ?_⟩
  · have := dpAll_len hdx
    have : 1000000 < sizeLine := by decide
    omega
  · have b : But l H1 (upd H1 l (.lst (xs ++ [y]))) := But.upd (Same.refl H1)
    exact k _ (But.trans (same_but e1 l) b) ⟨xs ++ [y], upd_same, dpAll_append (DpAll.but b (e1 _ _ hx) _ _ hn (DpAll.mono e1 _ _ hdx)) (.cons (Dp.but b (e1 _ _ hx) _ _ hd dy) .nil)⟩
theorem q_app {l : Addr} {i : Nat} (hv : σ[i]? = some (some (.ref l))) (hl : LstAt K H l ds) (hn : noLAll ds = true) (hd : noL d = true) (h : EvD K te σ H d) (hz : ds.length ≤ 1000000) (k : ∀ H1, But l H H1 → LstAt K H1 l (ds ++ [d]) → tz D σ H1) :
    tSeq (tDrop (tBM K "list" rAppend (tVar i) (tCons te tNil))) tz D σ H := s_app (D := { D with nx := tz D }) hv hl hn hd h hz k
theorem ixN_nat {n j : Nat} (h : j < n) : ixN n (j : Int) = some j := by
  unfold ixN
  rw [if_pos (by omega), if_pos (by omega)]
  simp
theorem noLAll_set {ds : List PyData} {j : Nat} (hn : noLAll ds = true) (hd : noL d = true) : noLAll (ds.set j d) = true := noLAll_iff.mpr fun e he => by
  rcases List.mem_or_eq_of_mem_set he with h | h
  · exact noLAll_iff.mp hn e h
  · rw [h]; exact hd
theorem noLAll_app {ds es : List PyData} (hn : noLAll ds = true) (he : noLAll es = true) : noLAll (ds ++ es) = true := noLAll_iff.mpr fun e h => by
  rcases List.mem_append.mp h with h | h
  · exact noLAll_iff.mp hn e h
  · exact noLAll_iff.mp he e h
/-- xs[i] = e -/
theorem s_setL {l : Addr} {i j : Nat} {ti : TE} (hv : σ[i]? = some (some (.ref l))) (hl : LstAt K H l ds) (hn : noLAll ds = true) (hd : noL d = true) (h : EvD K te σ H d) (hi : EvD K ti σ H (.int (j : Int))) (hj : j < ds.length)
    (k : ∀ H1, But l H H1 → LstAt K H1 l (ds.set j d) → D.nx σ H1) : tAsg te (gSub (tVar i) ti rSetL) D σ H := by
  obtain ⟨xs, hx, hdx⟩ := id hl
  refine h H (Same.refl H) _ fun y H1 e1 dy => ⟨_, hv, hi H1 e1 _ fun z H2 e2 dz => ?_⟩
  cases dp_int dz
  have e12 := e1.trans e2
  refine ⟨l, xs, (j : Int), j, rfl, rfl, e12 _ _ hx, ixN_nat (by rw [dpAll_len hdx]; exact hj), ?_⟩
  have b : But l H2 (upd H2 l (.lst (xs.set j y))) := But.upd (Same.refl H2)
  exact k _ (But.trans (same_but e12 l) b) ⟨xs.set j y, upd_same, dpAll_set (DpAll.but b (e12 _ _ hx) _ _ hn (DpAll.mono e12 _ _ hdx)) j (Dp.but b (e12 _ _ hx) _ _ hd (Dp.mono e2 _ _ dy))⟩
theorem q_setL {l : Addr} {i j : Nat} {ti : TE} (hv : σ[i]? = some (some (.ref l))) (hl : LstAt K H l ds) (hn : noLAll ds = true) (hd : noL d = true) (h : EvD K te σ H d) (hi : EvD K ti σ H (.int (j : Int))) (hj : j < ds.length)
    (k : ∀ H1, But l H H1 → LstAt K H1 l (ds.set j d) → tz D σ H1) : tSeq (tAsg te (gSub (tVar i) ti rSetL)) tz D σ H := s_setL (D := { D with nx := tz D }) hv hl hn hd h hi hj k
/-- a, b, c = e -/
theorem s_asg3 {a b c : PyData} {j1 j2 j3 : Nat} (h : EvD K te σ H (.tuple [a, b, c])) (k : ∀ x1 x2 x3 H1, Same H H1 → Dp K H1 x1 a → Dp K H1 x2 b → Dp K H1 x3 c → D.nx (((σ.set j1 (some x1)).set j2 (some x2)).set j3 (some x3)) H1) :
    tAsg te (gTup K 3 (gCons (gName j1) (gCons (gName j2) (gCons (gName j3) gNil)))) D σ H := h H (Same.refl H) _ fun v H1 e dv => tg3 dv fun x1 x2 x3 d1 d2 d3 => k x1 x2 x3 H1 e d1 d2 d3
theorem q_asg3 {a b c : PyData} {j1 j2 j3 : Nat} (h : EvD K te σ H (.tuple [a, b, c])) (k : ∀ x1 x2 x3 H1, Same H H1 → Dp K H1 x1 a → Dp K H1 x2 b → Dp K H1 x3 c → tz D (((σ.set j1 (some x1)).set j2 (some x2)).set j3 (some x3)) H1) :
    tSeq (tAsg te (gTup K 3 (gCons (gName j1) (gCons (gName j2) (gCons (gName j3) gNil))))) tz D σ H := s_asg3 (D := { D with nx := tz D }) h k
theorem q_asg2 {a b : PyData} {j1 j2 : Nat} (h : EvD K te σ H (.tuple [a, b])) (k : ∀ x1 x2 H1, Same H H1 → Dp K H1 x1 a → Dp K H1 x2 b → tz D ((σ.set j1 (some x1)).set j2 (some x2)) H1) :
    tSeq (tAsg te (gTup K 2 (gCons (gName j1) (gCons (gName j2) gNil)))) tz D σ H := h H (Same.refl H) _ fun v H1 e dv => tg2 dv fun x1 x2 d1 d2 => k x1 x2 H1 e d1 d2
/-- for -/
theorem s_for {wi : TI} {gt : TG} {tb : TS} {n : Nat} {item : Nat → PyData} (h : EvI K M wi σ H n item) (Pv : Nat → L2.St → Hp → Prop) (h0 : ∀ H2, Same H H2 → Pv 0 σ H2)
    (hs : ∀ i σ' H' H'' x, i < n → Pv i σ' H' → Same H' H'' → Dp K H'' x (item i) → ∀ N : L2.St → Hp → Prop, (∀ σ2 H2, ButM M H'' H2 → Pv (i + 1) σ2 H2 → N σ2 H2) → gt x σ' H'' fun σ2 H2 => tb { D with nx := N, ct := N, bk := D.nx } σ2 H2)
    (hd : ∀ σ' H', Pv n σ' H' → D.nx σ' H') : tFor wi gt tb D σ H := h H (Same.refl H) _ fun J H2 G Y e2 wk hG hY => by
  refine for_it wk (fun i σ' H' => Pv i σ' H' ∧ ButM M H2 H') ⟨h0 H2 e2, same_butM (Same.refl H2)⟩ (fun i σ' H' _ p => hG H' p.2) (fun i x σ' H' H'' hi p y => ?_) fun σ' H' p => hd σ' H' p.1
  obtain ⟨e3, dx⟩ := hY i H' x H'' hi p.2 y
  exact hs i σ' H' H'' x hi p.1 e3 dx _ fun σ2 H3 b p' => ⟨p', p.2.trans (ButM.trans (same_butM e3) b)⟩
theorem q_for {wi : TI} {gt : TG} {tb : TS} {n : Nat} {item : Nat → PyData} (h : EvI K M wi σ H n item) (Pv : Nat → L2.St → Hp → Prop) (h0 : ∀ H2, Same H H2 → Pv 0 σ H2)
    (hs : ∀ i σ' H' H'' x, i < n → Pv i σ' H' → Same H' H'' → Dp K H'' x (item i) → ∀ N : L2.St → Hp → Prop, (∀ σ2 H2, ButM M H'' H2 → Pv (i + 1) σ2 H2 → N σ2 H2) → gt x σ' H'' fun σ2 H2 => tb { D with nx := N, ct := N, bk := tz D } σ2 H2)
    (hd : ∀ σ' H', Pv n σ' H' → tz D σ' H') : tSeq (tFor wi gt tb) tz D σ H := s_for (D := { D with nx := tz D }) h Pv h0 hs hd
/-- while, by a measure -/
theorem s_while (W : Nat → L2.St → Hp → Prop) (m0 : Nat) (h0 : W m0 σ H)
    (hs : ∀ m σ' H', W m σ' H' → ∃ b, EvT t σ' H' b ∧ (b = true → ∀ H1, Same H' H1 → ∀ N : L2.St → Hp → Prop, (∀ m' σ2 H2, m' < m → W m' σ2 H2 → N σ2 H2) → tu { D with nx := N, ct := N, bk := D.nx } σ' H1) ∧ (b = false → ∀ H1, Same H' H1 → D.nx σ' H1)) : tWhile t tu D σ H := by
  refine ⟨W, ⟨m0, h0⟩, fun m σ' H' w => ?_⟩
  obtain ⟨b, hb, h1, h2⟩ := hs m σ' H' w
  refine hb H' (Same.refl H') _ fun H1 e => ?_
  cases b with
  | true => exact iteT ⟨fun σ2 H2 => ∃ m', m' < m ∧ W m' σ2 H2, fun _ _ n => n, h1 rfl H1 e _ fun m' σ2 H2 hm w' => ⟨m', hm, w'⟩⟩
  | false => exact iteF (h2 rfl H1 e)
theorem q_while (W : Nat → L2.St → Hp → Prop) (m0 : Nat) (h0 : W m0 σ H)
    (hs : ∀ m σ' H', W m σ' H' → ∃ b, EvT t σ' H' b ∧ (b = true → ∀ H1, Same H' H1 → ∀ N : L2.St → Hp → Prop, (∀ m' σ2 H2, m' < m → W m' σ2 H2 → N σ2 H2) → tu { D with nx := N, ct := N, bk := tz D } σ' H1) ∧ (b = false → ∀ H1, Same H' H1 → tz D σ' H1)) : tSeq (tWhile t tu) tz D σ H :=
  s_while (D := { D with nx := tz D }) W m0 h0 hs
end
end K11
end

/-! ## K11Flow -/
section
set_option maxHeartbeats 4000000
/-! Flows of nets with at most 1 over each reading, in plain Lean. -/
namespace K11
abbrev Rdg := Nat × Nat × Int
/-- the sum over all readings of flow times the fall of p over it -/
def pot (p : Nat → Int) : List Rdg → List Int → Int
  | r :: rs, x :: f => x * (p r.1 - p r.2.1) + pot p rs f
  | _, _ => 0
def chi (v : Nat) : Nat → Int := fun u => if u = v then 1 else 0
def ind (S : Nat → Bool) : Nat → Int := fun u => if S u = true then 1 else 0
theorem pot_congr {p q : Nat → Int} {n : Nat} (h : ∀ u, u < n → p u = q u) : ∀ (rs : List Rdg) (f : List Int), (∀ r ∈ rs, r.1 < n ∧ r.2.1 < n) → pot p rs f = pot q rs f
  | [], _, _ => by simp [pot]
  | _ :: _, [], _ => by simp [pot]
  | r :: rs, x :: f, hr => by
    have h1 := hr r (by simp)
    simp only [pot]
    rw [h _ h1.1, h _ h1.2, pot_congr h rs f (fun r' h' => hr r' (by simp [h']))]
theorem pot_add (p q : Nat → Int) : ∀ (rs : List Rdg) (f : List Int), pot (fun u => p u + q u) rs f = pot p rs f + pot q rs f
  | [], _ => by simp [pot]
  | _ :: _, [] => by simp [pot]
  | r :: rs, x :: f => by
    simp only [pot]
    rw [pot_add p q rs f]
    grind
theorem pot_zero : ∀ (rs : List Rdg) (f : List Int), pot (fun _ => 0) rs f = 0
  | [], _ => by simp [pot]
  | _ :: _, [] => by simp [pot]
  | r :: rs, x :: f => by
    simp only [pot]
    rw [pot_zero rs f]
    simp
theorem pot_set (p : Nat → Int) : ∀ (rs : List Rdg) (f : List Int) (i : Nat) (r : Rdg) (x y : Int), rs[i]? = some r → f[i]? = some x → pot p rs (f.set i y) = pot p rs f + (y - x) * (p r.1 - p r.2.1)
  | [], _, _, _, _, _, h, _ => by simp at h
  | _ :: _, [], _, _, _, _, _, h => by simp at h
  | r :: rs, x :: f, 0, r', x', y, h, h' => by
    simp at h h'
    subst h h'
    simp only [List.set_cons_zero, pot]
    grind
  | r :: rs, x :: f, i + 1, r', x', y, h, h' => by
    simp at h h'
    simp only [List.set_cons_succ, pot]
    rw [pot_set p rs f i r' x' y h h']
    grind
/-- a set's share, mark by mark -/
theorem pot_upto (S : Nat → Bool) (s t : Nat) (c : Int) (rs : List Rdg) (f : List Int) (hd : ∀ v, pot (chi v) rs f = c * (chi s v - chi t v)) :
    ∀ k, pot (fun u => if u < k ∧ S u = true then 1 else 0) rs f = c * ((if s < k ∧ S s = true then 1 else 0) - (if t < k ∧ S t = true then 1 else 0))
  | 0 => by simp [pot_zero]
  | k + 1 => by
    have e : (fun u => if u < k + 1 ∧ S u = true then (1 : Int) else 0) = fun u => (if u < k ∧ S u = true then (1 : Int) else 0) + (if S k = true then chi k u else 0) := by
      funext u
      unfold chi
      by_cases h1 : u < k <;> by_cases h2 : u = k <;> by_cases h3 : S u = true <;> simp_all <;> grind
    rw [e, pot_add, pot_upto S s t c rs f hd k]
    by_cases h : S k = true
    · have e2 : (fun u => if S k = true then chi k u else 0) = chi k := by funext u; simp [h]
      rw [e2, hd k]
      unfold chi
      by_cases h1 : s < k <;> by_cases h2 : s = k <;> by_cases h3 : t < k <;> by_cases h4 : t = k <;> simp_all <;> grind
    · have e2 : (fun u => if S k = true then chi k u else 0) = fun _ => 0 := by funext u; simp [h]
      rw [e2, pot_zero]
      by_cases h1 : s < k <;> by_cases h2 : s = k <;> by_cases h3 : t < k <;> by_cases h4 : t = k <;> simp_all <;> grind
theorem pot_side {S : Nat → Bool} {s t n : Nat} {c : Int} {rs : List Rdg} {f : List Int} (hr : ∀ r ∈ rs, r.1 < n ∧ r.2.1 < n) (hs : s < n) (ht : t < n) (hd : ∀ v, pot (chi v) rs f = c * (chi s v - chi t v)) :
    pot (ind S) rs f = c * (ind S s - ind S t) := by
  have h := pot_upto S s t c rs f hd n
  have e : pot (fun u => if u < n ∧ S u = true then (1 : Int) else 0) rs f = pot (ind S) rs f := pot_congr (n := n) (fun u hu => by simp [ind, hu]) rs f hr
  rw [← e, h]
  simp [ind, hs, ht]
/-- how many readings lie across -/
def cutN (rs : List Rdg) (S : Nat → Bool) : Nat := (rs.filter fun r => S r.1 != S r.2.1).length
theorem cutN_cons (r : Rdg) (rs : List Rdg) (S : Nat → Bool) : cutN (r :: rs) S = (if S r.1 = S r.2.1 then 0 else 1) + cutN rs S := by
  unfold cutN
  rw [List.filter_cons]
  by_cases h : S r.1 = S r.2.1 <;> simp [h] <;> omega
theorem pot_le_cut {S : Nat → Bool} : ∀ (rs : List Rdg) (f : List Int), (∀ x ∈ f, -1 ≤ x ∧ x ≤ 1) → -(cutN rs S : Int) ≤ pot (ind S) rs f ∧ pot (ind S) rs f ≤ cutN rs S
  | [], _, _ => by simp [pot, cutN]
  | r :: rs, [], _ => by simp [pot]
  | r :: rs, x :: f, hx => by
    have ih := pot_le_cut (S := S) rs f (fun y hy => hx y (by simp [hy]))
    have hx := hx x (by simp)
    rw [cutN_cons]
    simp only [pot, ind]
    cases h1 : S r.1 <;> cases h2 : S r.2.1 <;> simp <;> omega
theorem pot_sat {S : Nat → Bool} : ∀ (rs : List Rdg) (f : List Int), f.length = rs.length → (∀ (i : Nat) (r : Rdg) (x : Int), rs[i]? = some r → f[i]? = some x → (S r.1 = true → S r.2.1 = false → x = 1) ∧ (S r.1 = false → S r.2.1 = true → x = -1)) → pot (ind S) rs f = cutN rs S
  | [], _, _, _ => by simp [pot, cutN]
  | r :: rs, [], hl, _ => by simp at hl
  | r :: rs, x :: f, hl, h => by
    have ih := pot_sat (S := S) rs f (by simpa using hl) (fun i r' x' h1 h2 => h (i + 1) r' x' (by simpa using h1) (by simpa using h2))
    have h0 := h 0 r x (by simp) (by simp)
    rw [cutN_cons]
    simp only [pot, ind, ih]
    cases h1 : S r.1 <;> cases h2 : S r.2.1 <;> simp_all
theorem pot_le_len {p : Nat → Int} (hp : ∀ u, 0 ≤ p u ∧ p u ≤ 1) : ∀ (rs : List Rdg) (f : List Int), (∀ x ∈ f, -1 ≤ x ∧ x ≤ 1) → pot p rs f ≤ rs.length
  | [], _, _ => by simp [pot]
  | r :: rs, [], _ => by simp [pot]; omega
  | r :: rs, x :: f, hx => by
    have ih := pot_le_len hp rs f (fun y hy => hx y (by simp [hy]))
    have hx := hx x (by simp)
    have h1 := hp r.1
    have h2 := hp r.2.1
    simp only [pot, List.length_cons]
    have : x = -1 ∨ x = 0 ∨ x = 1 := by omega
    rcases this with rfl | rfl | rfl <;> omega
theorem chi_01 (v u : Nat) : 0 ≤ chi v u ∧ chi v u ≤ 1 := by unfold chi; split <;> omega

/-- a flow of worth c from s to t -/
structure FlowOk (n : Nat) (rs : List Rdg) (s t : Nat) (f : List Int) (c : Int) : Prop where
  len : f.length = rs.length
  bnd : ∀ x ∈ f, -1 ≤ x ∧ x ≤ 1
  div : ∀ v, pot (chi v) rs f = c * (chi s v - chi t v)
  src : ∀ (i : Nat) (r : Rdg) (x : Int), rs[i]? = some r → f[i]? = some x → (r.1 = s → 0 ≤ x) ∧ (r.2.1 = s → x ≤ 0)
theorem pot_replicate (p : Nat → Int) : ∀ (rs : List Rdg) (m : Nat), pot p rs (List.replicate m 0) = 0
  | [], _ => by simp [pot]
  | _ :: _, 0 => by simp [pot]
  | r :: rs, m + 1 => by
    simp only [List.replicate_succ, pot]
    rw [pot_replicate p rs m]
    simp
theorem FlowOk.zero (n : Nat) (rs : List Rdg) (s t : Nat) : FlowOk n rs s t (List.replicate rs.length 0) 0 := by
  refine ⟨by simp, fun x hx => ?_, fun v => by simp [pot_replicate], fun i r x _ h => ?_⟩
  · have := List.eq_of_mem_replicate hx
    omega
  · have := List.eq_of_mem_replicate (List.mem_of_getElem? h)
    omega
theorem FlowOk.le_len {n : Nat} {rs : List Rdg} {s t : Nat} {f : List Int} {c : Int} (F : FlowOk n rs s t f c) (hst : s ≠ t) : c ≤ rs.length := by
  have h := pot_le_len (p := chi s) (chi_01 s) rs f F.bnd
  rw [F.div s] at h
  simp [chi, hst] at h
  exact h
theorem FlowOk.le_cut {n : Nat} {rs : List Rdg} {s t : Nat} {f : List Int} {c : Int} (F : FlowOk n rs s t f c) (hr : ∀ r ∈ rs, r.1 < n ∧ r.2.1 < n) (hs : s < n) (ht : t < n) {S : Nat → Bool} (h1 : S s = false) (h2 : S t = true) : c ≤ cutN rs S := by
  have h := (pot_le_cut (S := S) rs f F.bnd).1
  rw [pot_side hr hs ht F.div] at h
  simp [ind, h1, h2] at h
  omega
theorem FlowOk.eq_cut {n : Nat} {rs : List Rdg} {s t : Nat} {f : List Int} {c : Int} (F : FlowOk n rs s t f c) (hr : ∀ r ∈ rs, r.1 < n ∧ r.2.1 < n) (hs : s < n) (ht : t < n) {S : Nat → Bool} (h1 : S s = true) (h2 : S t = false)
    (hc : ∀ (i : Nat) (r : Rdg) (x : Int), rs[i]? = some r → f[i]? = some x → (S r.1 = true → x < 1 → S r.2.1 = true) ∧ (S r.2.1 = true → x > -1 → S r.1 = true)) : c = cutN rs S := by
  have h := pot_sat (S := S) rs f F.len (fun i r x e1 e2 => by
    have b := F.bnd x (List.mem_of_getElem? e2)
    have g := hc i r x e1 e2
    refine ⟨fun a1 a2 => ?_, fun a1 a2 => ?_⟩
    · have : ¬ x < 1 := fun q => by have := g.1 a1 q; simp [a2] at this
      omega
    · have : ¬ x > -1 := fun q => by have := g.2 a2 q; simp [a1] at this
      omega)
  rw [pot_side hr hs ht F.div] at h
  simp [ind, h1, h2] at h
  omega

/-! ### ways of a flow -/
theorem pot_noout {v : Nat} : ∀ (rs : List Rdg) (f : List Int), (∀ x ∈ f, -1 ≤ x ∧ x ≤ 1) → (∀ (i : Nat) (r : Rdg) (x : Int), rs[i]? = some r → f[i]? = some x → ¬ (r.1 = v ∧ x = 1) ∧ ¬ (r.2.1 = v ∧ x = -1)) → pot (chi v) rs f ≤ 0
  | [], _, _, _ => by simp [pot]
  | _ :: _, [], _, _ => by simp [pot]
  | r :: rs, x :: f, hx, h => by
    have ih := pot_noout rs f (fun y hy => hx y (by simp [hy])) (fun i r' x' h1 h2 => h (i + 1) r' x' (by simpa using h1) (by simpa using h2))
    have h0 := h 0 r x (by simp) (by simp)
    have hx := hx x (by simp)
    simp only [pot, chi]
    have : x = -1 ∨ x = 0 ∨ x = 1 := by omega
    by_cases h1 : r.1 = v <;> by_cases h2 : r.2.1 = v <;> rcases this with rfl | rfl | rfl <;> simp [h1, h2] at h0 ⊢ <;> omega
theorem pot_src_nonneg {s : Nat} : ∀ (rs : List Rdg) (f : List Int), (∀ (i : Nat) (r : Rdg) (x : Int), rs[i]? = some r → f[i]? = some x → (r.1 = s → 0 ≤ x) ∧ (r.2.1 = s → x ≤ 0)) → 0 ≤ pot (chi s) rs f
  | [], _, _ => by simp [pot]
  | _ :: _, [], _ => by simp [pot]
  | r :: rs, x :: f, h => by
    have ih := pot_src_nonneg rs f (fun i r' x' h1 h2 => h (i + 1) r' x' (by simpa using h1) (by simpa using h2))
    have h0 := h 0 r x (by simp) (by simp)
    simp only [pot, chi]
    by_cases h1 : r.1 = s <;> by_cases h2 : r.2.1 = s <;> simp_all <;> omega
theorem pot_src_pos {s : Nat} : ∀ (rs : List Rdg) (f : List Int), (∀ (i : Nat) (r : Rdg) (x : Int), rs[i]? = some r → f[i]? = some x → (r.1 = s → 0 ≤ x) ∧ (r.2.1 = s → x ≤ 0)) →
    ∀ (j : Nat) (r : Rdg) (x : Int), rs[j]? = some r → f[j]? = some x → (r.1 = s ∧ x = 1 ∨ r.2.1 = s ∧ x = -1) → 1 ≤ pot (chi s) rs f
  | [], _, _, _, _, _, h, _, _ => by simp at h
  | _ :: _, [], _, _, _, _, _, h, _ => by simp at h
  | r :: rs, x :: f, h, 0, r', x', e1, e2, o => by
    have ih := pot_src_nonneg rs f (fun i r' x' h1 h2 => h (i + 1) r' x' (by simpa using h1) (by simpa using h2))
    have h0 := h 0 r x (by simp) (by simp)
    simp at e1 e2
    subst e1 e2
    simp only [pot, chi]
    rcases o with ⟨o1, rfl⟩ | ⟨o1, rfl⟩
    · by_cases h2 : r.2.1 = s
      · have := h0.2 h2
        omega
      · simp [o1, h2]
        omega
    · by_cases h2 : r.1 = s
      · have := h0.1 h2
        omega
      · simp [o1, h2]
        omega
  | r :: rs, x :: f, h, j + 1, r', x', e1, e2, o => by
    have ih := pot_src_pos rs f (fun i r' x' h1 h2 => h (i + 1) r' x' (by simpa using h1) (by simpa using h2)) j r' x' (by simpa using e1) (by simpa using e2) o
    have h0 := h 0 r x (by simp) (by simp)
    simp only [pot, chi]
    by_cases h1 : r.1 = s <;> by_cases h2 : r.2.1 = s <;> simp_all <;> omega
/-- within a way: at m -/
structure WalkOk (n : Nat) (rs : List Rdg) (s t : Nat) (f : List Int) (c : Int) (m : Nat) : Prop where
  len : f.length = rs.length
  bnd : ∀ x ∈ f, -1 ≤ x ∧ x ≤ 1
  div : ∀ v, pot (chi v) rs f = c * (chi s v - chi t v) - chi s v + chi m v
  src : ∀ (i : Nat) (r : Rdg) (x : Int), rs[i]? = some r → f[i]? = some x → (r.1 = s → 0 ≤ x) ∧ (r.2.1 = s → x ≤ 0)
  pos : 1 ≤ c
def nzc (f : List Int) : Nat := (f.filter fun x => x != 0).length
theorem nzc_set : ∀ (f : List Int) (i : Nat) (x : Int), f[i]? = some x → x ≠ 0 → nzc (f.set i 0) < nzc f
  | [], _, _, h, _ => by simp at h
  | y :: f, 0, x, h, hx => by
    simp at h
    subst h
    simp [nzc, List.filter_cons, hx]
  | y :: f, i + 1, x, h, hx => by
    simp at h
    have ih := nzc_set f i x h hx
    simp only [nzc, List.set_cons_succ, List.filter_cons] at ih ⊢
    split <;> simp <;> omega
section
variable {n : Nat} {rs : List Rdg} {s t : Nat} {f : List Int} {c : Int} {m : Nat}
theorem FlowOk.none_out (F : FlowOk n rs s t f c) (hst : s ≠ t) (h : ∀ (i : Nat) (r : Rdg) (x : Int), rs[i]? = some r → f[i]? = some x → ¬ (r.1 = s ∧ x = 1) ∧ ¬ (r.2.1 = s ∧ x = -1)) : c = 0 := by
  have h1 := pot_noout (v := s) rs f F.bnd h
  have h2 := pot_src_nonneg rs f F.src
  rw [F.div s] at h1 h2
  simp [chi, hst] at h1 h2
  omega
theorem FlowOk.walk (F : FlowOk n rs s t f c) (hst : s ≠ t) {j : Nat} {r : Rdg} {x : Int} (e1 : rs[j]? = some r) (e2 : f[j]? = some x) (o : r.1 = s ∧ x = 1 ∨ r.2.1 = s ∧ x = -1) : WalkOk n rs s t f c s := by
  have h := pot_src_pos rs f F.src j r x e1 e2 o
  rw [F.div s] at h
  simp [chi, hst] at h
  refine ⟨F.len, F.bnd, fun v => ?_, F.src, h⟩
  rw [F.div v]
  omega
theorem WalkOk.out (W : WalkOk n rs s t f c m) (hst : s ≠ t) (hm : m ≠ t) : ¬ ∀ (i : Nat) (r : Rdg) (x : Int), rs[i]? = some r → f[i]? = some x → ¬ (r.1 = m ∧ x = 1) ∧ ¬ (r.2.1 = m ∧ x = -1) := fun h => by
  have h1 := pot_noout (v := m) rs f W.bnd h
  rw [W.div m] at h1
  have := W.pos
  by_cases hs : m = s
  · subst hs
    simp [chi, hm] at h1
    omega
  · simp [chi, hm, hs] at h1
theorem WalkOk.step (W : WalkOk n rs s t f c m) {j : Nat} {r : Rdg} {x : Int} (e1 : rs[j]? = some r) (e2 : f[j]? = some x) (o : r.1 = m ∧ x = 1 ∨ r.2.1 = m ∧ x = -1) : WalkOk n rs s t (f.set j 0) c (r.1 + r.2.1 - m) := by
  refine ⟨by simpa using W.len, fun y hy => ?_, fun v => ?_, fun i r' y h1 h2 => ?_, W.pos⟩
  · rcases List.mem_or_eq_of_mem_set hy with h | rfl
    · exact W.bnd y h
    · omega
  · rw [pot_set _ _ _ _ _ _ _ e1 e2, W.div v]
    rcases o with ⟨rfl, rfl⟩ | ⟨rfl, rfl⟩
    · have e : r.1 + r.2.1 - r.1 = r.2.1 := by omega
      rw [e]
      simp only [chi]
      grind
    · have e : r.1 + r.2.1 - r.2.1 = r.1 := by omega
      rw [e]
      simp only [chi]
      grind
  · by_cases hij : j = i
    · subst hij
      obtain ⟨hl, _⟩ := List.getElem?_eq_some_iff.mp e2
      rw [List.getElem?_set_self hl] at h2
      simp at h2
      omega
    · rw [List.getElem?_set_ne hij] at h2
      exact W.src i r' y h1 h2
theorem WalkOk.done (W : WalkOk n rs s t f c t) : FlowOk n rs s t f (c - 1) := by
  refine ⟨W.len, W.bnd, fun v => ?_, W.src⟩
  rw [W.div v]
  grind
end

/-! ### the search -/
/-- last steps: a mark, an index of a reading, 1 or -1 -/
abbrev Steps := List (Option (Nat × Int × Int))
def disc (L : Steps) (w : Nat) : Prop := ∃ q, L[w]? = some (some q)
/-- reading r with flow x leads from u to w by b -/
def leads (r : Rdg) (x : Int) (u w : Nat) (b : Int) : Prop := (b = 1 ∧ r.1 = u ∧ r.2.1 = w ∧ x < 1) ∨ (b = -1 ∧ r.2.1 = u ∧ r.1 = w ∧ x > -1)
structure TreeOk (n : Nat) (rs : List Rdg) (f : List Int) (s : Nat) (L : Steps) (rank : Nat → Nat) : Prop where
  len : L.length = n
  root : L[s]? = some (some (s, -1, 0))
  step : ∀ (w u : Nat) (i b : Int), w ≠ s → L[w]? = some (some (u, i, b)) → ∃ (j : Nat) (r : Rdg) (x : Int), i = (j : Int) ∧ disc L u ∧ rank u < rank w ∧ rs[j]? = some r ∧ f[j]? = some x ∧ leads r x u w b
/-- all that w leads to is found -/
def doneAt (rs : List Rdg) (f : List Int) (L : Steps) (w : Nat) : Prop := ∀ (j : Nat) (r : Rdg) (x : Int), rs[j]? = some r → f[j]? = some x → (r.1 = w → x < 1 → disc L r.2.1) ∧ (r.2.1 = w → x > -1 → disc L r.1)
structure SearchOk (n : Nat) (rs : List Rdg) (f : List Int) (s : Nat) (L : Steps) : Prop where
  tree : ∃ rank, TreeOk n rs f s L rank
  all : ∀ w, disc L w → doneAt rs f L w
section
variable {n : Nat} {rs : List Rdg} {f : List Int} {s : Nat} {L : Steps} {rank : Nat → Nat}
theorem disc_lt {w : Nat} (h : disc L w) : w < L.length := by
  obtain ⟨q, h⟩ := h
  exact (List.getElem?_eq_some_iff.mp h).1
theorem disc_set {w v : Nat} {q : Nat × Int × Int} (h : disc L w) : disc (L.set v (some q)) w := by
  obtain ⟨p, h⟩ := h
  have hl := (List.getElem?_eq_some_iff.mp h).1
  by_cases e : v = w
  · subst e
    exact ⟨q, List.getElem?_set_self hl⟩
  · exact ⟨p, by rw [List.getElem?_set_ne e]; exact h⟩
theorem disc_set_self {v : Nat} {q : Nat × Int × Int} (h : v < L.length) : disc (L.set v (some q)) v := ⟨q, List.getElem?_set_self h⟩
theorem disc_of_set {w v : Nat} {q : Nat × Int × Int} (h : disc (L.set v (some q)) w) : w = v ∨ disc L w := by
  by_cases e : v = w
  · exact .inl e.symm
  · obtain ⟨p, h⟩ := h
    rw [List.getElem?_set_ne e] at h
    exact .inr ⟨p, h⟩
theorem TreeOk.grow (T : TreeOk n rs f s L rank) {m w j : Nat} {r : Rdg} {x b : Int} (hm : disc L m) (hw : L[w]? = some none) (e1 : rs[j]? = some r) (e2 : f[j]? = some x) (hl : leads r x m w b) :
    TreeOk n rs f s (L.set w (some (m, (j : Int), b))) (fun u => if u = w then rank m + 1 else rank u) := by
  have hws : w ≠ s := fun e => by rw [e, T.root] at hw; simp at hw
  have nw : ∀ u, disc L u → u ≠ w := fun u ⟨q, hq⟩ e => by rw [e, hw] at hq; simp at hq
  refine ⟨by simpa using T.len, by rw [List.getElem?_set_ne hws]; exact T.root, fun v u i b' hv hq => ?_⟩
  by_cases e : w = v
  · subst e
    rw [List.getElem?_set_self (List.getElem?_eq_some_iff.mp hw).1] at hq
    simp at hq
    obtain ⟨rfl, rfl, rfl⟩ := hq
    exact ⟨j, r, x, rfl, disc_set hm, by simp [nw m hm], e1, e2, hl⟩
  · rw [List.getElem?_set_ne e] at hq
    obtain ⟨j', r', x', a1, a2, a3, a4, a5, a6⟩ := T.step v u i b' hv hq
    refine ⟨j', r', x', a1, disc_set a2, ?_, a4, a5, a6⟩
    have : u ≠ w := nw u a2
    have : v ≠ w := fun z => e z.symm
    simp [*]
def nones (L : Steps) : Nat := (L.filter fun q => q.isNone).length
theorem nones_set : ∀ (L : Steps) (w : Nat) (q : Nat × Int × Int), L[w]? = some none → nones (L.set w (some q)) + 1 = nones L
  | [], _, _, h => by simp at h
  | p :: L, 0, q, h => by
    simp at h
    subst h
    simp [nones, List.filter_cons]
  | p :: L, w + 1, q, h => by
    simp at h
    have ih := nones_set L w q h
    simp only [nones, List.set_cons_succ, List.filter_cons] at ih ⊢
    split
    · rw [List.length_cons, List.length_cons]
      omega
    · exact ih
/-- the search's own word: M bounds what is to do; ps: what waits -/
structure SInv (n : Nat) (rs : List Rdg) (f : List Int) (s : Nat) (L : Steps) (ps : List Nat) : Prop where
  tree : ∃ rank, TreeOk n rs f s L rank
  wait : ∀ w ∈ ps, disc L w
  all : ∀ w, disc L w → w ∈ ps ∨ doneAt rs f L w
/-- within the turn of m, readings below i looked at -/
structure SIn (n : Nat) (rs : List Rdg) (f : List Int) (s : Nat) (L : Steps) (ps : List Nat) (m i : Nat) : Prop where
  tree : ∃ rank, TreeOk n rs f s L rank
  here : disc L m
  wait : ∀ w ∈ ps, disc L w
  all : ∀ w, disc L w → w ∈ ps ∨ w = m ∨ doneAt rs f L w
  seen : ∀ (j : Nat) (r : Rdg) (x : Int), j < i → rs[j]? = some r → f[j]? = some x → (r.1 = m → x < 1 → disc L r.2.1) ∧ (r.2.1 = m → x > -1 → disc L r.1)
theorem SInv.start (hs : s < n) : SInv n rs f s ((List.replicate n none).set s (some (s, -1, 0))) [s] := by
  have e0 : ∀ w, w ≠ s → ¬ disc ((List.replicate n none).set s (some (s, -1, 0))) w := fun w hw h => by
    rcases disc_of_set h with e | ⟨q, h⟩
    · exact hw e
    · have := List.eq_of_mem_replicate (List.mem_of_getElem? h)
      simp at this
  refine ⟨⟨fun _ => 0, by simp, by rw [List.getElem?_set_self (by simpa using hs)], fun w u i b hw h => (e0 w hw ⟨_, h⟩).elim⟩, fun w hw => ?_, fun w h => ?_⟩
  · simp at hw
    subst hw
    exact disc_set_self (by simpa using hs)
  · by_cases e : w = s
    · exact .inl (by simp [e])
    · exact (e0 w e h).elim
theorem SInv.pop {m : Nat} {ps : List Nat} (I : SInv n rs f s L (m :: ps)) : SIn n rs f s L ps m 0 :=
  ⟨I.tree, I.wait m (by simp), fun w h => I.wait w (by simp [h]), fun w h => by
    rcases I.all w h with e | e
    · rcases List.mem_cons.mp e with e | e
      · exact .inr (.inl e)
      · exact .inl e
    · exact .inr (.inr e), fun j r x h => by omega⟩
theorem SIn.push {m i w : Nat} {ps : List Nat} {r : Rdg} {x b : Int} (I : SIn n rs f s L ps m i) (hw : L[w]? = some none) (e1 : rs[i]? = some r) (e2 : f[i]? = some x) (hl : leads r x m w b) :
    SIn n rs f s (L.set w (some (m, (i : Int), b))) (ps ++ [w]) m i := by
  obtain ⟨rank, T⟩ := I.tree
  have hwl := (List.getElem?_eq_some_iff.mp hw).1
  refine ⟨⟨_, T.grow I.here hw e1 e2 hl⟩, disc_set I.here, fun v hv => ?_, fun v hv => ?_, fun j r' x' hj a1 a2 => ?_⟩
  · rcases List.mem_append.mp hv with h | h
    · exact disc_set (I.wait v h)
    · simp at h
      subst h
      exact disc_set_self hwl
  · rcases disc_of_set hv with rfl | h
    · exact .inl (by simp)
    · rcases I.all v h with e | e | e
      · exact .inl (by simp [e])
      · exact .inr (.inl e)
      · exact .inr (.inr fun j r' x' a1 a2 => ⟨fun b1 b2 => disc_set ((e j r' x' a1 a2).1 b1 b2), fun b1 b2 => disc_set ((e j r' x' a1 a2).2 b1 b2)⟩)
  · have h := I.seen j r' x' hj a1 a2
    exact ⟨fun b1 b2 => disc_set (h.1 b1 b2), fun b1 b2 => disc_set (h.2 b1 b2)⟩
theorem SIn.next {m i : Nat} {ps : List Nat} {r : Rdg} {x : Int} (I : SIn n rs f s L ps m i) (e1 : rs[i]? = some r) (e2 : f[i]? = some x) (h1 : r.1 = m → x < 1 → disc L r.2.1) (h2 : r.2.1 = m → x > -1 → disc L r.1) : SIn n rs f s L ps m (i + 1) :=
  ⟨I.tree, I.here, I.wait, I.all, fun j r' x' hj a1 a2 => by
    by_cases e : j = i
    · subst e
      rw [e1] at a1
      rw [e2] at a2
      cases a1
      cases a2
      exact ⟨h1, h2⟩
    · exact I.seen j r' x' (by omega) a1 a2⟩
theorem SIn.over {m : Nat} {ps : List Nat} (I : SIn n rs f s L ps m rs.length) : SInv n rs f s L ps :=
  ⟨I.tree, I.wait, fun w h => by
    rcases I.all w h with e | e | e
    · exact .inl e
    · subst e
      exact .inr fun j r x a1 a2 => I.seen j r x (List.getElem?_eq_some_iff.mp a1).1 a1 a2
    · exact .inr e⟩
theorem SInv.ok (I : SInv n rs f s L []) : SearchOk n rs f s L := ⟨I.tree, fun w h => by
  rcases I.all w h with e | e
  · simp at e
  · exact e⟩
end

/-! ### along the tree back -/
/-- at mark m of the way back from t -/
structure BackOk (n : Nat) (rs : List Rdg) (s t : Nat) (L : Steps) (rank : Nat → Nat) (f0 f : List Int) (c : Int) (m : Nat) : Prop where
  len : f.length = rs.length
  bnd : ∀ x ∈ f, -1 ≤ x ∧ x ≤ 1
  div : ∀ v, pot (chi v) rs f = c * (chi s v - chi t v) + (chi m v - chi t v)
  src : ∀ (i : Nat) (r : Rdg) (x : Int), rs[i]? = some r → f[i]? = some x → (r.1 = s → 0 ≤ x) ∧ (r.2.1 = s → x ≤ 0)
  here : disc L m
  keep : ∀ (w u j : Nat) (b : Int), w ≠ s → rank w ≤ rank m → L[w]? = some (some (u, (j : Int), b)) → f[j]? = f0[j]?
section
variable {n : Nat} {rs : List Rdg} {s t : Nat} {L : Steps} {rank : Nat → Nat} {f0 f : List Int} {c : Int} {m : Nat}
theorem BackOk.start (F : FlowOk n rs s t f0 c) (h : disc L t) : BackOk n rs s t L rank f0 f0 c t :=
  ⟨F.len, F.bnd, fun v => by rw [F.div v]; omega, F.src, h, fun _ _ _ _ _ _ _ => rfl⟩
theorem BackOk.done (B : BackOk n rs s t L rank f0 f c s) : FlowOk n rs s t f (c + 1) :=
  ⟨B.len, B.bnd, fun v => by rw [B.div v]; grind, B.src⟩
theorem BackOk.step (B : BackOk n rs s t L rank f0 f c m) (T : TreeOk n rs f0 s L rank) (hm : m ≠ s) : ∃ (u j : Nat) (b x : Int), L[m]? = some (some (u, (j : Int), b)) ∧ rank u < rank m ∧ f[j]? = some x ∧ j < rs.length ∧
    BackOk n rs s t L rank f0 (f.set j (x + b)) c u := by
  obtain ⟨⟨u, i, b⟩, hq⟩ := B.here
  obtain ⟨j, r, x, rfl, hd, hr, e1, e2, hl⟩ := T.step m u i b hm hq
  have ex : f[j]? = some x := (B.keep m u j b hm (Nat.le_refl _) hq).trans e2
  have hjl := (List.getElem?_eq_some_iff.mp e1).1
  refine ⟨u, j, b, x, hq, hr, ex, hjl, by simpa using B.len, fun y hy => ?_, fun v => ?_, fun i r' y h1 h2 => ?_, hd, fun w u' j' b' hw hrw hq' => ?_⟩
  · rcases List.mem_or_eq_of_mem_set hy with h | rfl
    · exact B.bnd y h
    · have := B.bnd x (List.mem_of_getElem? ex)
      rcases hl with ⟨rfl, _, _, _⟩ | ⟨rfl, _, _, _⟩ <;> omega
  · rw [pot_set _ _ _ _ _ _ _ e1 ex, B.div v]
    rcases hl with ⟨rfl, rfl, rfl, _⟩ | ⟨rfl, rfl, rfl, _⟩ <;> simp only [chi] <;> grind
  · by_cases hij : j = i
    · subst hij
      rw [List.getElem?_set_self (List.getElem?_eq_some_iff.mp ex).1] at h2
      rw [e1] at h1
      cases h1
      have g := B.src j r x e1 ex
      simp at h2
      subst h2
      rcases hl with ⟨rfl, rfl, rfl, _⟩ | ⟨rfl, rfl, rfl, _⟩
      · exact ⟨fun q => by have := g.1 q; omega, fun q => (hm q).elim⟩
      · exact ⟨fun q => (hm q).elim, fun q => by have := g.2 q; omega⟩
    · rw [List.getElem?_set_ne hij] at h2
      exact B.src i r' y h1 h2
  · have hne : j ≠ j' := fun e => by
      subst e
      obtain ⟨j2, r2, x2, z, _, a3, a4, _, a6⟩ := T.step w u' (j : Int) b' hw hq'
      have : j2 = j := by omega
      subst this
      rw [e1] at a4
      cases a4
      rcases hl with ⟨_, rfl, rfl, _⟩ | ⟨_, rfl, rfl, _⟩ <;> rcases a6 with ⟨_, h1, h2, _⟩ | ⟨_, h1, h2, _⟩
      · rw [← h2] at hrw; omega
      · rw [← h1] at a3; rw [← h2] at a3 hrw; omega
      · rw [← h1] at a3; rw [← h2] at a3 hrw; omega
      · rw [← h2] at hrw; omega
    rw [List.getElem?_set_ne hne]
    exact B.keep w u' j' b' hw (by omega) hq'
end
/-- what a mark's least cut is -/
structure LeastAt (n : Nat) (rs : List Rdg) (t : Nat) (c : Nat) : Prop where
  le : ∀ S : Nat → Bool, S 0 = false → S t = true → c ≤ cutN rs S
  at_ : ∃ S : Nat → Bool, S 0 = false ∧ S t = true ∧ cutN rs S = c
theorem cutN_not (rs : List Rdg) (S : Nat → Bool) : cutN rs (fun u => !S u) = cutN rs S := by
  unfold cutN
  congr 2
  funext r
  show ((!S r.1) != (!S r.2.1)) = (S r.1 != S r.2.1)
  cases S r.1 <;> cases S r.2.1 <;> rfl
open Classical in
theorem least_of {n : Nat} {rs : List Rdg} {t : Nat} {f : List Int} {c : Int} {L : Steps} (hr : ∀ r ∈ rs, r.1 < n ∧ r.2.1 < n) (h0 : 0 < n) (ht : t < n) (F : FlowOk n rs 0 t f c) (K : SearchOk n rs f 0 L) (hn : ¬ disc L t) : ∃ k : Nat, c = (k : Int) ∧ LeastAt n rs t k := by
  obtain ⟨rank, T⟩ := K.tree
  have h1 : disc L 0 := ⟨_, T.root⟩
  have e := F.eq_cut hr h0 ht (S := fun u => decide (disc L u)) (by simp [h1]) (by simp [hn]) (fun i r x e1 e2 => by
    refine ⟨fun a b => ?_, fun a b => ?_⟩
    · have a' : disc L r.1 := by simpa using a
      have := (K.all r.1 a' i r x e1 e2).1 rfl b
      simpa using this
    · have a' : disc L r.2.1 := by simpa using a
      have := (K.all r.2.1 a' i r x e1 e2).2 rfl b
      simpa using this)
  refine ⟨cutN rs fun u => decide (disc L u), e, ?_, ⟨fun u => !decide (disc L u), by simp [h1], by simp [hn], cutN_not _ _⟩⟩
  intro S s1 s2
  have := F.le_cut hr h0 ht s1 s2
  omega
end K11
end

/-! ## K11Sp -/
section
set_option maxHeartbeats 4000000
/-! The data, the mirrors, the promises. -/
namespace K11
open PySem PySem.Spec PyProof.Rows L2
/-! ### data -/
structure Net where
  nm : List PyData
  rs : List Rdg
abbrev Net.n (N : Net) : Nat := N.nm.length
def encR (r : Rdg) : PyData := .tuple [.int (r.1 : Nat), .int (r.2.1 : Nat), .int r.2.2]
def encI (h : List Int) : PyData := .tuple (h.map .int)
def encNet (N : Net) : PyData := .tuple [.str "net", .tuple N.nm, .tuple (N.rs.map encR)]
def encO : Option Int → PyData
  | none => .none
  | some i => .int i
abbrev Part := List (Option Int)
def encP (g : Part) : PyData := .tuple (g.map encO)
def encHB : Option (Nat × Int) → PyData
  | none => .none
  | some p => .tuple [.int (p.1 : Nat), .int p.2]
def encPr (p : Nat × Nat) : PyData := .tuple [.int (p.1 : Nat), .int (p.2 : Nat)]
def encRow (p : Nat × Int) : PyData := .tuple [.int (p.1 : Nat), .int p.2]
def encStep : Option (Nat × Int × Int) → PyData
  | none => .none
  | some q => .tuple [.int (q.1 : Nat), .int q.2.1, .int q.2.2]
/-- a dict of ints -/
def encDict (row : List (Nat × Int)) : List (Key × V) := row.map fun p => (.inl (p.1 : Int), V.int p.2)
structure NetOk (N : Net) : Prop where
  nm : noLAll N.nm = true
  two : 2 ≤ N.n
  five : N.n ≤ 5
  ends : ∀ r ∈ N.rs, r.1 < N.n ∧ r.2.1 < N.n
  ne : ∀ r ∈ N.rs, r.1 ≠ r.2.1
  few : N.rs.length ≤ 13
/-- the least size of all cuts -/
structure MinCut (N : Net) (t : Nat) : Prop where
  le : ∀ S : Nat → Bool, S 0 = false → (∃ v, v < N.n ∧ S v = true) → t ≤ cutN N.rs S
  at_ : ∃ S : Nat → Bool, S 0 = false ∧ (∃ v, v < N.n ∧ S v = true) ∧ cutN N.rs S = t
theorem MinCut.uniq {N : Net} {t u : Nat} (a : MinCut N t) (b : MinCut N u) : t = u := by
  obtain ⟨S, s1, s2, s3⟩ := a.at_
  obtain ⟨T, t1, t2, t3⟩ := b.at_
  have h1 := a.le T t1 t2
  have h2 := b.le S s1 s2
  omega
/-! ### mirrors -/
def miss (h : List Int) (r : Rdg) : Int := r.2.2 - h.getD r.2.1 0 + h.getD r.1 0
def lies (rs : List Rdg) (h : List Int) : List Int := (((rs.map (miss h)).zipIdx).filter fun p => p.1 != 0).map fun p => (p.2 : Int)
def hb2 : Option Int → Option Int → Rdg → Option (Nat × Int)
  | some x, none, r => some (r.2.1, x + r.2.2)
  | none, some y, r => some (r.1, y - r.2.2)
  | _, _, _ => none
def heightBy (g : Part) (r : Rdg) : Option (Nat × Int) := hb2 (g.getD r.1 none) (g.getD r.2.1 none) r
def lk2 : Option Int → Option Int → Rdg → Bool
  | some x, some y, r => y - x != r.2.2
  | _, _, _ => false
def lieKnown (g : Part) (r : Rdg) : Bool := lk2 (g.getD r.1 none) (g.getD r.2.1 none) r
def cnt (rs : List Rdg) (g : Part) : Nat := (rs.filter (lieKnown g)).length
def growF (rs : List Rdg) (k : Int) (g : Part) (found : List Part) (p : Nat × Int) : List Part :=
  if (!found.contains (g.set p.1 (some p.2)) && decide ((cnt rs (g.set p.1 (some p.2)) : Int) ≤ k)) = true then found ++ [g.set p.1 (some p.2)] else found
def furtherF (rs : List Rdg) (k : Int) (g : Part) : List Part := ((rs.filterMap (heightBy g)).take ((k - cnt rs g).toNat + 1)).foldl (growF rs k g) []
def addNew (more : List Part) (x : Part) : List Part := if more.contains x = true then more else more ++ [x]
def stepF (rs : List Rdg) (k : Int) (rows : List Part) : List Part := rows.foldl (fun more g => (furtherF rs k g).foldl addNew more) []
/-- known_key, over data -/
def keyI : PyData → PyData
  | .int i => .tuple [.bool true, .int i]
  | .none => .tuple [.bool false, .int 0]
  | _ => .none
def keyD : PyData → PyData
  | .tuple gs => .tuple (gs.map keyI)
  | d => d
def leP (a b : Part) : Bool := PySem.W.dataLe false keyD (encP a) (encP b)
def rowsF (rs : List Rdg) (k : Int) (n : Nat) : Nat → List Part
  | 0 => [some 0 :: List.replicate (n - 1) none]
  | t + 1 => (stepF rs k (rowsF rs k n t)).mergeSort leP
/-- W are the worlds as the search gives them -/
structure Worlds (N : Net) (k : Int) (W : List (List Int)) : Prop where
  eq : rowsF N.rs k N.n (N.n - 1) = W.map fun h => h.map some
  len : ∀ h ∈ W, h.length = N.n
def verdictOf (told : List (List Int)) (i : Int) : Str := if (told.filter fun row => row.contains i).length = 0 then "kept" else if (told.filter fun row => row.contains i).length = told.length then "lies" else "open"
def verdictsF (rs : List Rdg) (W : List (List Int)) : List Str := if W = [] then [] else (List.range rs.length).map fun (i : Nat) => verdictOf (W.map (lies rs)) (i : Int)
/-! ### promises of the program's defs -/
def sp_miss_of (K : PySem.W.Frag) : Sp := fun vs H Q _ => ∃ r h, DpAll K H vs [encR r, encI h] ∧ r.1 < h.length ∧ r.2.1 < h.length ∧ Ret K H (.int (miss h r)) Q
def sp_misses (K : PySem.W.Frag) : Sp := fun vs H Q _ => ∃ N h, DpAll K H vs [encNet N, encI h] ∧ NetOk N ∧ h.length = N.n ∧ Ret K H (encI (N.rs.map (miss h))) Q
def sp_lies (K : PySem.W.Frag) : Sp := fun vs H Q _ => ∃ N h, DpAll K H vs [encNet N, encI h] ∧ NetOk N ∧ h.length = N.n ∧ Ret K H (encI (lies N.rs h)) Q
def sp_is_world (K : PySem.W.Frag) : Sp := fun vs H Q _ => ∃ N k h, DpAll K H vs [encNet N, .int k, encI h] ∧ NetOk N ∧ h.length = N.n ∧ Ret K H (.bool (decide (((lies N.rs h).length : Int) ≤ k))) Q
def sp_height_by (K : PySem.W.Frag) : Sp := fun vs H Q _ => ∃ r g, DpAll K H vs [encR r, encP g] ∧ r.1 < g.length ∧ r.2.1 < g.length ∧ Ret K H (encHB (heightBy g r)) Q
def sp_count_lies (K : PySem.W.Frag) : Sp := fun vs H Q _ => ∃ N g, DpAll K H vs [encNet N, encP g] ∧ NetOk N ∧ g.length = N.n ∧ Ret K H (.int (cnt N.rs g : Nat)) Q
def sp_further (K : PySem.W.Frag) : Sp := fun vs H Q _ => ∃ N k g, DpAll K H vs [encNet N, .int k, encP g] ∧ NetOk N ∧ g.length = N.n ∧ (cnt N.rs g : Int) ≤ k ∧ k ≤ 3 ∧ RetN K H ((furtherF N.rs k g).map encP) Q
def sp_known_key (K : PySem.W.Frag) : Sp := fun vs H Q _ => ∃ g, DpAll K H vs [encP g] ∧ g.length ≤ 5 ∧ Ret K H (keyD (encP g)) Q
def sp_strength (K : PySem.W.Frag) : Sp := fun vs H Q _ => ∃ N t, DpAll K H vs [encNet N] ∧ NetOk N ∧ MinCut N t ∧ Ret K H (.int (t : Nat)) Q
def sp_strength_paper (K : PySem.W.Frag) : Sp := fun vs H Q _ => ∃ N t, DpAll K H vs [encNet N] ∧ NetOk N ∧ MinCut N t ∧ RetP K H (fun d => ∃ a b c, d = .tuple [a, .int (t : Nat), b, c]) Q
def sp_check_worlds (K : PySem.W.Frag) (C : Addr) : Sp := fun vs H Q E => ∃ N k t, DpAll K H vs [encNet N, .int k] ∧ NetOk N ∧ MinCut N t ∧ ((t : Int) < k + 1 → ∀ H', Same H H' → E (.ref C) none H') ∧ (k + 1 ≤ (t : Int) → Ret K H .none Q)
def sp_worlds (K : PySem.W.Frag) (C : Addr) : Sp := fun vs H Q E => ∃ N k t, DpAll K H vs [encNet N, .int k] ∧ NetOk N ∧ 0 ≤ k ∧ k ≤ 3 ∧ MinCut N t ∧ ((t : Int) < k + 1 → ∀ H', Same H H' → E (.ref C) none H') ∧
  (k + 1 ≤ (t : Int) → ∃ W, Worlds N k W ∧ W.length ≤ 200 ∧ Ret K H (.tuple (W.map encI)) Q)
def sp_verdict_of (K : PySem.W.Frag) : Sp := fun vs H Q _ => ∃ i told, DpAll K H vs [.int i, .list (told.map encI)] ∧ told.length ≤ 1000 ∧ Ret K H (.str (verdictOf told i)) Q
def sp_verdicts (K : PySem.W.Frag) (C : Addr) : Sp := fun vs H Q E => ∃ N k t, DpAll K H vs [encNet N, .int k] ∧ NetOk N ∧ 0 ≤ k ∧ k ≤ 3 ∧ MinCut N t ∧ ((t : Int) < k + 1 → ∀ H', Same H H' → E (.ref C) none H') ∧
  (k + 1 ≤ (t : Int) → ∃ W, Worlds N k W ∧ W.length ≤ 200 ∧ Ret K H (.tuple ((verdictsF N.rs W).map .str)) Q)
/-- cuts -/
def encF (f : List Int) : PyData := .list (f.map .int)
def sp_search (K : PySem.W.Frag) : Sp := fun vs H Q _ => ∃ (N : Net) (f : List Int) (s : Nat), DpAll K H vs [encNet N, encF f, .int s] ∧ NetOk N ∧ f.length = N.rs.length ∧ s < N.n ∧
  RetNP K H (fun ds => ∃ L : Steps, ds = L.map encStep ∧ SearchOk N.n N.rs f s L) Q
def sp_greatest_flow (K : PySem.W.Frag) : Sp := fun vs H Q _ => ∃ (N : Net) (t : Nat), DpAll K H vs [encNet N, .int 0, .int t] ∧ NetOk N ∧ 0 < t ∧ t < N.n ∧
  RetNP K H (fun ds => ∃ f c, ds = f.map .int ∧ FlowOk N.n N.rs 0 t f c ∧ ∃ k : Nat, c = (k : Int) ∧ LeastAt N.n N.rs t k) Q
def sp_next_reading (K : PySem.W.Frag) : Sp := fun vs H Q _ => ∃ (N : Net) (f : List Int) (m : Nat), DpAll K H vs [encNet N, encF f, .int m] ∧ NetOk N ∧ f.length = N.rs.length ∧
  RetP K H (fun d => (∃ (j : Nat) (r : Rdg) (x : Int), d = .int (j : Nat) ∧ N.rs[j]? = some r ∧ f[j]? = some x ∧ (r.1 = m ∧ x = 1 ∨ r.2.1 = m ∧ x = -1)) ∨
    (d = .int (-1) ∧ ∀ (i : Nat) (r : Rdg) (x : Int), N.rs[i]? = some r → f[i]? = some x → ¬ (r.1 = m ∧ x = 1) ∧ ¬ (r.2.1 = m ∧ x = -1))) Q
def sp_ways_of (K : PySem.W.Frag) : Sp := fun vs H Q _ => ∃ (N : Net) (f : List Int) (t : Nat) (c : Nat), DpAll K H vs [encNet N, encF f, .int 0, .int t] ∧ NetOk N ∧ 0 < t ∧ t < N.n ∧ FlowOk N.n N.rs 0 t f (c : Int) ∧
  RetP K H (fun d => ∃ ws, d = .tuple ws ∧ ws.length = c ∧ noLAll ws = true) Q
def sp_side_of (K : PySem.W.Frag) : Sp := fun vs H Q _ => ∃ (N : Net) (f : List Int), DpAll K H vs [encNet N, encF f, .int 0] ∧ NetOk N ∧ f.length = N.rs.length ∧ RetP K H (fun d => ∃ ws, d = .tuple ws ∧ noLAll ws = true) Q
def sp_least_cut (K : PySem.W.Frag) : Sp := fun vs H Q _ => ∃ (N : Net) (t : Nat), DpAll K H vs [encNet N, .int 0, .int t] ∧ NetOk N ∧ 0 < t ∧ t < N.n ∧
  RetP K H (fun d => ∃ side ws c, d = .tuple [.tuple side, .tuple ws] ∧ noLAll side = true ∧ noLAll ws = true ∧ ws.length = c ∧ LeastAt N.n N.rs t c) Q
/-! ### promises of the law's defs -/
/-- the law's box: a list of a list of ints and a place -/
structure Bx where
  b : Addr
  dl : Addr
  is : List Int
def BoxAt (K : PySem.W.Frag) (H : Hp) (B : Bx) : Prop := ∃ at_ : Nat, H B.b = some (.lst [.ref B.dl, .int (at_ : Int)]) ∧ B.dl ≠ B.b ∧ SqL K H B.dl (B.is.map V.int) ∧ B.is.length ≤ 100000
def sp_law_cell (K : PySem.W.Frag) : Sp := fun vs H Q _ => ∃ (ns : List Int) (j : Nat), DpAll K H vs [encF ns, .int (j : Nat)] ∧ Ret K H (.int (ns.getD j 0)) Q
def sp_law_digits (K : PySem.W.Frag) : Sp := fun vs H Q _ => ∃ (ns : List Int), DpAll K H vs [encF ns, .int 0, .int 63] ∧ RetNP K H (fun ds => ∃ is : List Int, ds = is.map .int ∧ is.length ≤ 4000) Q
def sp_law_draw (K : PySem.W.Frag) : Sp := fun vs H Q _ => ∃ (B : Bx) (m : Int), vs = [.ref B.b, .int m] ∧ BoxAt K H B ∧ 0 < m ∧ ∀ (r : Int) (H' : Hp), 0 ≤ r → r < m → But B.b H H' → BoxAt K H' B → Q (.int r) H'
def sp_law_pick (K : PySem.W.Frag) : Sp := fun vs H Q _ => ∃ (B : Bx) (v : V) (ds : List PyData), vs = [.ref B.b, v] ∧ BoxAt K H B ∧ ((v ≠ .ref B.b ∧ Dp K H v (.list ds)) ∨ Dp K H v (.tuple ds)) ∧ ds ≠ [] ∧ noLAll ds = true ∧
  ∀ (d : PyData) (y : V) (H' : Hp), d ∈ ds → But B.b H H' → BoxAt K H' B → Dp K H' y d → Q y H'
def sp_law_pairs (K : PySem.W.Frag) : Sp := fun vs H Q _ => ∃ (B : Bx) (n e : Nat), vs = [.ref B.b, .int (n : Nat), .int (e : Nat)] ∧ BoxAt K H B ∧ 2 ≤ n ∧ n ≤ 5 ∧ e ≤ 9 ∧
  ∀ (p : Addr) (H' : Hp) (ps : List (Nat × Nat)), (∀ q ∈ ps, q.1 < n ∧ q.2 < n ∧ q.1 ≠ q.2) → ps.length = n - 1 + e → But B.b H H' → BoxAt K H' B → H p = none → LstAt K H' p (ps.map encPr) → Q (.ref p) H'
def sp_law_heights (K : PySem.W.Frag) : Sp := fun vs H Q _ => ∃ (B : Bx) (n : Nat), vs = [.ref B.b, .int (n : Nat)] ∧ BoxAt K H B ∧ 1 ≤ n ∧ n ≤ 5 ∧ ∀ (v : V) (H' : Hp) (h : List Int), h.length = n → But B.b H H' → BoxAt K H' B → Dp K H' v (encI h) → Q v H'
def sp_law_names (K : PySem.W.Frag) : Sp := fun vs H Q _ => ∃ (n : Nat), DpAll K H vs [.int (n : Nat)] ∧ n ≤ 5 ∧ RetP K H (fun d => ∃ nm, d = .tuple nm ∧ nm.length = n ∧ noLAll nm = true) Q
def ends (rs : List Rdg) : List (Nat × Nat) := rs.map fun r => (r.1, r.2.1)
def sp_law_kept_net (K : PySem.W.Frag) : Sp := fun vs H Q _ => ∃ (ps : List (Nat × Nat)) (h : List Int), DpAll K H vs [.list (ps.map encPr), encI h] ∧ (∀ q ∈ ps, q.1 < h.length ∧ q.2 < h.length) ∧ h.length ≤ 5 ∧ ps.length ≤ 13 ∧
  RetP K H (fun d => ∃ N, d = encNet N ∧ N.n = h.length ∧ noLAll N.nm = true ∧ ends N.rs = ps) Q
def sp_law_changed (K : PySem.W.Frag) : Sp := fun vs H Q _ => ∃ (v : V) (r : Addr) (N : Net) (rows : List (Nat × Int)), vs = [v, .ref r] ∧ Dp K H v (encNet N) ∧ LstAt K H r (rows.map encRow) ∧ NetOk N ∧ (∀ q ∈ rows, q.1 < N.rs.length) ∧
  RetP K H (fun d => ∃ N', d = encNet N' ∧ N'.nm = N.nm ∧ ends N'.rs = ends N.rs) Q
def sp_law_some (K : PySem.W.Frag) : Sp := fun vs H Q _ => ∃ (B : Bx) (m e : Nat), vs = [.ref B.b, .int (m : Nat), .int (e : Nat)] ∧ BoxAt K H B ∧ 0 < m ∧ m ≤ 13 ∧
  ∀ (p : Addr) (H' : Hp) (is : List Nat), (∀ i ∈ is, i < m) → is.length ≤ 13 → But B.b H H' → BoxAt K H' B → H p = none → LstAt K H' p (is.map fun i => .int (i : Nat)) → Q (.ref p) H'
def sp_law_lied (K : PySem.W.Frag) : Sp := fun vs H Q _ => ∃ (B : Bx) (v : V) (N : Net) (e : Nat), vs = [.ref B.b, v, .int (e : Nat)] ∧ BoxAt K H B ∧ Dp K H v (encNet N) ∧ NetOk N ∧ 0 < N.rs.length ∧
  ∀ (v' : V) (H' : Hp) (N' : Net), N'.nm = N.nm → ends N'.rs = ends N.rs → But B.b H H' → BoxAt K H' B → Dp K H' v' (encNet N') → Q v' H'
def sp_law_net (K : PySem.W.Frag) : Sp := fun vs H Q _ => ∃ (B : Bx), vs = [.ref B.b, .int 5, .int 9] ∧ BoxAt K H B ∧ ∀ (v : V) (H' : Hp) (N : Net), NetOk N → But B.b H H' → BoxAt K H' B → Dp K H' v (encNet N) → Q v H'
/-- all sides of so many marks -/
def subsF : Nat → List (List Int)
  | 0 => [[]]
  | m + 1 => subsF m ++ (subsF m).map fun s => s ++ [((m + 1 : Nat) : Int)]
def sidesF (n : Nat) : List (List Int) := (subsF (n - 1)).filter fun s => s != []
def cutF (rs : List Rdg) (side : List Int) : List Int := ((List.range rs.length).filter fun (i : Nat) => match rs[i]? with
  | some r => side.contains (r.1 : Int) != side.contains (r.2.1 : Int)
  | none => false).map fun (i : Nat) => (i : Int)
def sp_law_sides (K : PySem.W.Frag) : Sp := fun vs H Q _ => ∃ (n : Nat), DpAll K H vs [.int (n : Nat)] ∧ 1 ≤ n ∧ n ≤ 5 ∧ Ret K H (.list ((sidesF n).map encI)) Q
def sp_law_cut (K : PySem.W.Frag) : Sp := fun vs H Q _ => ∃ (N : Net) (side : List Int), DpAll K H vs [encNet N, encI side] ∧ NetOk N ∧ Ret K H (encF (cutF N.rs side)) Q
def sp_law_strength (K : PySem.W.Frag) : Sp := fun vs H Q _ => ∃ (N : Net), DpAll K H vs [encNet N] ∧ NetOk N ∧ RetP K H (fun d => ∃ t : Nat, d = .int (t : Nat) ∧ MinCut N t) Q
def sp_law_misses (K : PySem.W.Frag) : Sp := fun vs H Q _ => ∃ N h, DpAll K H vs [encNet N, encI h] ∧ NetOk N ∧ h.length = N.n ∧ Ret K H (encF (N.rs.map (miss h))) Q
def sp_law_lies (K : PySem.W.Frag) : Sp := fun vs H Q _ => ∃ N h, DpAll K H vs [encNet N, encI h] ∧ NetOk N ∧ h.length = N.n ∧ Ret K H (encI (lies N.rs h)) Q
/-- the law's search over dicts -/
abbrev Row := List (Nat × Int)
def rget (row : Row) (m : Nat) : Option Int := row.lookup m
def fl2 : Option Int → Option Int → Rdg → Bool
  | some x, some y, r => r.2.2 - y + x != 0
  | _, _, _ => false
def fewLie (row : Row) (r : Rdg) : Bool := fl2 (rget row r.1) (rget row r.2.1) r
def fewN (rs : List Rdg) (row : Row) : Nat := (rs.filter (fewLie row)).length
def growR (row : Row) (r : Rdg) : Option (Nat × Int) := hb2 (rget row r.1) (rget row r.2.1) r
/-- two dicts are equal -/
def rowEq (a b : Row) : Bool := a.length == b.length && a.all fun p => decide (rget b p.1 = some p.2)
def tryR (rs : List Rdg) (k : Int) (row : Row) (more : List Row) (r : Rdg) : List Row := match growR row r with
  | none => more
  | some p => if (!more.any (fun q => rowEq q (row ++ [p])) && decide ((fewN rs (row ++ [p]) : Int) ≤ k)) = true then more ++ [row ++ [p]] else more
def stepR (rs : List Rdg) (k : Int) (rows : List Row) : List Row := rows.foldl (fun more row => rs.foldl (tryR rs k row) more) []
def rowsR (rs : List Rdg) (k : Int) : Nat → List Row
  | 0 => [[(0, 0)]]
  | t + 1 => stepR rs k (rowsR rs k t)
def leI (a b : List Int) : Bool := PySem.W.dataLe false id (encI a) (encI b)
def lawWorlds (rs : List Rdg) (k : Int) (n : Nat) : List (List Int) := ((rowsR rs k (n - 1)).map fun row => (List.range n).map fun m => (rget row m).getD 0).mergeSort leI
def sp_law_few (K : PySem.W.Frag) : Sp := fun vs H Q _ => ∃ (v : V) (a : Addr) (k : Int) (N : Net) (row : Row), vs = [v, .ref a, .int k] ∧ Dp K H v (encNet N) ∧ NetOk N ∧ H a = some (.dK (encDict row)) ∧ Ret K H (.bool (decide ((fewN N.rs row : Int) ≤ k))) Q
def sp_law_all_worlds (K : PySem.W.Frag) : Sp := fun vs H Q _ => ∃ N k, DpAll K H vs [encNet N, .int k] ∧ NetOk N ∧ (∀ row ∈ rowsR N.rs k (N.n - 1), ∀ m, m < N.n → (rget row m).isSome = true) ∧ Ret K H (.tuple ((lawWorlds N.rs k N.n).map encI)) Q
def sp_law_refused (K : PySem.W.Frag) : Sp := fun vs H Q _ => ∃ N k t, DpAll K H vs [encNet N, .int k] ∧ NetOk N ∧ 0 ≤ k ∧ k ≤ 3 ∧ MinCut N t ∧ (t : Int) < k + 1 ∧ Ret K H (.bool true) Q
def sp_law (K : PySem.W.Frag) : Sp := fun vs H Q _ => ∃ (ns : List Int), DpAll K H vs [encF ns] ∧ ∀ H', Q (.bl true) H'
end K11
end

/-! ## K11Terms -/
section
set_option maxHeartbeats 4000000
/-! The readings of the defs, printed by gen.py. -/
namespace K11
open PySem PySem.Spec PyProof.Rows L2
def tRaiseBS (C : Addr) (E : XK) : TS := fun _ _ H => E (.ref C) none H
def tTryBS (K : PySem.W.Frag) (C : Addr) (sp : Sp) (t : TA) (su : TS) : TS := fun D σ H => tDrop (tCallS sp (WE (wOnly K (.ref C) (fun _ _ _ => su) (fun _ _ _ _ => False) D)) t) D σ H
/-- _law_few -/
abbrev N_law_few : List Str := ["_law_net_here", "_law_row", "_law_k", "_law_known", "_law_a", "_law_b", "_law_value", "_law_miss"]
def t_law_few (K : PySem.W.Frag) : TS :=
  (tSeq (tAsg (tLc (iTup K (tOp (rIx K) (tVar 0) (tC (.int 2)))) (gTup K 3 (gCons (gName 4) (gCons (gName 5) (gCons (gName 6) gNil)))) (tAnd (tB (tDIn (tVar 4) (tVar 1))) (tB (tDIn (tVar 5) (tVar 1)))) (tOp rPlus (tOp rMinus (tVar 6) (tDGet (tVar 1) (tVar 5))) (tDGet (tVar 1) (tVar 4))) [4, 5, 6]) (gName 3)) (tRet (tOp rLe (tCB (rLenQ K) (tCons (tLc (iList K (tVar 3)) (gName 7) (tTest (tOp rNe (tVar 7) (tC (.int 0)))) (tVar 7) [7]) tNil)) (tVar 2))))
/-- _law_all_worlds -/
abbrev N_law_all_worlds : List Str := ["_law_net_here", "_law_k", "_law_many", "_law_rows", "_law_turn", "_law_more", "_law_row", "_law_a", "_law_b", "_law_value", "_law_grown", "_law_found", "_law_mark"]
def t_law_all_worlds (K : PySem.W.Frag) : TS :=
  (tSeq (tAsg (tCB (rLenQ K) (tCons (tOp (rIx K) (tVar 0) (tC (.int 1))) tNil)) (gName 2)) (tSeq (tAsg (tLst (tCons (tDisp1 (tC (.int 0)) (tC (.int 0))) tNil)) (gName 3)) (tSeq (tFor (iRng1 (tCons (tOp rMinus (tVar 2) (tC (.int 1))) tNil)) (gName 4) (tSeq (tAsg (tLst tNil) (gName 5)) (tSeq (tFor (iList K (tVar 3)) (gName 6) (tFor (iTup K (tOp (rIx K) (tVar 0) (tC (.int 2)))) (gTup K 3 (gCons (gName 7) (gCons (gName 8) (gCons (gName 9) gNil)))) (tSeq (tAsg (tCB rDictCopy (tCons (tVar 6) tNil)) (gName 10)) (tSeq (tIfS (tAnd (tB (tDIn (tVar 7) (tVar 6))) (tB (tDNotIn (tVar 8) (tVar 6)))) (sDPut (tVar 10) (tVar 8) (tOp rPlus (tDGet (tVar 6) (tVar 7)) (tVar 9))) (tIfS (tAnd (tB (tDIn (tVar 8) (tVar 6))) (tB (tDNotIn (tVar 7) (tVar 6)))) (sDPut (tVar 10) (tVar 7) (tOp rMinus (tDGet (tVar 6) (tVar 8)) (tVar 9))) tNext)) (tIfS (tAnd (tTest (tOp rGt (tCB rLenD (tCons (tVar 10) tNil)) (tCB rLenD (tCons (tVar 6) tNil)))) (tAnd (tTest (tOp rNotInDs (tVar 10) (tVar 5))) (tB (tCal (sp_law_few K) E0 (tCons (tVar 0) (tCons (tVar 10) (tCons (tVar 1) tNil))))))) (tDrop (tBM K "list" rAppend (tVar 5) (tCons (tVar 10) tNil))) tNext))))) (tAsg (tVar 5) (gName 3))))) (tSeq (tAsg (tLc (iList K (tVar 3)) (gName 6) tYes (tCB (rTupO K) (tCons (tLc (iRng1 (tCons (tVar 2) tNil)) (gName 12) tYes (tDGet (tVar 6) (tVar 12)) [12]) tNil)) [6]) (gName 11)) (tRet (tCB (rTupO K) (tCons (tCB (rSortD K) (tCons (tVar 11) tNil)) tNil)))))))
/-- _law_cell -/
abbrev N_law_cell : List Str := ["_law_script", "_law_k"]
def t_law_cell (K : PySem.W.Frag) : TS :=
  (tSeq (tIfS (tTest (tOp rLt (tVar 1) (tCB (rLenQ K) (tCons (tVar 0) tNil)))) (tRet (tOp (rIx K) (tVar 0) (tVar 1))) tNext) (tRet (tC (.int 0))))
/-- _law_digits -/
abbrev N_law_digits : List Str := ["_law_script", "_law_first", "_law_last", "_law_digits_here", "_law_k", "_law_cell_here", "_law_turn", "_law_seed"]
def t_law_digits (K : PySem.W.Frag) : TS :=
  (tSeq (tAsg (tLst tNil) (gName 3)) (tSeq (tFor (iRng2 (tCons (tVar 1) (tCons (tVar 2) tNil))) (gName 4) (tSeq (tAsg (tCal (sp_law_cell K) E0 (tCons (tVar 0) (tCons (tVar 4) tNil))) (gName 5)) (tSeq (tIfS (tTest (tOp rLt (tVar 5) (tC (.int 0)))) (tAsg (tOp rMinus (tC (.int 1)) (tOp rTimes (tC (.int 2)) (tVar 5))) (gName 5)) tNext) (tIfS (tTest (tOp rGe (tVar 5) (tOp rPow (tC (.int 10)) (tC (.int 18))))) (tFor (iRng1 (tCons (tC (.int 60)) tNil)) (gName 6) (tIfS (tTest (tOp rGt (tVar 5) (tC (.int 0)))) (tSeq (tDrop (tBM K "list" rAppend (tVar 3) (tCons (tOp rMod (tCB rInt1 (tCons (tVar 5) tNil)) (tC (.int 1000))) tNil))) (tAsg (tOp rFdiv (tVar 5) (tC (.int 1000))) (gName 5))) tNext)) (tSeq (tAsg (tOp rMod (tCB rInt1 (tCons (tOp rPlus (tOp rPlus (tOp rTimes (tVar 5) (tC (.int 48271))) (tOp rTimes (tVar 4) (tC (.int 69621)))) (tC (.int 11))) tNil)) (tC (.int 2147483647))) (gName 7)) (tFor (iRng1 (tCons (tC (.int 12)) tNil)) (gName 6) (tSeq (tAsg (tOp rMod (tCB rInt1 (tCons (tOp rPlus (tOp rPlus (tOp rTimes (tVar 7) (tC (.int 16807))) (tOp rTimes (tC (.int 7)) (tVar 6))) (tC (.int 1))) tNil)) (tC (.int 2147483647))) (gName 7)) (tDrop (tBM K "list" rAppend (tVar 3) (tCons (tOp rMod (tCB rInt1 (tCons (tOp rFdiv (tVar 7) (tC (.int 997))) tNil)) (tC (.int 1000))) tNil)))))))))) (tRet (tVar 3))))
/-- _law_draw -/
abbrev N_law_draw : List Str := ["_law_box", "_law_many", "_law_at"]
def t_law_draw (K : PySem.W.Frag) : TS :=
  (tSeq (tAsg (tOp (rIx K) (tVar 0) (tC (.int 1))) (gName 2)) (tSeq (tAsg (tOp rPlus (tVar 2) (tC (.int 1))) (gSub (tVar 0) (tC (.int 1)) rSetL)) (tSeq (tIfS (tTest (tOp rLt (tVar 2) (tCB (rLenQ K) (tCons (tOp (rIx K) (tVar 0) (tC (.int 0))) tNil)))) (tRet (tOp rMod (tCB rInt1 (tCons (tOp (rIx K) (tOp (rIx K) (tVar 0) (tC (.int 0))) (tVar 2)) tNil)) (tVar 1))) tNext) (tRet (tOp rMod (tCB rInt1 (tCons (tOp rPlus (tOp rTimes (tVar 2) (tC (.int 7))) (tC (.int 3))) tNil)) (tVar 1))))))
/-- _law_heights -/
abbrev N_law_heights : List Str := ["_law_box", "_law_many", "_law_k"]
def t_law_heights (K : PySem.W.Frag) : TS :=
  (tRet (tOp (rCatA K) (tTup (tCons (tC (.int 0)) tNil)) (tCB (rTupO K) (tCons (tLc (iRng1 (tCons (tOp rMinus (tVar 1) (tC (.int 1))) tNil)) (gName 2) tYes (tOp rMinus (tCal (sp_law_draw K) E0 (tCons (tVar 0) (tCons (tC (.int 41)) tNil))) (tC (.int 20))) [2]) tNil))))
/-- _law_misses -/
abbrev N_law_misses : List Str := ["_law_net_here", "_law_heights_here", "_law_a", "_law_b", "_law_value"]
def t_law_misses (K : PySem.W.Frag) : TS :=
  (tRet (tLc (iTup K (tOp (rIx K) (tVar 0) (tC (.int 2)))) (gTup K 3 (gCons (gName 2) (gCons (gName 3) (gCons (gName 4) gNil)))) tYes (tOp rPlus (tOp rMinus (tVar 4) (tOp (rIx K) (tVar 1) (tVar 3))) (tOp (rIx K) (tVar 1) (tVar 2))) [2, 3, 4]))
/-- _law_lies -/
abbrev N_law_lies : List Str := ["_law_net_here", "_law_heights_here", "_law_misses_here", "_law_k"]
def t_law_lies (K : PySem.W.Frag) : TS :=
  (tSeq (tAsg (tCal (sp_law_misses K) E0 (tCons (tVar 0) (tCons (tVar 1) tNil))) (gName 2)) (tRet (tCB (rTupO K) (tCons (tLc (iRng1 (tCons (tCB (rLenQ K) (tCons (tVar 2) tNil)) tNil)) (gName 3) (tTest (tOp rNe (tOp (rIx K) (tVar 2) (tVar 3)) (tC (.int 0)))) (tVar 3) [3]) tNil))))
/-- _law_names -/
abbrev N_law_names : List Str := ["_law_many", "_law_k"]
def t_law_names (K : PySem.W.Frag) : TS :=
  (tRet (tCB (rTupO K) (tCons (tLc (iRng1 (tCons (tVar 0) tNil)) (gName 1) tYes (tOp rCatS (tC (.str "m")) (tOp (rIx K) (tC (.str "abcdefghijklmnop")) (tVar 1))) [1]) tNil)))
/-- _law_kept_net -/
abbrev N_law_kept_net : List Str := ["_law_pairs_here", "_law_heights_here", "_law_readings", "_law_a", "_law_b"]
def t_law_kept_net (K : PySem.W.Frag) : TS :=
  (tSeq (tAsg (tCB (rTupO K) (tCons (tLc (iList K (tVar 0)) (gTup K 2 (gCons (gName 3) (gCons (gName 4) gNil))) tYes (tTup (tCons (tVar 3) (tCons (tVar 4) (tCons (tOp rMinus (tOp (rIx K) (tVar 1) (tVar 4)) (tOp (rIx K) (tVar 1) (tVar 3))) tNil)))) [3, 4]) tNil)) (gName 2)) (tRet (tTup (tCons (tC (.str "net")) (tCons (tCal (sp_law_names K) E0 (tCons (tCB (rLenQ K) (tCons (tVar 1) tNil)) tNil)) (tCons (tVar 2) tNil))))))
/-- _law_changed -/
abbrev N_law_changed : List Str := ["_law_net_here", "_law_rows", "_law_readings", "_law_index", "_law_more", "_law_a", "_law_b", "_law_value"]
def t_law_changed (K : PySem.W.Frag) : TS :=
  (tSeq (tAsg (tCB (rLstO K) (tCons (tOp (rIx K) (tVar 0) (tC (.int 2))) tNil)) (gName 2)) (tSeq (tFor (iList K (tVar 1)) (gTup K 2 (gCons (gName 3) (gCons (gName 4) gNil))) (tSeq (tAsg (tOp (rIx K) (tVar 2) (tVar 3)) (gTup K 3 (gCons (gName 5) (gCons (gName 6) (gCons (gName 7) gNil))))) (tAsg (tTup (tCons (tVar 5) (tCons (tVar 6) (tCons (tOp rPlus (tVar 7) (tVar 4)) tNil)))) (gSub (tVar 2) (tVar 3) rSetL)))) (tRet (tTup (tCons (tC (.str "net")) (tCons (tOp (rIx K) (tVar 0) (tC (.int 1))) (tCons (tCB (rTupO K) (tCons (tVar 2) tNil)) tNil)))))))
/-- _law_some -/
abbrev N_law_some : List Str := ["_law_box", "_law_many", "_law_most", "_law_found", "_law_turn", "_law_index"]
def t_law_some (K : PySem.W.Frag) : TS :=
  (tSeq (tAsg (tLst tNil) (gName 3)) (tSeq (tFor (iRng1 (tCons (tCB rMin2 (tCons (tVar 2) (tCons (tVar 1) tNil))) tNil)) (gName 4) (tSeq (tAsg (tCal (sp_law_draw K) E0 (tCons (tVar 0) (tCons (tVar 1) tNil))) (gName 5)) (tIfS (tTest (tOp (rIn K true) (tVar 5) (tVar 3))) (tDrop (tBM K "list" rAppend (tVar 3) (tCons (tVar 5) tNil))) tNext))) (tRet (tCB (rSortedI K) (tCons (tVar 3) tNil)))))
/-- _law_lied -/
abbrev N_law_lied : List Str := ["_law_box", "_law_net_here", "_law_most", "_law_rows", "_law_index"]
def t_law_lied (K : PySem.W.Frag) : TS :=
  (tSeq (tAsg (tLc (iList K (tCal (sp_law_some K) E0 (tCons (tVar 0) (tCons (tCB (rLenQ K) (tCons (tOp (rIx K) (tVar 1) (tC (.int 2))) tNil)) (tCons (tVar 2) tNil))))) (gName 4) tYes (tTup (tCons (tVar 4) (tCons (tOp rTimes (tOp rPlus (tC (.int 1)) (tCal (sp_law_draw K) E0 (tCons (tVar 0) (tCons (tC (.int 30)) tNil)))) (tOp rMinus (tOp rTimes (tC (.int 2)) (tCal (sp_law_draw K) E0 (tCons (tVar 0) (tCons (tC (.int 2)) tNil)))) (tC (.int 1)))) tNil))) [4]) (gName 3)) (tRet (tCal (sp_law_changed K) E0 (tCons (tVar 1) (tCons (tVar 3) tNil)))))
/-- _law_pick -/
abbrev N_law_pick : List Str := ["_law_box", "_law_things"]
def t_law_pick (K : PySem.W.Frag) : TS :=
  (tRet (tOp (rIx K) (tVar 1) (tOp rMod (tCB rInt1 (tCons (tCal (sp_law_draw K) E0 (tCons (tVar 0) (tCons (tC (.int 900)) tNil))) tNil)) (tCB (rLenQ K) (tCons (tVar 1) tNil)))))
/-- _law_pairs -/
abbrev N_law_pairs : List Str := ["_law_box", "_law_many", "_law_extra", "_law_pairs_here", "_law_mark", "_law_other", "_law_turn", "_law_start", "_law_end"]
def t_law_pairs (K : PySem.W.Frag) : TS :=
  (tSeq (tAsg (tLst tNil) (gName 3)) (tSeq (tFor (iRng2 (tCons (tC (.int 1)) (tCons (tVar 1) tNil))) (gName 4) (tSeq (tAsg (tCal (sp_law_draw K) E0 (tCons (tVar 0) (tCons (tVar 4) tNil))) (gName 5)) (tDrop (tBM K "list" rInsert (tVar 3) (tCons (tCal (sp_law_draw K) E0 (tCons (tVar 0) (tCons (tOp rPlus (tCB (rLenQ K) (tCons (tVar 3) tNil)) (tC (.int 1))) tNil))) (tCons (tCal (sp_law_pick K) E0 (tCons (tVar 0) (tCons (tLst (tCons (tTup (tCons (tVar 4) (tCons (tVar 5) tNil))) (tCons (tTup (tCons (tVar 5) (tCons (tVar 4) tNil))) tNil))) tNil))) tNil)))))) (tSeq (tFor (iRng1 (tCons (tVar 2) tNil)) (gName 6) (tSeq (tAsg (tCal (sp_law_draw K) E0 (tCons (tVar 0) (tCons (tVar 1) tNil))) (gName 7)) (tSeq (tAsg (tOp rMod (tCB rInt1 (tCons (tOp rPlus (tOp rPlus (tVar 7) (tC (.int 1))) (tCal (sp_law_draw K) E0 (tCons (tVar 0) (tCons (tOp rMinus (tVar 1) (tC (.int 1))) tNil)))) tNil)) (tVar 1)) (gName 8)) (tDrop (tBM K "list" rInsert (tVar 3) (tCons (tCal (sp_law_draw K) E0 (tCons (tVar 0) (tCons (tOp rPlus (tCB (rLenQ K) (tCons (tVar 3) tNil)) (tC (.int 1))) tNil))) (tCons (tTup (tCons (tVar 7) (tCons (tVar 8) tNil))) tNil))))))) (tRet (tVar 3)))))
/-- _law_net -/
abbrev N_law_net : List Str := ["_law_box", "_law_most_marks", "_law_most_extra", "_law_many", "_law_pairs_here", "_law_net_here"]
def t_law_net (K : PySem.W.Frag) : TS :=
  (tSeq (tAsg (tOp rPlus (tC (.int 2)) (tCal (sp_law_draw K) E0 (tCons (tVar 0) (tCons (tOp rMinus (tVar 1) (tC (.int 1))) tNil)))) (gName 3)) (tSeq (tAsg (tCal (sp_law_pairs K) E0 (tCons (tVar 0) (tCons (tVar 3) (tCons (tCal (sp_law_draw K) E0 (tCons (tVar 0) (tCons (tOp rPlus (tVar 2) (tC (.int 1))) tNil))) tNil)))) (gName 4)) (tSeq (tAsg (tCal (sp_law_kept_net K) E0 (tCons (tVar 4) (tCons (tCal (sp_law_heights K) E0 (tCons (tVar 0) (tCons (tVar 3) tNil))) tNil))) (gName 5)) (tRet (tCal (sp_law_lied K) E0 (tCons (tVar 0) (tCons (tVar 5) (tCons (tCal (sp_law_draw K) E0 (tCons (tVar 0) (tCons (tC (.int 5)) tNil))) tNil))))))))
/-- miss_of -/
abbrev N_miss_of : List Str := ["reading", "heights"]
def t_miss_of (K : PySem.W.Frag) : TS :=
  (tRet (tOp rPlus (tOp rMinus (tOp (rIx K) (tVar 0) (tC (.int 2))) (tOp (rIx K) (tVar 1) (tOp (rIx K) (tVar 0) (tC (.int 1))))) (tOp (rIx K) (tVar 1) (tOp (rIx K) (tVar 0) (tC (.int 0))))))
/-- misses -/
abbrev N_misses : List Str := ["net", "heights", "reading"]
def t_misses (K : PySem.W.Frag) : TS :=
  (tRet (tCB (rTupO K) (tCons (tLc (iTup K (tOp (rIx K) (tVar 0) (tC (.int 2)))) (gName 2) tYes (tCal (sp_miss_of K) E0 (tCons (tVar 2) (tCons (tVar 1) tNil))) [2]) tNil)))
/-- lies -/
abbrev N_lies : List Str := ["net", "heights", "index", "miss"]
def t_lies (K : PySem.W.Frag) : TS :=
  (tRet (tCB (rTupO K) (tCons (tLc (iEnumT K (tCons (tCal (sp_misses K) E0 (tCons (tVar 0) (tCons (tVar 1) tNil))) tNil)) (gTup K 2 (gCons (gName 2) (gCons (gName 3) gNil))) (tTest (tOp rNe (tVar 3) (tC (.int 0)))) (tVar 2) [2, 3]) tNil)))
/-- verdict_of -/
abbrev N_verdict_of : List Str := ["index", "told", "many", "row"]
def t_verdict_of (K : PySem.W.Frag) : TS :=
  (tSeq (tAsg (tCB (rLenQ K) (tCons (tLc (iList K (tVar 1)) (gName 3) (tTest (tOp (rIn K false) (tVar 0) (tVar 3))) (tVar 3) [3]) tNil)) (gName 2)) (tSeq (tIfS (tTest (tOp rEq (tVar 2) (tC (.int 0)))) (tRet (tC (.str "kept"))) tNext) (tSeq (tIfS (tTest (tOp rEq (tVar 2) (tCB (rLenQ K) (tCons (tVar 1) tNil)))) (tRet (tC (.str "lies"))) tNext) (tRet (tC (.str "open"))))))
/-- search -/
abbrev N_search : List Str := ["net", "flow", "start", "last", "queue", "mark", "index", "reading", "one", "other", "_"]
def t_search (K : PySem.W.Frag) : TS :=
  (tSeq (tAsg (tOp rRep (tLst (tCons (tC .non) tNil)) (tCB (rLenQ K) (tCons (tOp (rIx K) (tVar 0) (tC (.int 1))) tNil))) (gName 3)) (tSeq (tAsg (tTup (tCons (tVar 2) (tCons (tUn rNeg (tC (.int 1))) (tCons (tC (.int 0)) tNil)))) (gSub (tVar 3) (tVar 2) rSetL)) (tSeq (tAsg (tLst (tCons (tVar 2) tNil)) (gName 4)) (tSeq (tWhile (tTest (tOp (rNeD K) (tVar 4) (tLst tNil))) (tSeq (tAsg (tBM K "list" rPopAt (tVar 4) (tCons (tC (.int 0)) tNil)) (gName 5)) (tFor (iEnumT K (tCons (tOp (rIx K) (tVar 0) (tC (.int 2))) tNil)) (gTup K 2 (gCons (gName 6) (gCons (gName 7) gNil))) (tSeq (tAsg (tVar 7) (gTup K 3 (gCons (gName 8) (gCons (gName 9) (gCons (gName 10) gNil))))) (tSeq (tIfS (tAnd (tTest (tOp rEq (tVar 5) (tVar 8))) (tAnd (tTest (tOp rLt (tOp (rIx K) (tVar 1) (tVar 6)) (tC (.int 1)))) (tTest (tOp rIsN (tOp (rIx K) (tVar 3) (tVar 9)) (tC .non))))) (tSeq (tAsg (tTup (tCons (tVar 5) (tCons (tVar 6) (tCons (tC (.int 1)) tNil)))) (gSub (tVar 3) (tVar 9) rSetL)) (tDrop (tBM K "list" rAppend (tVar 4) (tCons (tVar 9) tNil)))) tNext) (tIfS (tAnd (tTest (tOp rEq (tVar 5) (tVar 9))) (tAnd (tTest (tOp rGt (tOp (rIx K) (tVar 1) (tVar 6)) (tUn rNeg (tC (.int 1))))) (tTest (tOp rIsN (tOp (rIx K) (tVar 3) (tVar 8)) (tC .non))))) (tSeq (tAsg (tTup (tCons (tVar 5) (tCons (tVar 6) (tCons (tUn rNeg (tC (.int 1))) tNil)))) (gSub (tVar 3) (tVar 8) rSetL)) (tDrop (tBM K "list" rAppend (tVar 4) (tCons (tVar 8) tNil)))) tNext)))))) (tRet (tVar 3))))))
/-- greatest_flow -/
abbrev N_greatest_flow : List Str := ["net", "start", "end", "flow", "last", "mark", "before", "index", "by"]
def t_greatest_flow (K : PySem.W.Frag) : TS :=
  (tSeq (tAsg (tOp rRep (tLst (tCons (tC (.int 0)) tNil)) (tCB (rLenQ K) (tCons (tOp (rIx K) (tVar 0) (tC (.int 2))) tNil))) (gName 3)) (tSeq (tAsg (tCal (sp_search K) E0 (tCons (tVar 0) (tCons (tVar 3) (tCons (tVar 1) tNil)))) (gName 4)) (tSeq (tWhile (tTest (tOp rNotN (tOp (rIx K) (tVar 4) (tVar 2)) (tC .non))) (tSeq (tAsg (tVar 2) (gName 5)) (tSeq (tWhile (tTest (tOp rNe (tVar 5) (tVar 1))) (tSeq (tAsg (tOp (rIx K) (tVar 4) (tVar 5)) (gTup K 3 (gCons (gName 6) (gCons (gName 7) (gCons (gName 8) gNil))))) (tSeq (tAsg (tOp rPlus (tOp (rIx K) (tVar 3) (tVar 7)) (tVar 8)) (gSub (tVar 3) (tVar 7) rSetL)) (tAsg (tVar 6) (gName 5))))) (tAsg (tCal (sp_search K) E0 (tCons (tVar 0) (tCons (tVar 3) (tCons (tVar 1) tNil)))) (gName 4))))) (tRet (tVar 3)))))
/-- side_of -/
abbrev N_side_of : List Str := ["net", "flow", "start", "last", "there", "mark"]
def t_side_of (K : PySem.W.Frag) : TS :=
  (tSeq (tAsg (tCal (sp_search K) E0 (tCons (tVar 0) (tCons (tVar 1) (tCons (tVar 2) tNil)))) (gName 3)) (tSeq (tAsg (tLc (iRng1 (tCons (tCB (rLenQ K) (tCons (tOp (rIx K) (tVar 0) (tC (.int 1))) tNil)) tNil)) (gName 5) (tTest (tOp rNotN (tOp (rIx K) (tVar 3) (tVar 5)) (tC .non))) (tVar 5) [5]) (gName 4)) (tSeq (tIfS (tTest (tOp (rIn K false) (tC (.int 0)) (tVar 4))) (tAsg (tLc (iRng1 (tCons (tCB (rLenQ K) (tCons (tOp (rIx K) (tVar 0) (tC (.int 1))) tNil)) tNil)) (gName 5) (tTest (tOp rIsN (tOp (rIx K) (tVar 3) (tVar 5)) (tC .non))) (tVar 5) [5]) (gName 4)) tNext) (tRet (tCB (rTupO K) (tCons (tVar 4) tNil))))))
/-- next_reading -/
abbrev N_next_reading : List Str := ["net", "flow", "mark", "index", "reading"]
def t_next_reading (K : PySem.W.Frag) : TS :=
  (tSeq (tFor (iEnumT K (tCons (tOp (rIx K) (tVar 0) (tC (.int 2))) tNil)) (gTup K 2 (gCons (gName 3) (gCons (gName 4) gNil))) (tIfS (tOr (tAnd (tTest (tOp rEq (tOp (rIx K) (tVar 4) (tC (.int 0))) (tVar 2))) (tTest (tOp rEq (tOp (rIx K) (tVar 1) (tVar 3)) (tC (.int 1))))) (tAnd (tTest (tOp rEq (tOp (rIx K) (tVar 4) (tC (.int 1))) (tVar 2))) (tTest (tOp rEq (tOp (rIx K) (tVar 1) (tVar 3)) (tUn rNeg (tC (.int 1))))))) (tRet (tVar 3)) tNext)) (tRet (tUn rNeg (tC (.int 1)))))
/-- ways_of -/
abbrev N_ways_of : List Str := ["net", "flow", "start", "end", "ways", "mark", "way", "index", "one", "other", "_"]
def t_ways_of (K : PySem.W.Frag) : TS :=
  (tSeq (tAsg (tCB (rLstO K) (tCons (tVar 1) tNil)) (gName 1)) (tSeq (tAsg (tLst tNil) (gName 4)) (tSeq (tWhile (tTest (tOp rGe (tCal (sp_next_reading K) E0 (tCons (tVar 0) (tCons (tVar 1) (tCons (tVar 2) tNil)))) (tC (.int 0)))) (tSeq (tAsg (tVar 2) (gName 5)) (tSeq (tAsg (tLst tNil) (gName 6)) (tSeq (tWhile (tTest (tOp rNe (tVar 5) (tVar 3))) (tSeq (tAsg (tCal (sp_next_reading K) E0 (tCons (tVar 0) (tCons (tVar 1) (tCons (tVar 5) tNil)))) (gName 7)) (tSeq (tAsg (tOp (rIx K) (tOp (rIx K) (tVar 0) (tC (.int 2))) (tVar 7)) (gTup K 3 (gCons (gName 8) (gCons (gName 9) (gCons (gName 10) gNil))))) (tSeq (tDrop (tBM K "list" rAppend (tVar 6) (tCons (tVar 7) tNil))) (tSeq (tAsg (tC (.int 0)) (gSub (tVar 1) (tVar 7) rSetL)) (tAsg (tOp rMinus (tOp rPlus (tVar 8) (tVar 9)) (tVar 5)) (gName 5))))))) (tDrop (tBM K "list" rAppend (tVar 4) (tCons (tCB (rTupO K) (tCons (tVar 6) tNil)) tNil))))))) (tRet (tCB (rTupO K) (tCons (tVar 4) tNil))))))
/-- least_cut -/
abbrev N_least_cut : List Str := ["net", "one", "other", "flow"]
def t_least_cut (K : PySem.W.Frag) : TS :=
  (tSeq (tAsg (tCal (sp_greatest_flow K) E0 (tCons (tVar 0) (tCons (tVar 1) (tCons (tVar 2) tNil)))) (gName 3)) (tRet (tTup (tCons (tCal (sp_side_of K) E0 (tCons (tVar 0) (tCons (tVar 3) (tCons (tVar 1) tNil)))) (tCons (tCal (sp_ways_of K) E0 (tCons (tVar 0) (tCons (tVar 3) (tCons (tVar 1) (tCons (tVar 2) tNil))))) tNil)))))
/-- strength_paper -/
abbrev N_strength_paper : List Str := ["net", "cuts", "mark", "least", "place", "cut"]
def t_strength_paper (K : PySem.W.Frag) : TS :=
  (tSeq (tIfS (tTest (tOp rEq (tCB (rLenQ K) (tCons (tOp (rIx K) (tVar 0) (tC (.int 1))) tNil)) (tC (.int 1)))) (tRet (tTup (tCons (tC (.str "strength")) (tCons (tUn rNeg (tC (.int 1))) (tCons (tTup tNil) (tCons (tTup tNil) tNil)))))) tNext) (tSeq (tAsg (tLc (iRng2 (tCons (tC (.int 1)) (tCons (tCB (rLenQ K) (tCons (tOp (rIx K) (tVar 0) (tC (.int 1))) tNil)) tNil))) (gName 2) tYes (tCal (sp_least_cut K) E0 (tCons (tVar 0) (tCons (tC (.int 0)) (tCons (tVar 2) tNil)))) [2]) (gName 1)) (tSeq (tAsg (tCB (rMinD K) (tCons (tLc (iEnum K (tCons (tVar 1) tNil)) (gTup K 2 (gCons (gName 4) (gCons (gName 5) gNil))) tYes (tTup (tCons (tCB (rLenQ K) (tCons (tOp (rIx K) (tVar 5) (tC (.int 1))) tNil)) (tCons (tVar 4) tNil))) [4, 5]) tNil)) (gTup K 2 (gCons (gName 3) (gCons (gName 4) gNil)))) (tRet (tTup (tCons (tC (.str "strength")) (tCons (tVar 3) (tCons (tOp (rIx K) (tOp (rIx K) (tVar 1) (tVar 4)) (tC (.int 0))) (tCons (tCB (rTupO K) (tCons (tLc (iList K (tVar 1)) (gName 5) tYes (tSl (rSlA K) (tOp (rIx K) (tVar 5) (tC (.int 1))) tNoPart (tPart (tVar 3))) [5]) tNil)) tNil)))))))))
/-- strength -/
abbrev N_strength : List Str := ["net"]
def t_strength (K : PySem.W.Frag) : TS :=
  (tRet (tOp (rIx K) (tCal (sp_strength_paper K) E0 (tCons (tVar 0) tNil)) (tC (.int 1))))
/-- check_worlds -/
abbrev N_check_worlds : List Str := ["net", "k"]
def t_check_worlds (K : PySem.W.Frag) (C : Addr) (E : XK) : TS :=
  (tIfS (tAnd (tTest (tOp rGt (tCB (rLenQ K) (tCons (tOp (rIx K) (tVar 0) (tC (.int 1))) tNil)) (tC (.int 1)))) (tTest (tOp rLt (tCal (sp_strength K) E0 (tCons (tVar 0) tNil)) (tOp rPlus (tVar 1) (tC (.int 1)))))) (tRaiseBS C E) tNext)
/-- count_lies -/
abbrev N_count_lies : List Str := ["net", "heights", "many", "start", "end", "value"]
def t_count_lies (K : PySem.W.Frag) : TS :=
  (tSeq (tAsg (tC (.int 0)) (gName 2)) (tSeq (tFor (iTup K (tOp (rIx K) (tVar 0) (tC (.int 2)))) (gTup K 3 (gCons (gName 3) (gCons (gName 4) (gCons (gName 5) gNil)))) (tIfS (tAnd (tTest (tOp rNotN (tOp (rIx K) (tVar 1) (tVar 3)) (tC .non))) (tTest (tOp rNotN (tOp (rIx K) (tVar 1) (tVar 4)) (tC .non)))) (tAsg (tOp rPlus (tVar 2) (tCB rInt1 (tCons (tOp rNe (tOp rMinus (tOp (rIx K) (tVar 1) (tVar 4)) (tOp (rIx K) (tVar 1) (tVar 3))) (tVar 5)) tNil))) (gName 2)) tNext)) (tRet (tVar 2))))
/-- height_by -/
abbrev N_height_by : List Str := ["reading", "heights", "start", "end", "value"]
def t_height_by (K : PySem.W.Frag) : TS :=
  (tSeq (tAsg (tVar 0) (gTup K 3 (gCons (gName 2) (gCons (gName 3) (gCons (gName 4) gNil))))) (tSeq (tIfS (tAnd (tTest (tOp rNotN (tOp (rIx K) (tVar 1) (tVar 2)) (tC .non))) (tTest (tOp rIsN (tOp (rIx K) (tVar 1) (tVar 3)) (tC .non)))) (tRet (tTup (tCons (tVar 3) (tCons (tOp rPlus (tOp (rIx K) (tVar 1) (tVar 2)) (tVar 4)) tNil)))) tNext) (tSeq (tIfS (tAnd (tTest (tOp rIsN (tOp (rIx K) (tVar 1) (tVar 2)) (tC .non))) (tTest (tOp rNotN (tOp (rIx K) (tVar 1) (tVar 3)) (tC .non)))) (tRet (tTup (tCons (tVar 2) (tCons (tOp rMinus (tOp (rIx K) (tVar 1) (tVar 3)) (tVar 4)) tNil)))) tNext) (tRet (tC .non)))))
/-- further -/
abbrev N_further : List Str := ["net", "k", "heights", "told", "reading", "left", "found", "pair", "more"]
def t_further (K : PySem.W.Frag) : TS :=
  (tSeq (tAsg (tLc (iTup K (tOp (rIx K) (tVar 0) (tC (.int 2)))) (gName 4) tYes (tCal (sp_height_by K) E0 (tCons (tVar 4) (tCons (tVar 2) tNil))) [4]) (gName 3)) (tSeq (tAsg (tOp rMinus (tVar 1) (tCal (sp_count_lies K) E0 (tCons (tVar 0) (tCons (tVar 2) tNil)))) (gName 5)) (tSeq (tAsg (tLst tNil) (gName 6)) (tSeq (tFor (iList K (tSl (rSlL K) (tLc (iList K (tVar 3)) (gName 7) (tTest (tOp rNotN (tVar 7) (tC .non))) (tVar 7) [7]) tNoPart (tPart (tOp rPlus (tVar 5) (tC (.int 1)))))) (gName 7) (tSeq (tAsg (tOp (rCatA K) (tOp (rCatA K) (tSl (rSlA K) (tVar 2) tNoPart (tPart (tOp (rIx K) (tVar 7) (tC (.int 0))))) (tTup (tCons (tOp (rIx K) (tVar 7) (tC (.int 1))) tNil))) (tSl (rSlA K) (tVar 2) (tPart (tOp rPlus (tOp (rIx K) (tVar 7) (tC (.int 0))) (tC (.int 1)))) tNoPart)) (gName 8)) (tIfS (tAnd (tTest (tOp (rNotInD K) (tVar 8) (tVar 6))) (tTest (tOp rLe (tCal (sp_count_lies K) E0 (tCons (tVar 0) (tCons (tVar 8) tNil))) (tVar 1)))) (tDrop (tBM K "list" rAppend (tVar 6) (tCons (tVar 8) tNil))) tNext))) (tRet (tVar 6))))))
/-- known_key -/
abbrev N_known_key : List Str := ["heights", "height"]
def t_known_key (K : PySem.W.Frag) : TS :=
  (tRet (tCB (rTupO K) (tCons (tLc (iTup K (tVar 0)) (gName 1) tYes (tTup (tCons (tOp rNotN (tVar 1) (tC .non)) (tCons (tOrT K (tVar 1) (tC (.int 0))) tNil))) [1]) tNil)))
/-- worlds -/
abbrev N_worlds : List Str := ["net", "k", "rows", "turn", "more", "heights", "grown"]
def t_worlds (K : PySem.W.Frag) (C : Addr) (E : XK) : TS :=
  (tSeq (tDrop (tCal (sp_check_worlds K C) E (tCons (tVar 0) (tCons (tVar 1) tNil)))) (tSeq (tAsg (tLst (tCons (tOp (rCatA K) (tTup (tCons (tC (.int 0)) tNil)) (tOp (rRepA K) (tTup (tCons (tC .non) tNil)) (tOp rMinus (tCB (rLenQ K) (tCons (tOp (rIx K) (tVar 0) (tC (.int 1))) tNil)) (tC (.int 1))))) tNil)) (gName 2)) (tSeq (tFor (iRng1 (tCons (tOp rMinus (tCB (rLenQ K) (tCons (tOp (rIx K) (tVar 0) (tC (.int 1))) tNil)) (tC (.int 1))) tNil)) (gName 3) (tSeq (tAsg (tLst tNil) (gName 4)) (tSeq (tFor (iList K (tVar 2)) (gName 5) (tFor (iList K (tCal (sp_further K) E0 (tCons (tVar 0) (tCons (tVar 1) (tCons (tVar 5) tNil))))) (gName 6) (tIfS (tTest (tOp (rNotInD K) (tVar 6) (tVar 4))) (tDrop (tBM K "list" rAppend (tVar 4) (tCons (tVar 6) tNil))) tNext))) (tAsg (tSortK K (sp_known_key K) (tCons (tVar 4) tNil)) (gName 2))))) (tSeq (tIfS (tTest (tOp rGt (tCB (rLenQ K) (tCons (tVar 2) tNil)) (tC (.int 200)))) (tRaiseBS C E) tNext) (tRet (tCB (rTupO K) (tCons (tVar 2) tNil)))))))
/-- verdicts -/
abbrev N_verdicts : List Str := ["net", "k", "told", "heights", "index"]
def t_verdicts (K : PySem.W.Frag) (C : Addr) (E : XK) : TS :=
  (tSeq (tAsg (tLc (iTup K (tCal (sp_worlds K C) E (tCons (tVar 0) (tCons (tVar 1) tNil)))) (gName 3) tYes (tCal (sp_lies K) E0 (tCons (tVar 0) (tCons (tVar 3) tNil))) [3]) (gName 2)) (tSeq (tIfS (tTest (tOp (rEqD K) (tVar 2) (tLst tNil))) (tRet (tTup tNil)) tNext) (tRet (tCB (rTupO K) (tCons (tLc (iRng1 (tCons (tCB (rLenQ K) (tCons (tOp (rIx K) (tVar 0) (tC (.int 2))) tNil)) tNil)) (gName 4) tYes (tCal (sp_verdict_of K) E0 (tCons (tVar 4) (tCons (tVar 2) tNil))) [4]) tNil)))))
/-- _law_refused -/
abbrev N_law_refused : List Str := ["_law_net_here", "_law_k", "_law_many"]
def t_law_refused (K : PySem.W.Frag) (C : Addr) : TS :=
  (tSeq (tAsg (tC (.int 0)) (gName 2)) (tSeq (tTryBS K C (sp_worlds K C) (tCons (tVar 0) (tCons (tVar 1) tNil)) (tAsg (tOp rPlus (tVar 2) (tC (.int 1))) (gName 2))) (tSeq (tTryBS K C (sp_verdicts K C) (tCons (tVar 0) (tCons (tVar 1) tNil)) (tAsg (tOp rPlus (tVar 2) (tC (.int 1))) (gName 2))) (tRet (tOp rEq (tVar 2) (tC (.int 2)))))))
/-- _law_cut -/
abbrev N_law_cut : List Str := ["_law_net_here", "_law_side", "_law_k"]
def t_law_cut (K : PySem.W.Frag) : TS :=
  (tRet (tLc (iRng1 (tCons (tCB (rLenQ K) (tCons (tOp (rIx K) (tVar 0) (tC (.int 2))) tNil)) tNil)) (gName 2) (tTest (tOp rNe (tOp (rIn K false) (tOp (rIx K) (tOp (rIx K) (tOp (rIx K) (tVar 0) (tC (.int 2))) (tVar 2)) (tC (.int 0))) (tVar 1)) (tOp (rIn K false) (tOp (rIx K) (tOp (rIx K) (tOp (rIx K) (tVar 0) (tC (.int 2))) (tVar 2)) (tC (.int 1))) (tVar 1)))) (tVar 2) [2]))
/-- _law_sides -/
abbrev N_law_sides : List Str := ["_law_many", "_law_sides_here", "_law_mark", "_law_side"]
def t_law_sides (K : PySem.W.Frag) : TS :=
  (tSeq (tAsg (tLst (tCons (tTup tNil) tNil)) (gName 1)) (tSeq (tFor (iRng2 (tCons (tC (.int 1)) (tCons (tVar 0) tNil))) (gName 2) (tAsg (tOp rCat (tVar 1) (tLc (iList K (tVar 1)) (gName 3) tYes (tOp (rCatA K) (tVar 3) (tTup (tCons (tVar 2) tNil))) [3])) (gName 1))) (tRet (tLc (iList K (tVar 1)) (gName 3) (tTest (tOp (rNeD K) (tVar 3) (tTup tNil))) (tVar 3) [3]))))
/-- _law_strength -/
abbrev N_law_strength : List Str := ["_law_net_here", "_law_side"]
def t_law_strength (K : PySem.W.Frag) : TS :=
  (tSeq (tIfS (tTest (tOp rEq (tCB (rLenQ K) (tCons (tOp (rIx K) (tVar 0) (tC (.int 1))) tNil)) (tC (.int 1)))) (tRet (tUn rNeg (tC (.int 1)))) tNext) (tRet (tCB (rMin K) (tCons (tLc (iList K (tCal (sp_law_sides K) E0 (tCons (tCB (rLenQ K) (tCons (tOp (rIx K) (tVar 0) (tC (.int 1))) tNil)) tNil))) (gName 1) tYes (tCB (rLenQ K) (tCons (tCal (sp_law_cut K) E0 (tCons (tVar 0) (tCons (tVar 1) tNil))) tNil)) [1]) tNil))))
/-- is_world -/
abbrev N_is_world : List Str := ["net", "k", "heights"]
def t_is_world (K : PySem.W.Frag) : TS :=
  (tRet (tOp rLe (tCB (rLenQ K) (tCons (tCal (sp_lies K) E0 (tCons (tVar 0) (tCons (tVar 2) tNil))) tNil)) (tVar 1)))
/-- law -/
abbrev N_law : List Str := ["_law_script", "_law_box", "_law_net_here", "_law_k", "_law_due", "_law_words", "_law_index", "_law_many", "_law_heights_here", "_law_word", "_law_turn"]
def t_law (K : PySem.W.Frag) (C : Addr) : TS :=
  (tSeq (tAsg (tLst (tCons (tCal (sp_law_digits K) E0 (tCons (tVar 0) (tCons (tC (.int 0)) (tCons (tC (.int 63)) tNil)))) (tCons (tC (.int 0)) tNil))) (gName 1)) (tSeq (tAsg (tCal (sp_law_net K) E0 (tCons (tVar 1) (tCons (tC (.int 5)) (tCons (tC (.int 9)) tNil)))) (gName 2)) (tSeq (tAsg (tCal (sp_law_draw K) E0 (tCons (tVar 1) (tCons (tC (.int 4)) tNil))) (gName 3)) (tSeq (tIfS (tTest (tOp rLt (tCal (sp_law_strength K) E0 (tCons (tVar 2) tNil)) (tOp rPlus (tVar 3) (tC (.int 1))))) (tRet (tCal (sp_law_refused K) E0 (tCons (tVar 2) (tCons (tVar 3) tNil)))) tNext) (tSeq (tAsg (tCal (sp_law_all_worlds K) E0 (tCons (tVar 2) (tCons (tVar 3) tNil))) (gName 4)) (tSeq (tIfS (tTest (tOp rGt (tCB (rLenQ K) (tCons (tVar 4) tNil)) (tC (.int 200)))) (tRet (tC (.bl true))) tNext) (tSeq (tIfS (tTest (tOp (rNeD K) (tCal (sp_worlds K C) E0 (tCons (tVar 2) (tCons (tVar 3) tNil))) (tVar 4))) (tRet (tC (.bl false))) tNext) (tSeq (tAsg (tLst tNil) (gName 5)) (tSeq (tFor (iRng1 (tCons (tCB (rLenQ K) (tCons (tOp (rIx K) (tVar 2) (tC (.int 2))) tNil)) tNil)) (gName 6) (tSeq (tAsg (tCB (rLenQ K) (tCons (tLc (iTup K (tVar 4)) (gName 8) (tTest (tOp (rIn K false) (tVar 6) (tCal (sp_law_lies K) E0 (tCons (tVar 2) (tCons (tVar 8) tNil))))) (tVar 8) [8]) tNil)) (gName 7)) (tSeq (tAsg (tC (.str "open")) (gName 9)) (tSeq (tIfS (tTest (tOp rEq (tVar 7) (tC (.int 0)))) (tAsg (tC (.str "kept")) (gName 9)) (tIfS (tTest (tOp rEq (tVar 7) (tCB (rLenQ K) (tCons (tVar 4) tNil)))) (tAsg (tC (.str "lies")) (gName 9)) tNext)) (tDrop (tBM K "list" rAppend (tVar 5) (tCons (tVar 9) tNil))))))) (tSeq (tIfS (tTest (tOp (rNeD K) (tCal (sp_verdicts K C) E0 (tCons (tVar 2) (tCons (tVar 3) tNil))) (tOp (rRepA K) (tCB (rTupO K) (tCons (tVar 5) tNil)) (tCB rInt1 (tCons (tOp (rNeD K) (tVar 4) (tTup tNil)) tNil))))) (tRet (tC (.bl false))) tNext) (tSeq (tFor (iRng1 (tCons (tC (.int 4)) tNil)) (gName 10) (tSeq (tAsg (tCal (sp_law_heights K) E0 (tCons (tVar 1) (tCons (tCB (rLenQ K) (tCons (tOp (rIx K) (tVar 2) (tC (.int 1))) tNil)) tNil))) (gName 8)) (tSeq (tIfS (tAnd (tTest (tOp (rNeD K) (tVar 4) (tTup tNil))) (tTest (tOp rEq (tCal (sp_law_draw K) E0 (tCons (tVar 1) (tCons (tC (.int 2)) tNil))) (tC (.int 0))))) (tAsg (tCal (sp_law_pick K) E0 (tCons (tVar 1) (tCons (tVar 4) tNil))) (gName 8)) tNext) (tIfS (tTest (tOp rNe (tCal (sp_is_world K) E0 (tCons (tVar 2) (tCons (tVar 3) (tCons (tVar 8) tNil)))) (tOp rLe (tCB (rLenQ K) (tCons (tCal (sp_law_lies K) E0 (tCons (tVar 2) (tCons (tVar 8) tNil))) tNil)) (tVar 3)))) (tRet (tC (.bl false))) tNext)))) (tRet (tC (.bl true))))))))))))))
end K11
end

/-! ## K11Der -/
section
set_option maxHeartbeats 4000000
/-! Each def's body is read as told, printed by gen.py. -/
namespace K11
open PySem PySem.Spec PyProof.Rows L2

def top (i : Nat) : Stmt := PySem.Challenge.pw_truelevels_k11_all_worlds.main.body.getD i (.Pass ⟨0, 0, 0, 0⟩)
structure Bl (mg : Str → Option Value) : Prop where
  len : mg "len" = none
  enumerate : mg "enumerate" = none
  tuple : mg "tuple" = none
  list : mg "list" = none
  range : mg "range" = none
  min : mg "min" = none
  int : mg "int" = none
  sorted : mg "sorted" = none
  dict : mg "dict" = none
/-- the scope of a comprehension that is a tuple's argument in another one -/
def lcScope : Expr → Scope
  | .ListComp _ _ sc _ => sc
  | _ => { kind := .function, names := [], isGenerator := false, isCoroutine := false }
def asgVal : Stmt → Expr
  | .Assign _ e _ => e
  | _ => .Constant .none 0 ⟨0, 0, 0, 0⟩
abbrev s_law_few : Stmt := top 47
abbrev s_law_all_worlds : Stmt := top 46
abbrev s_law_cell : Stmt := top 28
abbrev s_law_digits : Stmt := top 29
abbrev s_law_draw : Stmt := top 30
abbrev s_law_heights : Stmt := top 33
abbrev s_law_misses : Stmt := top 43
abbrev s_law_lies : Stmt := top 44
abbrev s_law_names : Stmt := top 34
abbrev s_law_kept_net : Stmt := top 35
abbrev s_law_changed : Stmt := top 36
abbrev s_law_some : Stmt := top 37
abbrev s_law_lied : Stmt := top 38
abbrev s_law_pick : Stmt := top 31
abbrev s_law_pairs : Stmt := top 32
abbrev s_law_net : Stmt := top 39
abbrev s_miss_of : Stmt := top 13
abbrev s_misses : Stmt := top 14
abbrev s_lies : Stmt := top 15
abbrev s_verdict_of : Stmt := top 25
abbrev s_search : Stmt := top 1
abbrev s_greatest_flow : Stmt := top 2
abbrev s_side_of : Stmt := top 5
abbrev s_next_reading : Stmt := top 3
abbrev s_ways_of : Stmt := top 4
abbrev s_least_cut : Stmt := top 6
abbrev s_strength_paper : Stmt := top 7
abbrev s_strength : Stmt := top 8
abbrev s_check_worlds : Stmt := top 22
abbrev s_count_lies : Stmt := top 20
abbrev s_height_by : Stmt := top 19
abbrev s_further : Stmt := top 21
abbrev s_known_key : Stmt := top 24
abbrev s_worlds : Stmt := top 23
abbrev s_verdicts : Stmt := top 26
abbrev s_law_refused : Stmt := top 48
abbrev s_law_cut : Stmt := top 41
abbrev s_law_sides : Stmt := top 40
abbrev s_law_strength : Stmt := top 42
abbrev s_is_world : Stmt := top 18
abbrev s_law : Stmt := top 49
theorem sc_law_few : FnScope N_law_few ["_law_net_here", "_law_row", "_law_k"] (defScope s_law_few) := ⟨rfl, rfl, rfl, by decide +kernel, rfl, by decide +kernel, by decide +kernel⟩
theorem ok_law_few {P : Program} {w : World} {K : PySem.W.Frag} {mg : Str → Option Value} {base : Heap} (D : DefAt K mg "_law_few" s_law_few) (B : Bl mg) 
    (rd : ∀ (vs : List V) (H : Hp) (Q : VK) (E : XK), (sp_law_few K) vs H Q E → t_law_few K { nx := fun _ H' => Q .non H', rt := Q } (start N_law_few vs) H) : Cal P w K mg base CX0 1 "_law_few" ["_law_net_here", "_law_row", "_law_k"] (sp_law_few K) := by
  refine mk_cal (N := N_law_few) D sc_law_few (fun _ _ _ _ _ _ us hl => match us, hl with | [_, _, _], _ => rfl) (fun vs H Q E h => ?_) (fun f cdv A outer s H vs Q E hr h => ?_)
  · first
      | (obtain ⟨_, hd, _⟩ := h; exact dpAll_len hd)
      | (obtain ⟨_, _, hd, _⟩ := h; exact dpAll_len hd)
      | (obtain ⟨_, _, _, hd, _⟩ := h; exact dpAll_len hd)
      | (obtain ⟨_, _, _, _, hd, _⟩ := h; exact dpAll_len hd)
      | (obtain ⟨_, rfl, _⟩ := h; rfl)
      | (obtain ⟨_, _, rfl, _⟩ := h; rfl)
      | (obtain ⟨_, _, _, rfl, _⟩ := h; rfl)
      | (obtain ⟨_, _, _, _, rfl, _⟩ := h; rfl)
      | (obtain ⟨_, _, _, _, _, rfl, _⟩ := h; rfl)
  · have nd := (sc_law_few).nd
    have hu := hu_of hr
    exact ⟨t_law_few K, (pss_cons (ps_setLc (i := 3) (own := [("_law_a", 4), ("_law_b", 5), ("_law_value", 6)]) (g := (gTup K 3 (gCons (gName 4) (gCons (gName 5) (gCons (gName 6) gNil))))) (tt := (tAnd (tB (tDIn (tVar 4) (tVar 1))) (tB (tDIn (tVar 5) (tVar 1))))) rfl nd rfl rfl (sw_true rfl rfl rfl (by decide +kernel)) (pi_tup (pe_ix ix_seq (pv 0) pe_int (fun _ _ => rfl))) (blkOk_by (N := N_law_few) (sc := defScope s_law_few) (by decide +kernel)) (fun _ _ _ _ _ => (pg_tup rfl (pgs_cons (pg_name (i := 4) nd rfl (Or.inl rfl)) (pgs_cons (pg_name (i := 5) nd rfl (Or.inl rfl)) (pgs_cons (pg_name (i := 6) nd rfl (Or.inl rfl)) pgs_nil))))) (fun _ _ _ _ _ => (pts_one (PW.pt (pw_and (pt_cmp (pc_din hu (pv 4) (pv 1))) (pw_and1 (pt_cmp (pc_din hu (pv 5) (pv 1)))))))) (fun _ _ _ _ _ => (pe_op op_add (pe_op op_sub (pv 6) (pe_dget hu (pv 1) (pv 5) (fun _ _ => rfl))) (pe_dget hu (pv 1) (pv 4) (fun _ _ => rfl))))) (pss_one (ps_ret (pe_cmpR op_le (pe_callB call_len_seq (by rfl) B.len PySem.boot_len (pa_cons (pe_lc (own := [("_law_miss", 7)]) (g := (gName 7)) (tt := (tTest (tOp rNe (tVar 7) (tC (.int 0))))) rfl nd (pi_list (pv 3)) (blkOk_by (N := N_law_few) (sc := defScope s_law_few) (by decide +kernel)) (fun _ _ _ _ _ => (pg_name (i := 7) nd rfl (Or.inl rfl))) (fun _ _ _ _ _ => (pts_one (pt_cmpR op_ne (pv 7) pe_int (nomark _)))) (fun _ _ _ _ _ => (pv 7))) pa_nil)) (pv 2) (nomark _))))), rd vs H Q E h⟩
theorem sc_law_all_worlds : FnScope N_law_all_worlds ["_law_net_here", "_law_k"] (defScope s_law_all_worlds) := ⟨rfl, rfl, rfl, by decide +kernel, rfl, by decide +kernel, by decide +kernel⟩
theorem ok_law_all_worlds {P : Program} {w : World} {K : PySem.W.Frag} {mg : Str → Option Value} {base : Heap} (D : DefAt K mg "_law_all_worlds" s_law_all_worlds) (B : Bl mg) (C_law_few : Cal P w K mg base CX0 1 "_law_few" ["_law_net_here", "_law_row", "_law_k"] (sp_law_few K))
    (rd : ∀ (vs : List V) (H : Hp) (Q : VK) (E : XK), (sp_law_all_worlds K) vs H Q E → t_law_all_worlds K { nx := fun _ H' => Q .non H', rt := Q } (start N_law_all_worlds vs) H) : Cal P w K mg base CX0 2 "_law_all_worlds" ["_law_net_here", "_law_k"] (sp_law_all_worlds K) := by
  refine mk_cal (N := N_law_all_worlds) D sc_law_all_worlds (fun _ _ _ _ _ _ us hl => match us, hl with | [_, _], _ => rfl) (fun vs H Q E h => ?_) (fun f cdv A outer s H vs Q E hr h => ?_)
  · first
      | (obtain ⟨_, hd, _⟩ := h; exact dpAll_len hd)
      | (obtain ⟨_, _, hd, _⟩ := h; exact dpAll_len hd)
      | (obtain ⟨_, _, _, hd, _⟩ := h; exact dpAll_len hd)
      | (obtain ⟨_, _, _, _, hd, _⟩ := h; exact dpAll_len hd)
      | (obtain ⟨_, rfl, _⟩ := h; rfl)
      | (obtain ⟨_, _, rfl, _⟩ := h; rfl)
      | (obtain ⟨_, _, _, rfl, _⟩ := h; rfl)
      | (obtain ⟨_, _, _, _, rfl, _⟩ := h; rfl)
      | (obtain ⟨_, _, _, _, _, rfl, _⟩ := h; rfl)
  · have nd := (sc_law_all_worlds).nd
    have hu := hu_of hr
    exact ⟨t_law_all_worlds K, (pss_cons (ps_set (i := 2) nd rfl (Or.inr rfl) (pe_callB call_len_seq (by rfl) B.len PySem.boot_len (pa_cons (pe_ix ix_seq (pv 0) pe_int (fun _ _ => rfl)) pa_nil))) (pss_cons (ps_set (i := 3) nd rfl (Or.inl rfl) (pe_lst (pa_cons (pe_disp1 pe_int pe_int) pa_nil))) (pss_cons (ps_for PassesOwn.never rfl (pi_range1 (by rfl) B.range (pa_cons (pe_op op_sub (pv 2) pe_int) pa_nil)) (pg_name (i := 4) nd rfl (Or.inl rfl)) (pss_cons (ps_set (i := 5) nd rfl (Or.inl rfl) (pe_lst pa_nil)) (pss_cons (ps_for PassesOwn.never rfl (pi_list (pv 3)) (pg_name (i := 6) nd rfl (Or.inl rfl)) (pss_one (ps_for PassesOwn.never rfl (pi_tup (pe_ix ix_seq (pv 0) pe_int (fun _ _ => rfl))) (pg_tup rfl (pgs_cons (pg_name (i := 7) nd rfl (Or.inl rfl)) (pgs_cons (pg_name (i := 8) nd rfl (Or.inl rfl)) (pgs_cons (pg_name (i := 9) nd rfl (Or.inl rfl)) pgs_nil)))) (pss_cons (ps_set (i := 10) nd rfl (Or.inl rfl) (pe_callTy call_dictD (by rfl) B.dict (by decide +kernel) (pa_cons (pv 6) pa_nil))) (pss_cons (ps_if (PW.pt (pw_and (pt_cmp (pc_din hu (pv 7) (pv 6))) (pw_and1 (pt_cmp (pc_dnotin hu (pv 8) (pv 6)))))) (pss_one (ps_dput hu (pv 10) (pv 8) (pe_op op_add (pe_dget hu (pv 6) (pv 7) (fun _ _ => rfl)) (pv 9)) rfl)) (pss_one (ps_if (PW.pt (pw_and (pt_cmp (pc_din hu (pv 8) (pv 6))) (pw_and1 (pt_cmp (pc_dnotin hu (pv 7) (pv 6)))))) (pss_one (ps_dput hu (pv 10) (pv 7) (pe_op op_sub (pe_dget hu (pv 6) (pv 8) (fun _ _ => rfl)) (pv 9)) rfl)) pss_nil))) (pss_one (ps_if (PW.pt (pw_and (pt_cmpR op_gt (pe_callB call_lenD (by rfl) B.len PySem.boot_len (pa_cons (pv 10) pa_nil)) (pe_callB call_lenD (by rfl) B.len PySem.boot_len (pa_cons (pv 6) pa_nil)) (nomark _)) (pw_and (pt_cmpR (op_notInDs hr.units) (pv 10) (pv 5) (by rfl)) (pw_and1 (pt_val (pe_cal C_law_few (hr.mono (by decide)) (by rfl) pass0 (pa_cons (pv 0) (pa_cons (pv 10) (pa_cons (pv 1) pa_nil))))))))) (pss_one (ps_expr (pe_bm PySem.F.plainAttrs_list PySem.F.slot_list_append PySem.F.type_list_append mt_append (pv 5) (pa_cons (pv 10) pa_nil)))) pss_nil))))))) (pss_one (ps_set (i := 3) nd rfl (Or.inl rfl) (pv 5)))))) (pss_cons (ps_setLc (i := 11) (own := [("_law_row", 6)]) (g := (gName 6)) (tt := tYes) rfl nd rfl rfl (sw_true rfl rfl rfl (by decide +kernel)) (pi_list (pv 3)) (blkOk_by (N := N_law_all_worlds) (sc := defScope s_law_all_worlds) (by decide +kernel)) (fun _ _ _ _ _ => (pg_name (i := 6) nd rfl (Or.inr rfl))) (fun _ _ _ _ _ => pts_nil) (fun _ _ _ _ _ => (pe_callTy call_tuple_of (by rfl) B.tuple (by decide +kernel) (pa_cons (pe_lc (own := [("_law_mark", 12)]) (g := (gName 12)) (tt := tYes) rfl nd (pi_range1 (by rfl) B.range (pa_cons (pv 2) pa_nil)) (blkOk_by (N := N_law_all_worlds) (sc := relS (lcScope (asgVal ((defBody s_law_all_worlds).getD 3 (.Pass ⟨0, 0, 0, 0⟩)))) (defScope s_law_all_worlds)) (by decide +kernel)) (fun _ _ _ _ _ => (pg_name (i := 12) nd rfl (Or.inl rfl))) (fun _ _ _ _ _ => pts_nil) (fun _ _ _ _ _ => (pe_dget hu (pv 6) (pv 12) (fun _ _ => rfl)))) pa_nil)))) (pss_one (ps_ret (pe_callTy call_tuple_of (by rfl) B.tuple (by decide +kernel) (pa_cons (pe_callB (cr_sortD hr.units) (by rfl) B.sorted (by decide +kernel) (pa_cons (pv 11) pa_nil)) pa_nil)))))))), rd vs H Q E h⟩
theorem sc_law_cell : FnScope N_law_cell ["_law_script", "_law_k"] (defScope s_law_cell) := ⟨rfl, rfl, rfl, by decide +kernel, rfl, by decide +kernel, by decide +kernel⟩
theorem ok_law_cell {P : Program} {w : World} {K : PySem.W.Frag} {mg : Str → Option Value} {base : Heap} (D : DefAt K mg "_law_cell" s_law_cell) (B : Bl mg) 
    (rd : ∀ (vs : List V) (H : Hp) (Q : VK) (E : XK), (sp_law_cell K) vs H Q E → t_law_cell K { nx := fun _ H' => Q .non H', rt := Q } (start N_law_cell vs) H) : Cal P w K mg base CX0 1 "_law_cell" ["_law_script", "_law_k"] (sp_law_cell K) := by
  refine mk_cal (N := N_law_cell) D sc_law_cell (fun _ _ _ _ _ _ us hl => match us, hl with | [_, _], _ => rfl) (fun vs H Q E h => ?_) (fun f cdv A outer s H vs Q E hr h => ?_)
  · first
      | (obtain ⟨_, hd, _⟩ := h; exact dpAll_len hd)
      | (obtain ⟨_, _, hd, _⟩ := h; exact dpAll_len hd)
      | (obtain ⟨_, _, _, hd, _⟩ := h; exact dpAll_len hd)
      | (obtain ⟨_, _, _, _, hd, _⟩ := h; exact dpAll_len hd)
      | (obtain ⟨_, rfl, _⟩ := h; rfl)
      | (obtain ⟨_, _, rfl, _⟩ := h; rfl)
      | (obtain ⟨_, _, _, rfl, _⟩ := h; rfl)
      | (obtain ⟨_, _, _, _, rfl, _⟩ := h; rfl)
      | (obtain ⟨_, _, _, _, _, rfl, _⟩ := h; rfl)
  · have nd := (sc_law_cell).nd
    have hu := hu_of hr
    exact ⟨t_law_cell K, (pss_cons (ps_if (pt_cmpR op_lt (pv 1) (pe_callB call_len_seq (by rfl) B.len PySem.boot_len (pa_cons (pv 0) pa_nil)) (nomark _)) (pss_one (ps_ret (pe_ix ix_seq (pv 0) (pv 1) (fun _ _ => rfl)))) pss_nil) (pss_one (ps_ret pe_int))), rd vs H Q E h⟩
theorem sc_law_digits : FnScope N_law_digits ["_law_script", "_law_first", "_law_last"] (defScope s_law_digits) := ⟨rfl, rfl, rfl, by decide +kernel, rfl, by decide +kernel, by decide +kernel⟩
theorem ok_law_digits {P : Program} {w : World} {K : PySem.W.Frag} {mg : Str → Option Value} {base : Heap} (D : DefAt K mg "_law_digits" s_law_digits) (B : Bl mg) (C_law_cell : Cal P w K mg base CX0 1 "_law_cell" ["_law_script", "_law_k"] (sp_law_cell K))
    (rd : ∀ (vs : List V) (H : Hp) (Q : VK) (E : XK), (sp_law_digits K) vs H Q E → t_law_digits K { nx := fun _ H' => Q .non H', rt := Q } (start N_law_digits vs) H) : Cal P w K mg base CX0 2 "_law_digits" ["_law_script", "_law_first", "_law_last"] (sp_law_digits K) := by
  refine mk_cal (N := N_law_digits) D sc_law_digits (fun _ _ _ _ _ _ us hl => match us, hl with | [_, _, _], _ => rfl) (fun vs H Q E h => ?_) (fun f cdv A outer s H vs Q E hr h => ?_)
  · first
      | (obtain ⟨_, hd, _⟩ := h; exact dpAll_len hd)
      | (obtain ⟨_, _, hd, _⟩ := h; exact dpAll_len hd)
      | (obtain ⟨_, _, _, hd, _⟩ := h; exact dpAll_len hd)
      | (obtain ⟨_, _, _, _, hd, _⟩ := h; exact dpAll_len hd)
      | (obtain ⟨_, rfl, _⟩ := h; rfl)
      | (obtain ⟨_, _, rfl, _⟩ := h; rfl)
      | (obtain ⟨_, _, _, rfl, _⟩ := h; rfl)
      | (obtain ⟨_, _, _, _, rfl, _⟩ := h; rfl)
      | (obtain ⟨_, _, _, _, _, rfl, _⟩ := h; rfl)
  · have nd := (sc_law_digits).nd
    have hu := hu_of hr
    exact ⟨t_law_digits K, (pss_cons (ps_set (i := 3) nd rfl (Or.inl rfl) (pe_lst pa_nil)) (pss_cons (ps_for PassesOwn.never rfl (pi_range2 (by rfl) B.range (pa_cons (pv 1) (pa_cons (pv 2) pa_nil))) (pg_name (i := 4) nd rfl (Or.inl rfl)) (pss_cons (ps_set (i := 5) nd rfl (Or.inl rfl) (pe_cal C_law_cell (hr.mono (by decide)) (by rfl) pass0 (pa_cons (pv 0) (pa_cons (pv 4) pa_nil)))) (pss_cons (ps_if (pt_cmpR op_lt (pv 5) pe_int (nomark _)) (pss_one (ps_set (i := 5) nd rfl (Or.inl rfl) (pe_op op_sub pe_int (pe_op op_mul pe_int (pv 5))))) pss_nil) (pss_one (ps_if (pt_cmpR op_ge (pv 5) (pe_op op_pow pe_int pe_int) (nomark _)) (pss_one (ps_for PassesOwn.never rfl (pi_range1 (by rfl) B.range (pa_cons pe_int pa_nil)) (pg_name (i := 6) nd rfl (Or.inl rfl)) (pss_one (ps_if (pt_cmpR op_gt (pv 5) pe_int (nomark _)) (pss_cons (ps_expr (pe_bm PySem.F.plainAttrs_list PySem.F.slot_list_append PySem.F.type_list_append mt_append (pv 3) (pa_cons (pe_op op_mod (pe_callTy call_int1 (by rfl) B.int (by decide +kernel) (pa_cons (pv 5) pa_nil)) pe_int) pa_nil))) (pss_one (ps_set (i := 5) nd rfl (Or.inl rfl) (pe_op op_fdiv (pv 5) pe_int)))) pss_nil)))) (pss_cons (ps_set (i := 7) nd rfl (Or.inl rfl) (pe_op op_mod (pe_callTy call_int1 (by rfl) B.int (by decide +kernel) (pa_cons (pe_op op_add (pe_op op_add (pe_op op_mul (pv 5) pe_int) (pe_op op_mul (pv 4) pe_int)) pe_int) pa_nil)) pe_int)) (pss_one (ps_for PassesOwn.never rfl (pi_range1 (by rfl) B.range (pa_cons pe_int pa_nil)) (pg_name (i := 6) nd rfl (Or.inl rfl)) (pss_cons (ps_set (i := 7) nd rfl (Or.inl rfl) (pe_op op_mod (pe_callTy call_int1 (by rfl) B.int (by decide +kernel) (pa_cons (pe_op op_add (pe_op op_add (pe_op op_mul (pv 7) pe_int) (pe_op op_mul pe_int (pv 6))) pe_int) pa_nil)) pe_int)) (pss_one (ps_expr (pe_bm PySem.F.plainAttrs_list PySem.F.slot_list_append PySem.F.type_list_append mt_append (pv 3) (pa_cons (pe_op op_mod (pe_callTy call_int1 (by rfl) B.int (by decide +kernel) (pa_cons (pe_op op_fdiv (pv 7) pe_int) pa_nil)) pe_int) pa_nil))))))))))))) (pss_one (ps_ret (pv 3))))), rd vs H Q E h⟩
theorem sc_law_draw : FnScope N_law_draw ["_law_box", "_law_many"] (defScope s_law_draw) := ⟨rfl, rfl, rfl, by decide +kernel, rfl, by decide +kernel, by decide +kernel⟩
theorem ok_law_draw {P : Program} {w : World} {K : PySem.W.Frag} {mg : Str → Option Value} {base : Heap} (D : DefAt K mg "_law_draw" s_law_draw) (B : Bl mg) 
    (rd : ∀ (vs : List V) (H : Hp) (Q : VK) (E : XK), (sp_law_draw K) vs H Q E → t_law_draw K { nx := fun _ H' => Q .non H', rt := Q } (start N_law_draw vs) H) : Cal P w K mg base CX0 1 "_law_draw" ["_law_box", "_law_many"] (sp_law_draw K) := by
  refine mk_cal (N := N_law_draw) D sc_law_draw (fun _ _ _ _ _ _ us hl => match us, hl with | [_, _], _ => rfl) (fun vs H Q E h => ?_) (fun f cdv A outer s H vs Q E hr h => ?_)
  · first
      | (obtain ⟨_, hd, _⟩ := h; exact dpAll_len hd)
      | (obtain ⟨_, _, hd, _⟩ := h; exact dpAll_len hd)
      | (obtain ⟨_, _, _, hd, _⟩ := h; exact dpAll_len hd)
      | (obtain ⟨_, _, _, _, hd, _⟩ := h; exact dpAll_len hd)
      | (obtain ⟨_, rfl, _⟩ := h; rfl)
      | (obtain ⟨_, _, rfl, _⟩ := h; rfl)
      | (obtain ⟨_, _, _, rfl, _⟩ := h; rfl)
      | (obtain ⟨_, _, _, _, rfl, _⟩ := h; rfl)
      | (obtain ⟨_, _, _, _, _, rfl, _⟩ := h; rfl)
  · have nd := (sc_law_draw).nd
    have hu := hu_of hr
    exact ⟨t_law_draw K, (pss_cons (ps_set (i := 2) nd rfl (Or.inl rfl) (pe_ix ix_seq (pv 0) pe_int (fun _ _ => rfl))) (pss_cons (ps_asg (pe_op op_add (pv 2) pe_int) (pg_sub (pv 0) pe_int set_list)) (pss_cons (ps_if (pt_cmpR op_lt (pv 2) (pe_callB call_len_seq (by rfl) B.len PySem.boot_len (pa_cons (pe_ix ix_seq (pv 0) pe_int (fun _ _ => rfl)) pa_nil)) (nomark _)) (pss_one (ps_ret (pe_op op_mod (pe_callTy call_int1 (by rfl) B.int (by decide +kernel) (pa_cons (pe_ix ix_seq (pe_ix ix_seq (pv 0) pe_int (fun _ _ => rfl)) (pv 2) (fun _ _ => rfl)) pa_nil)) (pv 1)))) pss_nil) (pss_one (ps_ret (pe_op op_mod (pe_callTy call_int1 (by rfl) B.int (by decide +kernel) (pa_cons (pe_op op_add (pe_op op_mul (pv 2) pe_int) pe_int) pa_nil)) (pv 1))))))), rd vs H Q E h⟩
theorem sc_law_heights : FnScope N_law_heights ["_law_box", "_law_many"] (defScope s_law_heights) := ⟨rfl, rfl, rfl, by decide +kernel, rfl, by decide +kernel, by decide +kernel⟩
theorem ok_law_heights {P : Program} {w : World} {K : PySem.W.Frag} {mg : Str → Option Value} {base : Heap} (D : DefAt K mg "_law_heights" s_law_heights) (B : Bl mg) (C_law_draw : Cal P w K mg base CX0 1 "_law_draw" ["_law_box", "_law_many"] (sp_law_draw K))
    (rd : ∀ (vs : List V) (H : Hp) (Q : VK) (E : XK), (sp_law_heights K) vs H Q E → t_law_heights K { nx := fun _ H' => Q .non H', rt := Q } (start N_law_heights vs) H) : Cal P w K mg base CX0 2 "_law_heights" ["_law_box", "_law_many"] (sp_law_heights K) := by
  refine mk_cal (N := N_law_heights) D sc_law_heights (fun _ _ _ _ _ _ us hl => match us, hl with | [_, _], _ => rfl) (fun vs H Q E h => ?_) (fun f cdv A outer s H vs Q E hr h => ?_)
  · first
      | (obtain ⟨_, hd, _⟩ := h; exact dpAll_len hd)
      | (obtain ⟨_, _, hd, _⟩ := h; exact dpAll_len hd)
      | (obtain ⟨_, _, _, hd, _⟩ := h; exact dpAll_len hd)
      | (obtain ⟨_, _, _, _, hd, _⟩ := h; exact dpAll_len hd)
      | (obtain ⟨_, rfl, _⟩ := h; rfl)
      | (obtain ⟨_, _, rfl, _⟩ := h; rfl)
      | (obtain ⟨_, _, _, rfl, _⟩ := h; rfl)
      | (obtain ⟨_, _, _, _, rfl, _⟩ := h; rfl)
      | (obtain ⟨_, _, _, _, _, rfl, _⟩ := h; rfl)
  · have nd := (sc_law_heights).nd
    have hu := hu_of hr
    exact ⟨t_law_heights K, (pss_one (ps_ret (pe_op op_catA (pe_tup (pa_cons pe_int pa_nil)) (pe_callTy call_tuple_of (by rfl) B.tuple (by decide +kernel) (pa_cons (pe_lc (own := [("_law_k", 2)]) (g := (gName 2)) (tt := tYes) rfl nd (pi_range1 (by rfl) B.range (pa_cons (pe_op op_sub (pv 1) pe_int) pa_nil)) (blkOk_by (N := N_law_heights) (sc := defScope s_law_heights) (by decide +kernel)) (fun _ _ _ _ _ => (pg_name (i := 2) nd rfl (Or.inl rfl))) (fun _ _ _ _ _ => pts_nil) (fun _ _ _ _ _ => (pe_op op_sub (pe_cal C_law_draw (hr.mono (by decide)) (by rfl) pass0 (pa_cons (pv 0) (pa_cons pe_int pa_nil))) pe_int))) pa_nil))))), rd vs H Q E h⟩
theorem sc_law_misses : FnScope N_law_misses ["_law_net_here", "_law_heights_here"] (defScope s_law_misses) := ⟨rfl, rfl, rfl, by decide +kernel, rfl, by decide +kernel, by decide +kernel⟩
theorem ok_law_misses {P : Program} {w : World} {K : PySem.W.Frag} {mg : Str → Option Value} {base : Heap} (D : DefAt K mg "_law_misses" s_law_misses) (B : Bl mg) 
    (rd : ∀ (vs : List V) (H : Hp) (Q : VK) (E : XK), (sp_law_misses K) vs H Q E → t_law_misses K { nx := fun _ H' => Q .non H', rt := Q } (start N_law_misses vs) H) : Cal P w K mg base CX0 1 "_law_misses" ["_law_net_here", "_law_heights_here"] (sp_law_misses K) := by
  refine mk_cal (N := N_law_misses) D sc_law_misses (fun _ _ _ _ _ _ us hl => match us, hl with | [_, _], _ => rfl) (fun vs H Q E h => ?_) (fun f cdv A outer s H vs Q E hr h => ?_)
  · first
      | (obtain ⟨_, hd, _⟩ := h; exact dpAll_len hd)
      | (obtain ⟨_, _, hd, _⟩ := h; exact dpAll_len hd)
      | (obtain ⟨_, _, _, hd, _⟩ := h; exact dpAll_len hd)
      | (obtain ⟨_, _, _, _, hd, _⟩ := h; exact dpAll_len hd)
      | (obtain ⟨_, rfl, _⟩ := h; rfl)
      | (obtain ⟨_, _, rfl, _⟩ := h; rfl)
      | (obtain ⟨_, _, _, rfl, _⟩ := h; rfl)
      | (obtain ⟨_, _, _, _, rfl, _⟩ := h; rfl)
      | (obtain ⟨_, _, _, _, _, rfl, _⟩ := h; rfl)
  · have nd := (sc_law_misses).nd
    have hu := hu_of hr
    exact ⟨t_law_misses K, (pss_one (ps_ret (pe_lc (own := [("_law_a", 2), ("_law_b", 3), ("_law_value", 4)]) (g := (gTup K 3 (gCons (gName 2) (gCons (gName 3) (gCons (gName 4) gNil))))) (tt := tYes) rfl nd (pi_tup (pe_ix ix_seq (pv 0) pe_int (fun _ _ => rfl))) (blkOk_by (N := N_law_misses) (sc := defScope s_law_misses) (by decide +kernel)) (fun _ _ _ _ _ => (pg_tup rfl (pgs_cons (pg_name (i := 2) nd rfl (Or.inl rfl)) (pgs_cons (pg_name (i := 3) nd rfl (Or.inl rfl)) (pgs_cons (pg_name (i := 4) nd rfl (Or.inl rfl)) pgs_nil))))) (fun _ _ _ _ _ => pts_nil) (fun _ _ _ _ _ => (pe_op op_add (pe_op op_sub (pv 4) (pe_ix ix_seq (pv 1) (pv 3) (fun _ _ => rfl))) (pe_ix ix_seq (pv 1) (pv 2) (fun _ _ => rfl))))))), rd vs H Q E h⟩
theorem sc_law_lies : FnScope N_law_lies ["_law_net_here", "_law_heights_here"] (defScope s_law_lies) := ⟨rfl, rfl, rfl, by decide +kernel, rfl, by decide +kernel, by decide +kernel⟩
theorem ok_law_lies {P : Program} {w : World} {K : PySem.W.Frag} {mg : Str → Option Value} {base : Heap} (D : DefAt K mg "_law_lies" s_law_lies) (B : Bl mg) (C_law_misses : Cal P w K mg base CX0 1 "_law_misses" ["_law_net_here", "_law_heights_here"] (sp_law_misses K))
    (rd : ∀ (vs : List V) (H : Hp) (Q : VK) (E : XK), (sp_law_lies K) vs H Q E → t_law_lies K { nx := fun _ H' => Q .non H', rt := Q } (start N_law_lies vs) H) : Cal P w K mg base CX0 2 "_law_lies" ["_law_net_here", "_law_heights_here"] (sp_law_lies K) := by
  refine mk_cal (N := N_law_lies) D sc_law_lies (fun _ _ _ _ _ _ us hl => match us, hl with | [_, _], _ => rfl) (fun vs H Q E h => ?_) (fun f cdv A outer s H vs Q E hr h => ?_)
  · first
      | (obtain ⟨_, hd, _⟩ := h; exact dpAll_len hd)
      | (obtain ⟨_, _, hd, _⟩ := h; exact dpAll_len hd)
      | (obtain ⟨_, _, _, hd, _⟩ := h; exact dpAll_len hd)
      | (obtain ⟨_, _, _, _, hd, _⟩ := h; exact dpAll_len hd)
      | (obtain ⟨_, rfl, _⟩ := h; rfl)
      | (obtain ⟨_, _, rfl, _⟩ := h; rfl)
      | (obtain ⟨_, _, _, rfl, _⟩ := h; rfl)
      | (obtain ⟨_, _, _, _, rfl, _⟩ := h; rfl)
      | (obtain ⟨_, _, _, _, _, rfl, _⟩ := h; rfl)
  · have nd := (sc_law_lies).nd
    have hu := hu_of hr
    exact ⟨t_law_lies K, (pss_cons (ps_set (i := 2) nd rfl (Or.inr rfl) (pe_cal C_law_misses (hr.mono (by decide)) (by rfl) pass0 (pa_cons (pv 0) (pa_cons (pv 1) pa_nil)))) (pss_one (ps_ret (pe_callTy call_tuple_of (by rfl) B.tuple (by decide +kernel) (pa_cons (pe_lc (own := [("_law_k", 3)]) (g := (gName 3)) (tt := (tTest (tOp rNe (tOp (rIx K) (tVar 2) (tVar 3)) (tC (.int 0))))) rfl nd (pi_range1 (by rfl) B.range (pa_cons (pe_callB call_len_seq (by rfl) B.len PySem.boot_len (pa_cons (pv 2) pa_nil)) pa_nil)) (blkOk_by (N := N_law_lies) (sc := defScope s_law_lies) (by decide +kernel)) (fun _ _ _ _ _ => (pg_name (i := 3) nd rfl (Or.inl rfl))) (fun _ _ _ _ _ => (pts_one (pt_cmpR op_ne (pe_ix ix_seq (pv 2) (pv 3) (fun _ _ => rfl)) pe_int (nomark _)))) (fun _ _ _ _ _ => (pv 3))) pa_nil))))), rd vs H Q E h⟩
theorem sc_law_names : FnScope N_law_names ["_law_many"] (defScope s_law_names) := ⟨rfl, rfl, rfl, by decide +kernel, rfl, by decide +kernel, by decide +kernel⟩
theorem ok_law_names {P : Program} {w : World} {K : PySem.W.Frag} {mg : Str → Option Value} {base : Heap} (D : DefAt K mg "_law_names" s_law_names) (B : Bl mg) 
    (rd : ∀ (vs : List V) (H : Hp) (Q : VK) (E : XK), (sp_law_names K) vs H Q E → t_law_names K { nx := fun _ H' => Q .non H', rt := Q } (start N_law_names vs) H) : Cal P w K mg base CX0 1 "_law_names" ["_law_many"] (sp_law_names K) := by
  refine mk_cal (N := N_law_names) D sc_law_names (fun _ _ _ _ _ _ us hl => match us, hl with | [_], _ => rfl) (fun vs H Q E h => ?_) (fun f cdv A outer s H vs Q E hr h => ?_)
  · first
      | (obtain ⟨_, hd, _⟩ := h; exact dpAll_len hd)
      | (obtain ⟨_, _, hd, _⟩ := h; exact dpAll_len hd)
      | (obtain ⟨_, _, _, hd, _⟩ := h; exact dpAll_len hd)
      | (obtain ⟨_, _, _, _, hd, _⟩ := h; exact dpAll_len hd)
      | (obtain ⟨_, rfl, _⟩ := h; rfl)
      | (obtain ⟨_, _, rfl, _⟩ := h; rfl)
      | (obtain ⟨_, _, _, rfl, _⟩ := h; rfl)
      | (obtain ⟨_, _, _, _, rfl, _⟩ := h; rfl)
      | (obtain ⟨_, _, _, _, _, rfl, _⟩ := h; rfl)
  · have nd := (sc_law_names).nd
    have hu := hu_of hr
    exact ⟨t_law_names K, (pss_one (ps_ret (pe_callTy call_tuple_of (by rfl) B.tuple (by decide +kernel) (pa_cons (pe_lc (own := [("_law_k", 1)]) (g := (gName 1)) (tt := tYes) rfl nd (pi_range1 (by rfl) B.range (pa_cons (pv 0) pa_nil)) (blkOk_by (N := N_law_names) (sc := defScope s_law_names) (by decide +kernel)) (fun _ _ _ _ _ => (pg_name (i := 1) nd rfl (Or.inl rfl))) (fun _ _ _ _ _ => pts_nil) (fun _ _ _ _ _ => (pe_op op_add_str pe_str (pe_ix ix_seq pe_str (pv 1) (fun _ _ => rfl))))) pa_nil)))), rd vs H Q E h⟩
theorem sc_law_kept_net : FnScope N_law_kept_net ["_law_pairs_here", "_law_heights_here"] (defScope s_law_kept_net) := ⟨rfl, rfl, rfl, by decide +kernel, rfl, by decide +kernel, by decide +kernel⟩
theorem ok_law_kept_net {P : Program} {w : World} {K : PySem.W.Frag} {mg : Str → Option Value} {base : Heap} (D : DefAt K mg "_law_kept_net" s_law_kept_net) (B : Bl mg) (C_law_names : Cal P w K mg base CX0 1 "_law_names" ["_law_many"] (sp_law_names K))
    (rd : ∀ (vs : List V) (H : Hp) (Q : VK) (E : XK), (sp_law_kept_net K) vs H Q E → t_law_kept_net K { nx := fun _ H' => Q .non H', rt := Q } (start N_law_kept_net vs) H) : Cal P w K mg base CX0 2 "_law_kept_net" ["_law_pairs_here", "_law_heights_here"] (sp_law_kept_net K) := by
  refine mk_cal (N := N_law_kept_net) D sc_law_kept_net (fun _ _ _ _ _ _ us hl => match us, hl with | [_, _], _ => rfl) (fun vs H Q E h => ?_) (fun f cdv A outer s H vs Q E hr h => ?_)
  · first
      | (obtain ⟨_, hd, _⟩ := h; exact dpAll_len hd)
      | (obtain ⟨_, _, hd, _⟩ := h; exact dpAll_len hd)
      | (obtain ⟨_, _, _, hd, _⟩ := h; exact dpAll_len hd)
      | (obtain ⟨_, _, _, _, hd, _⟩ := h; exact dpAll_len hd)
      | (obtain ⟨_, rfl, _⟩ := h; rfl)
      | (obtain ⟨_, _, rfl, _⟩ := h; rfl)
      | (obtain ⟨_, _, _, rfl, _⟩ := h; rfl)
      | (obtain ⟨_, _, _, _, rfl, _⟩ := h; rfl)
      | (obtain ⟨_, _, _, _, _, rfl, _⟩ := h; rfl)
  · have nd := (sc_law_kept_net).nd
    have hu := hu_of hr
    exact ⟨t_law_kept_net K, (pss_cons (ps_set (i := 2) nd rfl (Or.inl rfl) (pe_callTy call_tuple_of (by rfl) B.tuple (by decide +kernel) (pa_cons (pe_lc (own := [("_law_a", 3), ("_law_b", 4)]) (g := (gTup K 2 (gCons (gName 3) (gCons (gName 4) gNil)))) (tt := tYes) rfl nd (pi_list (pv 0)) (blkOk_by (N := N_law_kept_net) (sc := defScope s_law_kept_net) (by decide +kernel)) (fun _ _ _ _ _ => (pg_tup rfl (pgs_cons (pg_name (i := 3) nd rfl (Or.inl rfl)) (pgs_cons (pg_name (i := 4) nd rfl (Or.inl rfl)) pgs_nil)))) (fun _ _ _ _ _ => pts_nil) (fun _ _ _ _ _ => (pe_tup (pa_cons (pv 3) (pa_cons (pv 4) (pa_cons (pe_op op_sub (pe_ix ix_seq (pv 1) (pv 4) (fun _ _ => rfl)) (pe_ix ix_seq (pv 1) (pv 3) (fun _ _ => rfl))) pa_nil)))))) pa_nil))) (pss_one (ps_ret (pe_tup (pa_cons pe_str (pa_cons (pe_cal C_law_names (hr.mono (by decide)) (by rfl) pass0 (pa_cons (pe_callB call_len_seq (by rfl) B.len PySem.boot_len (pa_cons (pv 1) pa_nil)) pa_nil)) (pa_cons (pv 2) pa_nil))))))), rd vs H Q E h⟩
theorem sc_law_changed : FnScope N_law_changed ["_law_net_here", "_law_rows"] (defScope s_law_changed) := ⟨rfl, rfl, rfl, by decide +kernel, rfl, by decide +kernel, by decide +kernel⟩
theorem ok_law_changed {P : Program} {w : World} {K : PySem.W.Frag} {mg : Str → Option Value} {base : Heap} (D : DefAt K mg "_law_changed" s_law_changed) (B : Bl mg) 
    (rd : ∀ (vs : List V) (H : Hp) (Q : VK) (E : XK), (sp_law_changed K) vs H Q E → t_law_changed K { nx := fun _ H' => Q .non H', rt := Q } (start N_law_changed vs) H) : Cal P w K mg base CX0 1 "_law_changed" ["_law_net_here", "_law_rows"] (sp_law_changed K) := by
  refine mk_cal (N := N_law_changed) D sc_law_changed (fun _ _ _ _ _ _ us hl => match us, hl with | [_, _], _ => rfl) (fun vs H Q E h => ?_) (fun f cdv A outer s H vs Q E hr h => ?_)
  · first
      | (obtain ⟨_, hd, _⟩ := h; exact dpAll_len hd)
      | (obtain ⟨_, _, hd, _⟩ := h; exact dpAll_len hd)
      | (obtain ⟨_, _, _, hd, _⟩ := h; exact dpAll_len hd)
      | (obtain ⟨_, _, _, _, hd, _⟩ := h; exact dpAll_len hd)
      | (obtain ⟨_, rfl, _⟩ := h; rfl)
      | (obtain ⟨_, _, rfl, _⟩ := h; rfl)
      | (obtain ⟨_, _, _, rfl, _⟩ := h; rfl)
      | (obtain ⟨_, _, _, _, rfl, _⟩ := h; rfl)
      | (obtain ⟨_, _, _, _, _, rfl, _⟩ := h; rfl)
  · have nd := (sc_law_changed).nd
    have hu := hu_of hr
    exact ⟨t_law_changed K, (pss_cons (ps_set (i := 2) nd rfl (Or.inl rfl) (pe_callTy call_list_of (by rfl) B.list (by decide +kernel) (pa_cons (pe_ix ix_seq (pv 0) pe_int (fun _ _ => rfl)) pa_nil))) (pss_cons (ps_for PassesOwn.never rfl (pi_list (pv 1)) (pg_tup rfl (pgs_cons (pg_name (i := 3) nd rfl (Or.inl rfl)) (pgs_cons (pg_name (i := 4) nd rfl (Or.inl rfl)) pgs_nil))) (pss_cons (ps_asg (pe_ix ix_seq (pv 2) (pv 3) (fun _ _ => rfl)) (pg_tup rfl (pgs_cons (pg_name (i := 5) nd rfl (Or.inl rfl)) (pgs_cons (pg_name (i := 6) nd rfl (Or.inl rfl)) (pgs_cons (pg_name (i := 7) nd rfl (Or.inl rfl)) pgs_nil))))) (pss_one (ps_asg (pe_tup (pa_cons (pv 5) (pa_cons (pv 6) (pa_cons (pe_op op_add (pv 7) (pv 4)) pa_nil)))) (pg_sub (pv 2) (pv 3) set_list))))) (pss_one (ps_ret (pe_tup (pa_cons pe_str (pa_cons (pe_ix ix_seq (pv 0) pe_int (fun _ _ => rfl)) (pa_cons (pe_callTy call_tuple_of (by rfl) B.tuple (by decide +kernel) (pa_cons (pv 2) pa_nil)) pa_nil)))))))), rd vs H Q E h⟩
theorem sc_law_some : FnScope N_law_some ["_law_box", "_law_many", "_law_most"] (defScope s_law_some) := ⟨rfl, rfl, rfl, by decide +kernel, rfl, by decide +kernel, by decide +kernel⟩
theorem ok_law_some {P : Program} {w : World} {K : PySem.W.Frag} {mg : Str → Option Value} {base : Heap} (D : DefAt K mg "_law_some" s_law_some) (B : Bl mg) (C_law_draw : Cal P w K mg base CX0 1 "_law_draw" ["_law_box", "_law_many"] (sp_law_draw K))
    (rd : ∀ (vs : List V) (H : Hp) (Q : VK) (E : XK), (sp_law_some K) vs H Q E → t_law_some K { nx := fun _ H' => Q .non H', rt := Q } (start N_law_some vs) H) : Cal P w K mg base CX0 2 "_law_some" ["_law_box", "_law_many", "_law_most"] (sp_law_some K) := by
  refine mk_cal (N := N_law_some) D sc_law_some (fun _ _ _ _ _ _ us hl => match us, hl with | [_, _, _], _ => rfl) (fun vs H Q E h => ?_) (fun f cdv A outer s H vs Q E hr h => ?_)
  · first
      | (obtain ⟨_, hd, _⟩ := h; exact dpAll_len hd)
      | (obtain ⟨_, _, hd, _⟩ := h; exact dpAll_len hd)
      | (obtain ⟨_, _, _, hd, _⟩ := h; exact dpAll_len hd)
      | (obtain ⟨_, _, _, _, hd, _⟩ := h; exact dpAll_len hd)
      | (obtain ⟨_, rfl, _⟩ := h; rfl)
      | (obtain ⟨_, _, rfl, _⟩ := h; rfl)
      | (obtain ⟨_, _, _, rfl, _⟩ := h; rfl)
      | (obtain ⟨_, _, _, _, rfl, _⟩ := h; rfl)
      | (obtain ⟨_, _, _, _, _, rfl, _⟩ := h; rfl)
  · have nd := (sc_law_some).nd
    have hu := hu_of hr
    exact ⟨t_law_some K, (pss_cons (ps_set (i := 3) nd rfl (Or.inl rfl) (pe_lst pa_nil)) (pss_cons (ps_for PassesOwn.never rfl (pi_range1 (by rfl) B.range (pa_cons (pe_callB (call_min2 rfl) (by rfl) B.min (by decide +kernel) (pa_cons (pv 2) (pa_cons (pv 1) pa_nil))) pa_nil)) (pg_name (i := 4) nd rfl (Or.inl rfl)) (pss_cons (ps_set (i := 5) nd rfl (Or.inl rfl) (pe_cal C_law_draw (hr.mono (by decide)) (by rfl) pass0 (pa_cons (pv 0) (pa_cons (pv 1) pa_nil)))) (pss_one (ps_if (pt_cmpR op_notIn_seq (pv 5) (pv 3) (by rfl)) (pss_one (ps_expr (pe_bm PySem.F.plainAttrs_list PySem.F.slot_list_append PySem.F.type_list_append mt_append (pv 3) (pa_cons (pv 5) pa_nil)))) pss_nil)))) (pss_one (ps_ret (pe_callB cr_sortedI (by rfl) B.sorted (by decide +kernel) (pa_cons (pv 3) pa_nil)))))), rd vs H Q E h⟩
theorem sc_law_lied : FnScope N_law_lied ["_law_box", "_law_net_here", "_law_most"] (defScope s_law_lied) := ⟨rfl, rfl, rfl, by decide +kernel, rfl, by decide +kernel, by decide +kernel⟩
theorem ok_law_lied {P : Program} {w : World} {K : PySem.W.Frag} {mg : Str → Option Value} {base : Heap} (D : DefAt K mg "_law_lied" s_law_lied) (B : Bl mg) (C_law_changed : Cal P w K mg base CX0 1 "_law_changed" ["_law_net_here", "_law_rows"] (sp_law_changed K)) (C_law_draw : Cal P w K mg base CX0 1 "_law_draw" ["_law_box", "_law_many"] (sp_law_draw K)) (C_law_some : Cal P w K mg base CX0 2 "_law_some" ["_law_box", "_law_many", "_law_most"] (sp_law_some K))
    (rd : ∀ (vs : List V) (H : Hp) (Q : VK) (E : XK), (sp_law_lied K) vs H Q E → t_law_lied K { nx := fun _ H' => Q .non H', rt := Q } (start N_law_lied vs) H) : Cal P w K mg base CX0 3 "_law_lied" ["_law_box", "_law_net_here", "_law_most"] (sp_law_lied K) := by
  refine mk_cal (N := N_law_lied) D sc_law_lied (fun _ _ _ _ _ _ us hl => match us, hl with | [_, _, _], _ => rfl) (fun vs H Q E h => ?_) (fun f cdv A outer s H vs Q E hr h => ?_)
  · first
      | (obtain ⟨_, hd, _⟩ := h; exact dpAll_len hd)
      | (obtain ⟨_, _, hd, _⟩ := h; exact dpAll_len hd)
      | (obtain ⟨_, _, _, hd, _⟩ := h; exact dpAll_len hd)
      | (obtain ⟨_, _, _, _, hd, _⟩ := h; exact dpAll_len hd)
      | (obtain ⟨_, rfl, _⟩ := h; rfl)
      | (obtain ⟨_, _, rfl, _⟩ := h; rfl)
      | (obtain ⟨_, _, _, rfl, _⟩ := h; rfl)
      | (obtain ⟨_, _, _, _, rfl, _⟩ := h; rfl)
      | (obtain ⟨_, _, _, _, _, rfl, _⟩ := h; rfl)
  · have nd := (sc_law_lied).nd
    have hu := hu_of hr
    exact ⟨t_law_lied K, (pss_cons (ps_setLc (i := 3) (own := [("_law_index", 4)]) (g := (gName 4)) (tt := tYes) rfl nd rfl rfl (sw_true rfl rfl rfl (by decide +kernel)) (pi_list (pe_cal C_law_some (hr.mono (by decide)) (by rfl) pass0 (pa_cons (pv 0) (pa_cons (pe_callB call_len_seq (by rfl) B.len PySem.boot_len (pa_cons (pe_ix ix_seq (pv 1) pe_int (fun _ _ => rfl)) pa_nil)) (pa_cons (pv 2) pa_nil))))) (blkOk_by (N := N_law_lied) (sc := defScope s_law_lied) (by decide +kernel)) (fun _ _ _ _ _ => (pg_name (i := 4) nd rfl (Or.inl rfl))) (fun _ _ _ _ _ => pts_nil) (fun _ _ _ _ _ => (pe_tup (pa_cons (pv 4) (pa_cons (pe_op op_mul (pe_op op_add pe_int (pe_cal C_law_draw (hr.mono (by decide)) (by rfl) pass0 (pa_cons (pv 0) (pa_cons pe_int pa_nil)))) (pe_op op_sub (pe_op op_mul pe_int (pe_cal C_law_draw (hr.mono (by decide)) (by rfl) pass0 (pa_cons (pv 0) (pa_cons pe_int pa_nil)))) pe_int)) pa_nil))))) (pss_one (ps_ret (pe_cal C_law_changed (hr.mono (by decide)) (by rfl) pass0 (pa_cons (pv 1) (pa_cons (pv 3) pa_nil)))))), rd vs H Q E h⟩
theorem sc_law_pick : FnScope N_law_pick ["_law_box", "_law_things"] (defScope s_law_pick) := ⟨rfl, rfl, rfl, by decide +kernel, rfl, by decide +kernel, by decide +kernel⟩
theorem ok_law_pick {P : Program} {w : World} {K : PySem.W.Frag} {mg : Str → Option Value} {base : Heap} (D : DefAt K mg "_law_pick" s_law_pick) (B : Bl mg) (C_law_draw : Cal P w K mg base CX0 1 "_law_draw" ["_law_box", "_law_many"] (sp_law_draw K))
    (rd : ∀ (vs : List V) (H : Hp) (Q : VK) (E : XK), (sp_law_pick K) vs H Q E → t_law_pick K { nx := fun _ H' => Q .non H', rt := Q } (start N_law_pick vs) H) : Cal P w K mg base CX0 2 "_law_pick" ["_law_box", "_law_things"] (sp_law_pick K) := by
  refine mk_cal (N := N_law_pick) D sc_law_pick (fun _ _ _ _ _ _ us hl => match us, hl with | [_, _], _ => rfl) (fun vs H Q E h => ?_) (fun f cdv A outer s H vs Q E hr h => ?_)
  · first
      | (obtain ⟨_, hd, _⟩ := h; exact dpAll_len hd)
      | (obtain ⟨_, _, hd, _⟩ := h; exact dpAll_len hd)
      | (obtain ⟨_, _, _, hd, _⟩ := h; exact dpAll_len hd)
      | (obtain ⟨_, _, _, _, hd, _⟩ := h; exact dpAll_len hd)
      | (obtain ⟨_, rfl, _⟩ := h; rfl)
      | (obtain ⟨_, _, rfl, _⟩ := h; rfl)
      | (obtain ⟨_, _, _, rfl, _⟩ := h; rfl)
      | (obtain ⟨_, _, _, _, rfl, _⟩ := h; rfl)
      | (obtain ⟨_, _, _, _, _, rfl, _⟩ := h; rfl)
  · have nd := (sc_law_pick).nd
    have hu := hu_of hr
    exact ⟨t_law_pick K, (pss_one (ps_ret (pe_ix ix_seq (pv 1) (pe_op op_mod (pe_callTy call_int1 (by rfl) B.int (by decide +kernel) (pa_cons (pe_cal C_law_draw (hr.mono (by decide)) (by rfl) pass0 (pa_cons (pv 0) (pa_cons pe_int pa_nil))) pa_nil)) (pe_callB call_len_seq (by rfl) B.len PySem.boot_len (pa_cons (pv 1) pa_nil))) (fun _ _ => rfl)))), rd vs H Q E h⟩
theorem sc_law_pairs : FnScope N_law_pairs ["_law_box", "_law_many", "_law_extra"] (defScope s_law_pairs) := ⟨rfl, rfl, rfl, by decide +kernel, rfl, by decide +kernel, by decide +kernel⟩
theorem ok_law_pairs {P : Program} {w : World} {K : PySem.W.Frag} {mg : Str → Option Value} {base : Heap} (D : DefAt K mg "_law_pairs" s_law_pairs) (B : Bl mg) (C_law_draw : Cal P w K mg base CX0 1 "_law_draw" ["_law_box", "_law_many"] (sp_law_draw K)) (C_law_pick : Cal P w K mg base CX0 2 "_law_pick" ["_law_box", "_law_things"] (sp_law_pick K))
    (rd : ∀ (vs : List V) (H : Hp) (Q : VK) (E : XK), (sp_law_pairs K) vs H Q E → t_law_pairs K { nx := fun _ H' => Q .non H', rt := Q } (start N_law_pairs vs) H) : Cal P w K mg base CX0 3 "_law_pairs" ["_law_box", "_law_many", "_law_extra"] (sp_law_pairs K) := by
  refine mk_cal (N := N_law_pairs) D sc_law_pairs (fun _ _ _ _ _ _ us hl => match us, hl with | [_, _, _], _ => rfl) (fun vs H Q E h => ?_) (fun f cdv A outer s H vs Q E hr h => ?_)
  · first
      | (obtain ⟨_, hd, _⟩ := h; exact dpAll_len hd)
      | (obtain ⟨_, _, hd, _⟩ := h; exact dpAll_len hd)
      | (obtain ⟨_, _, _, hd, _⟩ := h; exact dpAll_len hd)
      | (obtain ⟨_, _, _, _, hd, _⟩ := h; exact dpAll_len hd)
      | (obtain ⟨_, rfl, _⟩ := h; rfl)
      | (obtain ⟨_, _, rfl, _⟩ := h; rfl)
      | (obtain ⟨_, _, _, rfl, _⟩ := h; rfl)
      | (obtain ⟨_, _, _, _, rfl, _⟩ := h; rfl)
      | (obtain ⟨_, _, _, _, _, rfl, _⟩ := h; rfl)
  · have nd := (sc_law_pairs).nd
    have hu := hu_of hr
    exact ⟨t_law_pairs K, (pss_cons (ps_set (i := 3) nd rfl (Or.inl rfl) (pe_lst pa_nil)) (pss_cons (ps_for PassesOwn.never rfl (pi_range2 (by rfl) B.range (pa_cons pe_int (pa_cons (pv 1) pa_nil))) (pg_name (i := 4) nd rfl (Or.inl rfl)) (pss_cons (ps_set (i := 5) nd rfl (Or.inl rfl) (pe_cal C_law_draw (hr.mono (by decide)) (by rfl) pass0 (pa_cons (pv 0) (pa_cons (pv 4) pa_nil)))) (pss_one (ps_expr (pe_bm PySem.F.plainAttrs_list PySem.F.slot_list_insert PySem.F.type_list_insert mt_insert (pv 3) (pa_cons (pe_cal C_law_draw (hr.mono (by decide)) (by rfl) pass0 (pa_cons (pv 0) (pa_cons (pe_op op_add (pe_callB call_len_seq (by rfl) B.len PySem.boot_len (pa_cons (pv 3) pa_nil)) pe_int) pa_nil))) (pa_cons (pe_cal C_law_pick (hr.mono (by decide)) (by rfl) pass0 (pa_cons (pv 0) (pa_cons (pe_lst (pa_cons (pe_tup (pa_cons (pv 4) (pa_cons (pv 5) pa_nil))) (pa_cons (pe_tup (pa_cons (pv 5) (pa_cons (pv 4) pa_nil))) pa_nil))) pa_nil))) pa_nil))))))) (pss_cons (ps_for PassesOwn.never rfl (pi_range1 (by rfl) B.range (pa_cons (pv 2) pa_nil)) (pg_name (i := 6) nd rfl (Or.inl rfl)) (pss_cons (ps_set (i := 7) nd rfl (Or.inl rfl) (pe_cal C_law_draw (hr.mono (by decide)) (by rfl) pass0 (pa_cons (pv 0) (pa_cons (pv 1) pa_nil)))) (pss_cons (ps_set (i := 8) nd rfl (Or.inl rfl) (pe_op op_mod (pe_callTy call_int1 (by rfl) B.int (by decide +kernel) (pa_cons (pe_op op_add (pe_op op_add (pv 7) pe_int) (pe_cal C_law_draw (hr.mono (by decide)) (by rfl) pass0 (pa_cons (pv 0) (pa_cons (pe_op op_sub (pv 1) pe_int) pa_nil)))) pa_nil)) (pv 1))) (pss_one (ps_expr (pe_bm PySem.F.plainAttrs_list PySem.F.slot_list_insert PySem.F.type_list_insert mt_insert (pv 3) (pa_cons (pe_cal C_law_draw (hr.mono (by decide)) (by rfl) pass0 (pa_cons (pv 0) (pa_cons (pe_op op_add (pe_callB call_len_seq (by rfl) B.len PySem.boot_len (pa_cons (pv 3) pa_nil)) pe_int) pa_nil))) (pa_cons (pe_tup (pa_cons (pv 7) (pa_cons (pv 8) pa_nil))) pa_nil)))))))) (pss_one (ps_ret (pv 3)))))), rd vs H Q E h⟩
theorem sc_law_net : FnScope N_law_net ["_law_box", "_law_most_marks", "_law_most_extra"] (defScope s_law_net) := ⟨rfl, rfl, rfl, by decide +kernel, rfl, by decide +kernel, by decide +kernel⟩
theorem ok_law_net {P : Program} {w : World} {K : PySem.W.Frag} {mg : Str → Option Value} {base : Heap} (D : DefAt K mg "_law_net" s_law_net) (B : Bl mg) (C_law_draw : Cal P w K mg base CX0 1 "_law_draw" ["_law_box", "_law_many"] (sp_law_draw K)) (C_law_heights : Cal P w K mg base CX0 2 "_law_heights" ["_law_box", "_law_many"] (sp_law_heights K)) (C_law_kept_net : Cal P w K mg base CX0 2 "_law_kept_net" ["_law_pairs_here", "_law_heights_here"] (sp_law_kept_net K)) (C_law_lied : Cal P w K mg base CX0 3 "_law_lied" ["_law_box", "_law_net_here", "_law_most"] (sp_law_lied K)) (C_law_pairs : Cal P w K mg base CX0 3 "_law_pairs" ["_law_box", "_law_many", "_law_extra"] (sp_law_pairs K))
    (rd : ∀ (vs : List V) (H : Hp) (Q : VK) (E : XK), (sp_law_net K) vs H Q E → t_law_net K { nx := fun _ H' => Q .non H', rt := Q } (start N_law_net vs) H) : Cal P w K mg base CX0 4 "_law_net" ["_law_box", "_law_most_marks", "_law_most_extra"] (sp_law_net K) := by
  refine mk_cal (N := N_law_net) D sc_law_net (fun _ _ _ _ _ _ us hl => match us, hl with | [_, _, _], _ => rfl) (fun vs H Q E h => ?_) (fun f cdv A outer s H vs Q E hr h => ?_)
  · first
      | (obtain ⟨_, hd, _⟩ := h; exact dpAll_len hd)
      | (obtain ⟨_, _, hd, _⟩ := h; exact dpAll_len hd)
      | (obtain ⟨_, _, _, hd, _⟩ := h; exact dpAll_len hd)
      | (obtain ⟨_, _, _, _, hd, _⟩ := h; exact dpAll_len hd)
      | (obtain ⟨_, rfl, _⟩ := h; rfl)
      | (obtain ⟨_, _, rfl, _⟩ := h; rfl)
      | (obtain ⟨_, _, _, rfl, _⟩ := h; rfl)
      | (obtain ⟨_, _, _, _, rfl, _⟩ := h; rfl)
      | (obtain ⟨_, _, _, _, _, rfl, _⟩ := h; rfl)
  · have nd := (sc_law_net).nd
    have hu := hu_of hr
    exact ⟨t_law_net K, (pss_cons (ps_set (i := 3) nd rfl (Or.inl rfl) (pe_op op_add pe_int (pe_cal C_law_draw (hr.mono (by decide)) (by rfl) pass0 (pa_cons (pv 0) (pa_cons (pe_op op_sub (pv 1) pe_int) pa_nil))))) (pss_cons (ps_set (i := 4) nd rfl (Or.inl rfl) (pe_cal C_law_pairs (hr.mono (by decide)) (by rfl) pass0 (pa_cons (pv 0) (pa_cons (pv 3) (pa_cons (pe_cal C_law_draw (hr.mono (by decide)) (by rfl) pass0 (pa_cons (pv 0) (pa_cons (pe_op op_add (pv 2) pe_int) pa_nil))) pa_nil))))) (pss_cons (ps_set (i := 5) nd rfl (Or.inl rfl) (pe_cal C_law_kept_net (hr.mono (by decide)) (by rfl) pass0 (pa_cons (pv 4) (pa_cons (pe_cal C_law_heights (hr.mono (by decide)) (by rfl) pass0 (pa_cons (pv 0) (pa_cons (pv 3) pa_nil))) pa_nil)))) (pss_one (ps_ret (pe_cal C_law_lied (hr.mono (by decide)) (by rfl) pass0 (pa_cons (pv 0) (pa_cons (pv 5) (pa_cons (pe_cal C_law_draw (hr.mono (by decide)) (by rfl) pass0 (pa_cons (pv 0) (pa_cons pe_int pa_nil))) pa_nil))))))))), rd vs H Q E h⟩
theorem sc_miss_of : FnScope N_miss_of ["reading", "heights"] (defScope s_miss_of) := ⟨rfl, rfl, rfl, by decide +kernel, rfl, by decide +kernel, by decide +kernel⟩
theorem ok_miss_of {P : Program} {w : World} {K : PySem.W.Frag} {mg : Str → Option Value} {base : Heap} (D : DefAt K mg "miss_of" s_miss_of) (B : Bl mg) 
    (rd : ∀ (vs : List V) (H : Hp) (Q : VK) (E : XK), (sp_miss_of K) vs H Q E → t_miss_of K { nx := fun _ H' => Q .non H', rt := Q } (start N_miss_of vs) H) : Cal P w K mg base CX0 1 "miss_of" ["reading", "heights"] (sp_miss_of K) := by
  refine mk_cal (N := N_miss_of) D sc_miss_of (fun _ _ _ _ _ _ us hl => match us, hl with | [_, _], _ => rfl) (fun vs H Q E h => ?_) (fun f cdv A outer s H vs Q E hr h => ?_)
  · first
      | (obtain ⟨_, hd, _⟩ := h; exact dpAll_len hd)
      | (obtain ⟨_, _, hd, _⟩ := h; exact dpAll_len hd)
      | (obtain ⟨_, _, _, hd, _⟩ := h; exact dpAll_len hd)
      | (obtain ⟨_, _, _, _, hd, _⟩ := h; exact dpAll_len hd)
      | (obtain ⟨_, rfl, _⟩ := h; rfl)
      | (obtain ⟨_, _, rfl, _⟩ := h; rfl)
      | (obtain ⟨_, _, _, rfl, _⟩ := h; rfl)
      | (obtain ⟨_, _, _, _, rfl, _⟩ := h; rfl)
      | (obtain ⟨_, _, _, _, _, rfl, _⟩ := h; rfl)
  · have nd := (sc_miss_of).nd
    have hu := hu_of hr
    exact ⟨t_miss_of K, (pss_one (ps_ret (pe_op op_add (pe_op op_sub (pe_ix ix_seq (pv 0) pe_int (fun _ _ => rfl)) (pe_ix ix_seq (pv 1) (pe_ix ix_seq (pv 0) pe_int (fun _ _ => rfl)) (fun _ _ => rfl))) (pe_ix ix_seq (pv 1) (pe_ix ix_seq (pv 0) pe_int (fun _ _ => rfl)) (fun _ _ => rfl))))), rd vs H Q E h⟩
theorem sc_misses : FnScope N_misses ["net", "heights"] (defScope s_misses) := ⟨rfl, rfl, rfl, by decide +kernel, rfl, by decide +kernel, by decide +kernel⟩
theorem ok_misses {P : Program} {w : World} {K : PySem.W.Frag} {mg : Str → Option Value} {base : Heap} (D : DefAt K mg "misses" s_misses) (B : Bl mg) (C_miss_of : Cal P w K mg base CX0 1 "miss_of" ["reading", "heights"] (sp_miss_of K))
    (rd : ∀ (vs : List V) (H : Hp) (Q : VK) (E : XK), (sp_misses K) vs H Q E → t_misses K { nx := fun _ H' => Q .non H', rt := Q } (start N_misses vs) H) : Cal P w K mg base CX0 2 "misses" ["net", "heights"] (sp_misses K) := by
  refine mk_cal (N := N_misses) D sc_misses (fun _ _ _ _ _ _ us hl => match us, hl with | [_, _], _ => rfl) (fun vs H Q E h => ?_) (fun f cdv A outer s H vs Q E hr h => ?_)
  · first
      | (obtain ⟨_, hd, _⟩ := h; exact dpAll_len hd)
      | (obtain ⟨_, _, hd, _⟩ := h; exact dpAll_len hd)
      | (obtain ⟨_, _, _, hd, _⟩ := h; exact dpAll_len hd)
      | (obtain ⟨_, _, _, _, hd, _⟩ := h; exact dpAll_len hd)
      | (obtain ⟨_, rfl, _⟩ := h; rfl)
      | (obtain ⟨_, _, rfl, _⟩ := h; rfl)
      | (obtain ⟨_, _, _, rfl, _⟩ := h; rfl)
      | (obtain ⟨_, _, _, _, rfl, _⟩ := h; rfl)
      | (obtain ⟨_, _, _, _, _, rfl, _⟩ := h; rfl)
  · have nd := (sc_misses).nd
    have hu := hu_of hr
    exact ⟨t_misses K, (pss_one (ps_ret (pe_callTy call_tuple_of (by rfl) B.tuple (by decide +kernel) (pa_cons (pe_lc (own := [("reading", 2)]) (g := (gName 2)) (tt := tYes) rfl nd (pi_tup (pe_ix ix_seq (pv 0) pe_int (fun _ _ => rfl))) (blkOk_by (N := N_misses) (sc := defScope s_misses) (by decide +kernel)) (fun _ _ _ _ _ => (pg_name (i := 2) nd rfl (Or.inl rfl))) (fun _ _ _ _ _ => pts_nil) (fun _ _ _ _ _ => (pe_cal C_miss_of (hr.mono (by decide)) (by rfl) pass0 (pa_cons (pv 2) (pa_cons (pv 1) pa_nil))))) pa_nil)))), rd vs H Q E h⟩
theorem sc_lies : FnScope N_lies ["net", "heights"] (defScope s_lies) := ⟨rfl, rfl, rfl, by decide +kernel, rfl, by decide +kernel, by decide +kernel⟩
theorem ok_lies {P : Program} {w : World} {K : PySem.W.Frag} {mg : Str → Option Value} {base : Heap} (D : DefAt K mg "lies" s_lies) (B : Bl mg) (C_misses : Cal P w K mg base CX0 2 "misses" ["net", "heights"] (sp_misses K))
    (rd : ∀ (vs : List V) (H : Hp) (Q : VK) (E : XK), (sp_lies K) vs H Q E → t_lies K { nx := fun _ H' => Q .non H', rt := Q } (start N_lies vs) H) : Cal P w K mg base CX0 3 "lies" ["net", "heights"] (sp_lies K) := by
  refine mk_cal (N := N_lies) D sc_lies (fun _ _ _ _ _ _ us hl => match us, hl with | [_, _], _ => rfl) (fun vs H Q E h => ?_) (fun f cdv A outer s H vs Q E hr h => ?_)
  · first
      | (obtain ⟨_, hd, _⟩ := h; exact dpAll_len hd)
      | (obtain ⟨_, _, hd, _⟩ := h; exact dpAll_len hd)
      | (obtain ⟨_, _, _, hd, _⟩ := h; exact dpAll_len hd)
      | (obtain ⟨_, _, _, _, hd, _⟩ := h; exact dpAll_len hd)
      | (obtain ⟨_, rfl, _⟩ := h; rfl)
      | (obtain ⟨_, _, rfl, _⟩ := h; rfl)
      | (obtain ⟨_, _, _, rfl, _⟩ := h; rfl)
      | (obtain ⟨_, _, _, _, rfl, _⟩ := h; rfl)
      | (obtain ⟨_, _, _, _, _, rfl, _⟩ := h; rfl)
  · have nd := (sc_lies).nd
    have hu := hu_of hr
    exact ⟨t_lies K, (pss_one (ps_ret (pe_callTy call_tuple_of (by rfl) B.tuple (by decide +kernel) (pa_cons (pe_lc (own := [("index", 2), ("miss", 3)]) (g := (gTup K 2 (gCons (gName 2) (gCons (gName 3) gNil)))) (tt := (tTest (tOp rNe (tVar 3) (tC (.int 0))))) rfl nd (pi_enumT (by rfl) B.enumerate (pa_cons (pe_cal C_misses (hr.mono (by decide)) (by rfl) pass0 (pa_cons (pv 0) (pa_cons (pv 1) pa_nil))) pa_nil)) (blkOk_by (N := N_lies) (sc := defScope s_lies) (by decide +kernel)) (fun _ _ _ _ _ => (pg_tup rfl (pgs_cons (pg_name (i := 2) nd rfl (Or.inl rfl)) (pgs_cons (pg_name (i := 3) nd rfl (Or.inl rfl)) pgs_nil)))) (fun _ _ _ _ _ => (pts_one (pt_cmpR op_ne (pv 3) pe_int (nomark _)))) (fun _ _ _ _ _ => (pv 2))) pa_nil)))), rd vs H Q E h⟩
theorem sc_verdict_of : FnScope N_verdict_of ["index", "told"] (defScope s_verdict_of) := ⟨rfl, rfl, rfl, by decide +kernel, rfl, by decide +kernel, by decide +kernel⟩
theorem ok_verdict_of {P : Program} {w : World} {K : PySem.W.Frag} {mg : Str → Option Value} {base : Heap} (D : DefAt K mg "verdict_of" s_verdict_of) (B : Bl mg) 
    (rd : ∀ (vs : List V) (H : Hp) (Q : VK) (E : XK), (sp_verdict_of K) vs H Q E → t_verdict_of K { nx := fun _ H' => Q .non H', rt := Q } (start N_verdict_of vs) H) : Cal P w K mg base CX0 1 "verdict_of" ["index", "told"] (sp_verdict_of K) := by
  refine mk_cal (N := N_verdict_of) D sc_verdict_of (fun _ _ _ _ _ _ us hl => match us, hl with | [_, _], _ => rfl) (fun vs H Q E h => ?_) (fun f cdv A outer s H vs Q E hr h => ?_)
  · first
      | (obtain ⟨_, hd, _⟩ := h; exact dpAll_len hd)
      | (obtain ⟨_, _, hd, _⟩ := h; exact dpAll_len hd)
      | (obtain ⟨_, _, _, hd, _⟩ := h; exact dpAll_len hd)
      | (obtain ⟨_, _, _, _, hd, _⟩ := h; exact dpAll_len hd)
      | (obtain ⟨_, rfl, _⟩ := h; rfl)
      | (obtain ⟨_, _, rfl, _⟩ := h; rfl)
      | (obtain ⟨_, _, _, rfl, _⟩ := h; rfl)
      | (obtain ⟨_, _, _, _, rfl, _⟩ := h; rfl)
      | (obtain ⟨_, _, _, _, _, rfl, _⟩ := h; rfl)
  · have nd := (sc_verdict_of).nd
    have hu := hu_of hr
    exact ⟨t_verdict_of K, (pss_cons (ps_set (i := 2) nd rfl (Or.inl rfl) (pe_callB call_len_seq (by rfl) B.len PySem.boot_len (pa_cons (pe_lc (own := [("row", 3)]) (g := (gName 3)) (tt := (tTest (tOp (rIn K false) (tVar 0) (tVar 3)))) rfl nd (pi_list (pv 1)) (blkOk_by (N := N_verdict_of) (sc := defScope s_verdict_of) (by decide +kernel)) (fun _ _ _ _ _ => (pg_name (i := 3) nd rfl (Or.inl rfl))) (fun _ _ _ _ _ => (pts_one (pt_cmpR op_in_seq (pv 0) (pv 3) (by rfl)))) (fun _ _ _ _ _ => (pv 3))) pa_nil))) (pss_cons (ps_if (pt_cmpR op_eq (pv 2) pe_int (nomark _)) (pss_one (ps_ret pe_str)) pss_nil) (pss_cons (ps_if (pt_cmpR op_eq (pv 2) (pe_callB call_len_seq (by rfl) B.len PySem.boot_len (pa_cons (pv 1) pa_nil)) (nomark _)) (pss_one (ps_ret pe_str)) pss_nil) (pss_one (ps_ret pe_str))))), rd vs H Q E h⟩
theorem sc_search : FnScope N_search ["net", "flow", "start"] (defScope s_search) := ⟨rfl, rfl, rfl, by decide +kernel, rfl, by decide +kernel, by decide +kernel⟩
theorem ok_search {P : Program} {w : World} {K : PySem.W.Frag} {mg : Str → Option Value} {base : Heap} (D : DefAt K mg "search" s_search) (B : Bl mg) 
    (rd : ∀ (vs : List V) (H : Hp) (Q : VK) (E : XK), (sp_search K) vs H Q E → t_search K { nx := fun _ H' => Q .non H', rt := Q } (start N_search vs) H) : Cal P w K mg base CX0 1 "search" ["net", "flow", "start"] (sp_search K) := by
  refine mk_cal (N := N_search) D sc_search (fun _ _ _ _ _ _ us hl => match us, hl with | [_, _, _], _ => rfl) (fun vs H Q E h => ?_) (fun f cdv A outer s H vs Q E hr h => ?_)
  · first
      | (obtain ⟨_, hd, _⟩ := h; exact dpAll_len hd)
      | (obtain ⟨_, _, hd, _⟩ := h; exact dpAll_len hd)
      | (obtain ⟨_, _, _, hd, _⟩ := h; exact dpAll_len hd)
      | (obtain ⟨_, _, _, _, hd, _⟩ := h; exact dpAll_len hd)
      | (obtain ⟨_, rfl, _⟩ := h; rfl)
      | (obtain ⟨_, _, rfl, _⟩ := h; rfl)
      | (obtain ⟨_, _, _, rfl, _⟩ := h; rfl)
      | (obtain ⟨_, _, _, _, rfl, _⟩ := h; rfl)
      | (obtain ⟨_, _, _, _, _, rfl, _⟩ := h; rfl)
  · have nd := (sc_search).nd
    have hu := hu_of hr
    exact ⟨t_search K, (pss_cons (ps_set (i := 3) nd rfl (Or.inl rfl) (pe_op op_rep (pe_lst (pa_cons pe_non pa_nil)) (pe_callB call_len_seq (by rfl) B.len PySem.boot_len (pa_cons (pe_ix ix_seq (pv 0) pe_int (fun _ _ => rfl)) pa_nil)))) (pss_cons (ps_asg (pe_tup (pa_cons (pv 2) (pa_cons (pe_un un_neg pe_int) (pa_cons pe_int pa_nil)))) (pg_sub (pv 3) (pv 2) set_list)) (pss_cons (ps_set (i := 4) nd rfl (Or.inl rfl) (pe_lst (pa_cons (pv 2) pa_nil))) (pss_cons (ps_while PassesOwn.never (pt_cmpR (op_neD hr.units) (pv 4) (pe_lst pa_nil) (nomark _)) (pss_cons (ps_set (i := 5) nd rfl (Or.inl rfl) (pe_bm PySem.F.plainAttrs_list PySem.F.slot_list_pop PySem.F.type_list_pop mt_popAt (pv 4) (pa_cons pe_int pa_nil))) (pss_one (ps_for PassesOwn.never rfl (pi_enumT (by rfl) B.enumerate (pa_cons (pe_ix ix_seq (pv 0) pe_int (fun _ _ => rfl)) pa_nil)) (pg_tup rfl (pgs_cons (pg_name (i := 6) nd rfl (Or.inl rfl)) (pgs_cons (pg_name (i := 7) nd rfl (Or.inl rfl)) pgs_nil))) (pss_cons (ps_asg (pv 7) (pg_tup rfl (pgs_cons (pg_name (i := 8) nd rfl (Or.inl rfl)) (pgs_cons (pg_name (i := 9) nd rfl (Or.inl rfl)) (pgs_cons (pg_name (i := 10) nd rfl (Or.inl rfl)) pgs_nil))))) (pss_cons (ps_if (PW.pt (pw_and (pt_cmpR op_eq (pv 5) (pv 8) (nomark _)) (pw_and (pt_cmpR op_lt (pe_ix ix_seq (pv 1) (pv 6) (fun _ _ => rfl)) pe_int (nomark _)) (pw_and1 (pt_cmpR op_isN (pe_ix ix_seq (pv 3) (pv 9) (fun _ _ => rfl)) pe_non (nomark _)))))) (pss_cons (ps_asg (pe_tup (pa_cons (pv 5) (pa_cons (pv 6) (pa_cons pe_int pa_nil)))) (pg_sub (pv 3) (pv 9) set_list)) (pss_one (ps_expr (pe_bm PySem.F.plainAttrs_list PySem.F.slot_list_append PySem.F.type_list_append mt_append (pv 4) (pa_cons (pv 9) pa_nil))))) pss_nil) (pss_one (ps_if (PW.pt (pw_and (pt_cmpR op_eq (pv 5) (pv 9) (nomark _)) (pw_and (pt_cmpR op_gt (pe_ix ix_seq (pv 1) (pv 6) (fun _ _ => rfl)) (pe_un un_neg pe_int) (nomark _)) (pw_and1 (pt_cmpR op_isN (pe_ix ix_seq (pv 3) (pv 8) (fun _ _ => rfl)) pe_non (nomark _)))))) (pss_cons (ps_asg (pe_tup (pa_cons (pv 5) (pa_cons (pv 6) (pa_cons (pe_un un_neg pe_int) pa_nil)))) (pg_sub (pv 3) (pv 8) set_list)) (pss_one (ps_expr (pe_bm PySem.F.plainAttrs_list PySem.F.slot_list_append PySem.F.type_list_append mt_append (pv 4) (pa_cons (pv 8) pa_nil))))) pss_nil)))))))) (pss_one (ps_ret (pv 3))))))), rd vs H Q E h⟩
theorem sc_greatest_flow : FnScope N_greatest_flow ["net", "start", "end"] (defScope s_greatest_flow) := ⟨rfl, rfl, rfl, by decide +kernel, rfl, by decide +kernel, by decide +kernel⟩
theorem ok_greatest_flow {P : Program} {w : World} {K : PySem.W.Frag} {mg : Str → Option Value} {base : Heap} (D : DefAt K mg "greatest_flow" s_greatest_flow) (B : Bl mg) (C_search : Cal P w K mg base CX0 1 "search" ["net", "flow", "start"] (sp_search K))
    (rd : ∀ (vs : List V) (H : Hp) (Q : VK) (E : XK), (sp_greatest_flow K) vs H Q E → t_greatest_flow K { nx := fun _ H' => Q .non H', rt := Q } (start N_greatest_flow vs) H) : Cal P w K mg base CX0 2 "greatest_flow" ["net", "start", "end"] (sp_greatest_flow K) := by
  refine mk_cal (N := N_greatest_flow) D sc_greatest_flow (fun _ _ _ _ _ _ us hl => match us, hl with | [_, _, _], _ => rfl) (fun vs H Q E h => ?_) (fun f cdv A outer s H vs Q E hr h => ?_)
  · first
      | (obtain ⟨_, hd, _⟩ := h; exact dpAll_len hd)
      | (obtain ⟨_, _, hd, _⟩ := h; exact dpAll_len hd)
      | (obtain ⟨_, _, _, hd, _⟩ := h; exact dpAll_len hd)
      | (obtain ⟨_, _, _, _, hd, _⟩ := h; exact dpAll_len hd)
      | (obtain ⟨_, rfl, _⟩ := h; rfl)
      | (obtain ⟨_, _, rfl, _⟩ := h; rfl)
      | (obtain ⟨_, _, _, rfl, _⟩ := h; rfl)
      | (obtain ⟨_, _, _, _, rfl, _⟩ := h; rfl)
      | (obtain ⟨_, _, _, _, _, rfl, _⟩ := h; rfl)
  · have nd := (sc_greatest_flow).nd
    have hu := hu_of hr
    exact ⟨t_greatest_flow K, (pss_cons (ps_set (i := 3) nd rfl (Or.inl rfl) (pe_op op_rep (pe_lst (pa_cons pe_int pa_nil)) (pe_callB call_len_seq (by rfl) B.len PySem.boot_len (pa_cons (pe_ix ix_seq (pv 0) pe_int (fun _ _ => rfl)) pa_nil)))) (pss_cons (ps_set (i := 4) nd rfl (Or.inl rfl) (pe_cal C_search (hr.mono (by decide)) (by rfl) pass0 (pa_cons (pv 0) (pa_cons (pv 3) (pa_cons (pv 1) pa_nil))))) (pss_cons (ps_while PassesOwn.never (pt_cmpR op_notN (pe_ix ix_seq (pv 4) (pv 2) (fun _ _ => rfl)) pe_non (nomark _)) (pss_cons (ps_set (i := 5) nd rfl (Or.inl rfl) (pv 2)) (pss_cons (ps_while PassesOwn.never (pt_cmpR op_ne (pv 5) (pv 1) (nomark _)) (pss_cons (ps_asg (pe_ix ix_seq (pv 4) (pv 5) (fun _ _ => rfl)) (pg_tup rfl (pgs_cons (pg_name (i := 6) nd rfl (Or.inl rfl)) (pgs_cons (pg_name (i := 7) nd rfl (Or.inl rfl)) (pgs_cons (pg_name (i := 8) nd rfl (Or.inl rfl)) pgs_nil))))) (pss_cons (ps_asg (pe_op op_add (pe_ix ix_seq (pv 3) (pv 7) (fun _ _ => rfl)) (pv 8)) (pg_sub (pv 3) (pv 7) set_list)) (pss_one (ps_set (i := 5) nd rfl (Or.inl rfl) (pv 6)))))) (pss_one (ps_set (i := 4) nd rfl (Or.inl rfl) (pe_cal C_search (hr.mono (by decide)) (by rfl) pass0 (pa_cons (pv 0) (pa_cons (pv 3) (pa_cons (pv 1) pa_nil))))))))) (pss_one (ps_ret (pv 3)))))), rd vs H Q E h⟩
theorem sc_side_of : FnScope N_side_of ["net", "flow", "start"] (defScope s_side_of) := ⟨rfl, rfl, rfl, by decide +kernel, rfl, by decide +kernel, by decide +kernel⟩
theorem ok_side_of {P : Program} {w : World} {K : PySem.W.Frag} {mg : Str → Option Value} {base : Heap} (D : DefAt K mg "side_of" s_side_of) (B : Bl mg) (C_search : Cal P w K mg base CX0 1 "search" ["net", "flow", "start"] (sp_search K))
    (rd : ∀ (vs : List V) (H : Hp) (Q : VK) (E : XK), (sp_side_of K) vs H Q E → t_side_of K { nx := fun _ H' => Q .non H', rt := Q } (start N_side_of vs) H) : Cal P w K mg base CX0 2 "side_of" ["net", "flow", "start"] (sp_side_of K) := by
  refine mk_cal (N := N_side_of) D sc_side_of (fun _ _ _ _ _ _ us hl => match us, hl with | [_, _, _], _ => rfl) (fun vs H Q E h => ?_) (fun f cdv A outer s H vs Q E hr h => ?_)
  · first
      | (obtain ⟨_, hd, _⟩ := h; exact dpAll_len hd)
      | (obtain ⟨_, _, hd, _⟩ := h; exact dpAll_len hd)
      | (obtain ⟨_, _, _, hd, _⟩ := h; exact dpAll_len hd)
      | (obtain ⟨_, _, _, _, hd, _⟩ := h; exact dpAll_len hd)
      | (obtain ⟨_, rfl, _⟩ := h; rfl)
      | (obtain ⟨_, _, rfl, _⟩ := h; rfl)
      | (obtain ⟨_, _, _, rfl, _⟩ := h; rfl)
      | (obtain ⟨_, _, _, _, rfl, _⟩ := h; rfl)
      | (obtain ⟨_, _, _, _, _, rfl, _⟩ := h; rfl)
  · have nd := (sc_side_of).nd
    have hu := hu_of hr
    exact ⟨t_side_of K, (pss_cons (ps_set (i := 3) nd rfl (Or.inr rfl) (pe_cal C_search (hr.mono (by decide)) (by rfl) pass0 (pa_cons (pv 0) (pa_cons (pv 1) (pa_cons (pv 2) pa_nil))))) (pss_cons (ps_setLc (i := 4) (own := [("mark", 5)]) (g := (gName 5)) (tt := (tTest (tOp rNotN (tOp (rIx K) (tVar 3) (tVar 5)) (tC .non)))) rfl nd rfl rfl (sw_true rfl rfl rfl (by decide +kernel)) (pi_range1 (by rfl) B.range (pa_cons (pe_callB call_len_seq (by rfl) B.len PySem.boot_len (pa_cons (pe_ix ix_seq (pv 0) pe_int (fun _ _ => rfl)) pa_nil)) pa_nil)) (blkOk_by (N := N_side_of) (sc := defScope s_side_of) (by decide +kernel)) (fun _ _ _ _ _ => (pg_name (i := 5) nd rfl (Or.inl rfl))) (fun _ _ _ _ _ => (pts_one (pt_cmpR op_notN (pe_ix ix_seq (pv 3) (pv 5) (fun _ _ => rfl)) pe_non (nomark _)))) (fun _ _ _ _ _ => (pv 5))) (pss_cons (ps_if (pt_cmpR op_in_seq pe_int (pv 4) (by rfl)) (pss_one (ps_setLc (i := 4) (own := [("mark", 5)]) (g := (gName 5)) (tt := (tTest (tOp rIsN (tOp (rIx K) (tVar 3) (tVar 5)) (tC .non)))) rfl nd rfl rfl (sw_true rfl rfl rfl (by decide +kernel)) (pi_range1 (by rfl) B.range (pa_cons (pe_callB call_len_seq (by rfl) B.len PySem.boot_len (pa_cons (pe_ix ix_seq (pv 0) pe_int (fun _ _ => rfl)) pa_nil)) pa_nil)) (blkOk_by (N := N_side_of) (sc := defScope s_side_of) (by decide +kernel)) (fun _ _ _ _ _ => (pg_name (i := 5) nd rfl (Or.inl rfl))) (fun _ _ _ _ _ => (pts_one (pt_cmpR op_isN (pe_ix ix_seq (pv 3) (pv 5) (fun _ _ => rfl)) pe_non (nomark _)))) (fun _ _ _ _ _ => (pv 5)))) pss_nil) (pss_one (ps_ret (pe_callTy call_tuple_of (by rfl) B.tuple (by decide +kernel) (pa_cons (pv 4) pa_nil))))))), rd vs H Q E h⟩
theorem sc_next_reading : FnScope N_next_reading ["net", "flow", "mark"] (defScope s_next_reading) := ⟨rfl, rfl, rfl, by decide +kernel, rfl, by decide +kernel, by decide +kernel⟩
theorem ok_next_reading {P : Program} {w : World} {K : PySem.W.Frag} {mg : Str → Option Value} {base : Heap} (D : DefAt K mg "next_reading" s_next_reading) (B : Bl mg) 
    (rd : ∀ (vs : List V) (H : Hp) (Q : VK) (E : XK), (sp_next_reading K) vs H Q E → t_next_reading K { nx := fun _ H' => Q .non H', rt := Q } (start N_next_reading vs) H) : Cal P w K mg base CX0 1 "next_reading" ["net", "flow", "mark"] (sp_next_reading K) := by
  refine mk_cal (N := N_next_reading) D sc_next_reading (fun _ _ _ _ _ _ us hl => match us, hl with | [_, _, _], _ => rfl) (fun vs H Q E h => ?_) (fun f cdv A outer s H vs Q E hr h => ?_)
  · first
      | (obtain ⟨_, hd, _⟩ := h; exact dpAll_len hd)
      | (obtain ⟨_, _, hd, _⟩ := h; exact dpAll_len hd)
      | (obtain ⟨_, _, _, hd, _⟩ := h; exact dpAll_len hd)
      | (obtain ⟨_, _, _, _, hd, _⟩ := h; exact dpAll_len hd)
      | (obtain ⟨_, rfl, _⟩ := h; rfl)
      | (obtain ⟨_, _, rfl, _⟩ := h; rfl)
      | (obtain ⟨_, _, _, rfl, _⟩ := h; rfl)
      | (obtain ⟨_, _, _, _, rfl, _⟩ := h; rfl)
      | (obtain ⟨_, _, _, _, _, rfl, _⟩ := h; rfl)
  · have nd := (sc_next_reading).nd
    have hu := hu_of hr
    exact ⟨t_next_reading K, (pss_cons (ps_for PassesOwn.never rfl (pi_enumT (by rfl) B.enumerate (pa_cons (pe_ix ix_seq (pv 0) pe_int (fun _ _ => rfl)) pa_nil)) (pg_tup rfl (pgs_cons (pg_name (i := 3) nd rfl (Or.inl rfl)) (pgs_cons (pg_name (i := 4) nd rfl (Or.inl rfl)) pgs_nil))) (pss_one (ps_if (PW.pt (pw_or (PW.pt (pw_and (pt_cmpR op_eq (pe_ix ix_seq (pv 4) pe_int (fun _ _ => rfl)) (pv 2) (nomark _)) (pw_and1 (pt_cmpR op_eq (pe_ix ix_seq (pv 1) (pv 3) (fun _ _ => rfl)) pe_int (nomark _))))) (pw_or1 (PW.pt (pw_and (pt_cmpR op_eq (pe_ix ix_seq (pv 4) pe_int (fun _ _ => rfl)) (pv 2) (nomark _)) (pw_and1 (pt_cmpR op_eq (pe_ix ix_seq (pv 1) (pv 3) (fun _ _ => rfl)) (pe_un un_neg pe_int) (nomark _)))))))) (pss_one (ps_ret (pv 3))) pss_nil))) (pss_one (ps_ret (pe_un un_neg pe_int)))), rd vs H Q E h⟩
theorem sc_ways_of : FnScope N_ways_of ["net", "flow", "start", "end"] (defScope s_ways_of) := ⟨rfl, rfl, rfl, by decide +kernel, rfl, by decide +kernel, by decide +kernel⟩
theorem ok_ways_of {P : Program} {w : World} {K : PySem.W.Frag} {mg : Str → Option Value} {base : Heap} (D : DefAt K mg "ways_of" s_ways_of) (B : Bl mg) (C_next_reading : Cal P w K mg base CX0 1 "next_reading" ["net", "flow", "mark"] (sp_next_reading K))
    (rd : ∀ (vs : List V) (H : Hp) (Q : VK) (E : XK), (sp_ways_of K) vs H Q E → t_ways_of K { nx := fun _ H' => Q .non H', rt := Q } (start N_ways_of vs) H) : Cal P w K mg base CX0 2 "ways_of" ["net", "flow", "start", "end"] (sp_ways_of K) := by
  refine mk_cal (N := N_ways_of) D sc_ways_of (fun _ _ _ _ _ _ us hl => match us, hl with | [_, _, _, _], _ => rfl) (fun vs H Q E h => ?_) (fun f cdv A outer s H vs Q E hr h => ?_)
  · first
      | (obtain ⟨_, hd, _⟩ := h; exact dpAll_len hd)
      | (obtain ⟨_, _, hd, _⟩ := h; exact dpAll_len hd)
      | (obtain ⟨_, _, _, hd, _⟩ := h; exact dpAll_len hd)
      | (obtain ⟨_, _, _, _, hd, _⟩ := h; exact dpAll_len hd)
      | (obtain ⟨_, rfl, _⟩ := h; rfl)
      | (obtain ⟨_, _, rfl, _⟩ := h; rfl)
      | (obtain ⟨_, _, _, rfl, _⟩ := h; rfl)
      | (obtain ⟨_, _, _, _, rfl, _⟩ := h; rfl)
      | (obtain ⟨_, _, _, _, _, rfl, _⟩ := h; rfl)
  · have nd := (sc_ways_of).nd
    have hu := hu_of hr
    exact ⟨t_ways_of K, (pss_cons (ps_set (i := 1) nd rfl (Or.inl rfl) (pe_callTy call_list_of (by rfl) B.list (by decide +kernel) (pa_cons (pv 1) pa_nil))) (pss_cons (ps_set (i := 4) nd rfl (Or.inl rfl) (pe_lst pa_nil)) (pss_cons (ps_while PassesOwn.never (pt_cmpR op_ge (pe_cal C_next_reading (hr.mono (by decide)) (by rfl) pass0 (pa_cons (pv 0) (pa_cons (pv 1) (pa_cons (pv 2) pa_nil)))) pe_int (nomark _)) (pss_cons (ps_set (i := 5) nd rfl (Or.inl rfl) (pv 2)) (pss_cons (ps_set (i := 6) nd rfl (Or.inl rfl) (pe_lst pa_nil)) (pss_cons (ps_while PassesOwn.never (pt_cmpR op_ne (pv 5) (pv 3) (nomark _)) (pss_cons (ps_set (i := 7) nd rfl (Or.inl rfl) (pe_cal C_next_reading (hr.mono (by decide)) (by rfl) pass0 (pa_cons (pv 0) (pa_cons (pv 1) (pa_cons (pv 5) pa_nil))))) (pss_cons (ps_asg (pe_ix ix_seq (pe_ix ix_seq (pv 0) pe_int (fun _ _ => rfl)) (pv 7) (fun _ _ => rfl)) (pg_tup rfl (pgs_cons (pg_name (i := 8) nd rfl (Or.inl rfl)) (pgs_cons (pg_name (i := 9) nd rfl (Or.inl rfl)) (pgs_cons (pg_name (i := 10) nd rfl (Or.inl rfl)) pgs_nil))))) (pss_cons (ps_expr (pe_bm PySem.F.plainAttrs_list PySem.F.slot_list_append PySem.F.type_list_append mt_append (pv 6) (pa_cons (pv 7) pa_nil))) (pss_cons (ps_asg pe_int (pg_sub (pv 1) (pv 7) set_list)) (pss_one (ps_set (i := 5) nd rfl (Or.inl rfl) (pe_op op_sub (pe_op op_add (pv 8) (pv 9)) (pv 5))))))))) (pss_one (ps_expr (pe_bm PySem.F.plainAttrs_list PySem.F.slot_list_append PySem.F.type_list_append mt_append (pv 4) (pa_cons (pe_callTy call_tuple_of (by rfl) B.tuple (by decide +kernel) (pa_cons (pv 6) pa_nil)) pa_nil)))))))) (pss_one (ps_ret (pe_callTy call_tuple_of (by rfl) B.tuple (by decide +kernel) (pa_cons (pv 4) pa_nil))))))), rd vs H Q E h⟩
theorem sc_least_cut : FnScope N_least_cut ["net", "one", "other"] (defScope s_least_cut) := ⟨rfl, rfl, rfl, by decide +kernel, rfl, by decide +kernel, by decide +kernel⟩
theorem ok_least_cut {P : Program} {w : World} {K : PySem.W.Frag} {mg : Str → Option Value} {base : Heap} (D : DefAt K mg "least_cut" s_least_cut) (B : Bl mg) (C_greatest_flow : Cal P w K mg base CX0 2 "greatest_flow" ["net", "start", "end"] (sp_greatest_flow K)) (C_side_of : Cal P w K mg base CX0 2 "side_of" ["net", "flow", "start"] (sp_side_of K)) (C_ways_of : Cal P w K mg base CX0 2 "ways_of" ["net", "flow", "start", "end"] (sp_ways_of K))
    (rd : ∀ (vs : List V) (H : Hp) (Q : VK) (E : XK), (sp_least_cut K) vs H Q E → t_least_cut K { nx := fun _ H' => Q .non H', rt := Q } (start N_least_cut vs) H) : Cal P w K mg base CX0 3 "least_cut" ["net", "one", "other"] (sp_least_cut K) := by
  refine mk_cal (N := N_least_cut) D sc_least_cut (fun _ _ _ _ _ _ us hl => match us, hl with | [_, _, _], _ => rfl) (fun vs H Q E h => ?_) (fun f cdv A outer s H vs Q E hr h => ?_)
  · first
      | (obtain ⟨_, hd, _⟩ := h; exact dpAll_len hd)
      | (obtain ⟨_, _, hd, _⟩ := h; exact dpAll_len hd)
      | (obtain ⟨_, _, _, hd, _⟩ := h; exact dpAll_len hd)
      | (obtain ⟨_, _, _, _, hd, _⟩ := h; exact dpAll_len hd)
      | (obtain ⟨_, rfl, _⟩ := h; rfl)
      | (obtain ⟨_, _, rfl, _⟩ := h; rfl)
      | (obtain ⟨_, _, _, rfl, _⟩ := h; rfl)
      | (obtain ⟨_, _, _, _, rfl, _⟩ := h; rfl)
      | (obtain ⟨_, _, _, _, _, rfl, _⟩ := h; rfl)
  · have nd := (sc_least_cut).nd
    have hu := hu_of hr
    exact ⟨t_least_cut K, (pss_cons (ps_set (i := 3) nd rfl (Or.inl rfl) (pe_cal C_greatest_flow (hr.mono (by decide)) (by rfl) pass0 (pa_cons (pv 0) (pa_cons (pv 1) (pa_cons (pv 2) pa_nil))))) (pss_one (ps_ret (pe_tup (pa_cons (pe_cal C_side_of (hr.mono (by decide)) (by rfl) pass0 (pa_cons (pv 0) (pa_cons (pv 3) (pa_cons (pv 1) pa_nil)))) (pa_cons (pe_cal C_ways_of (hr.mono (by decide)) (by rfl) pass0 (pa_cons (pv 0) (pa_cons (pv 3) (pa_cons (pv 1) (pa_cons (pv 2) pa_nil))))) pa_nil)))))), rd vs H Q E h⟩
theorem sc_strength_paper : FnScope N_strength_paper ["net"] (defScope s_strength_paper) := ⟨rfl, rfl, rfl, by decide +kernel, rfl, by decide +kernel, by decide +kernel⟩
theorem ok_strength_paper {P : Program} {w : World} {K : PySem.W.Frag} {mg : Str → Option Value} {base : Heap} (D : DefAt K mg "strength_paper" s_strength_paper) (B : Bl mg) (C_least_cut : Cal P w K mg base CX0 3 "least_cut" ["net", "one", "other"] (sp_least_cut K))
    (rd : ∀ (vs : List V) (H : Hp) (Q : VK) (E : XK), (sp_strength_paper K) vs H Q E → t_strength_paper K { nx := fun _ H' => Q .non H', rt := Q } (start N_strength_paper vs) H) : Cal P w K mg base CX0 4 "strength_paper" ["net"] (sp_strength_paper K) := by
  refine mk_cal (N := N_strength_paper) D sc_strength_paper (fun _ _ _ _ _ _ us hl => match us, hl with | [_], _ => rfl) (fun vs H Q E h => ?_) (fun f cdv A outer s H vs Q E hr h => ?_)
  · first
      | (obtain ⟨_, hd, _⟩ := h; exact dpAll_len hd)
      | (obtain ⟨_, _, hd, _⟩ := h; exact dpAll_len hd)
      | (obtain ⟨_, _, _, hd, _⟩ := h; exact dpAll_len hd)
      | (obtain ⟨_, _, _, _, hd, _⟩ := h; exact dpAll_len hd)
      | (obtain ⟨_, rfl, _⟩ := h; rfl)
      | (obtain ⟨_, _, rfl, _⟩ := h; rfl)
      | (obtain ⟨_, _, _, rfl, _⟩ := h; rfl)
      | (obtain ⟨_, _, _, _, rfl, _⟩ := h; rfl)
      | (obtain ⟨_, _, _, _, _, rfl, _⟩ := h; rfl)
  · have nd := (sc_strength_paper).nd
    have hu := hu_of hr
    exact ⟨t_strength_paper K, (pss_cons (ps_if (pt_cmpR op_eq (pe_callB call_len_seq (by rfl) B.len PySem.boot_len (pa_cons (pe_ix ix_seq (pv 0) pe_int (fun _ _ => rfl)) pa_nil)) pe_int (nomark _)) (pss_one (ps_ret (pe_tup (pa_cons pe_str (pa_cons (pe_un un_neg pe_int) (pa_cons (pe_tup pa_nil) (pa_cons (pe_tup pa_nil) pa_nil))))))) pss_nil) (pss_cons (ps_setLc (i := 1) (own := [("mark", 2)]) (g := (gName 2)) (tt := tYes) rfl nd rfl rfl (sw_true rfl rfl rfl (by decide +kernel)) (pi_range2 (by rfl) B.range (pa_cons pe_int (pa_cons (pe_callB call_len_seq (by rfl) B.len PySem.boot_len (pa_cons (pe_ix ix_seq (pv 0) pe_int (fun _ _ => rfl)) pa_nil)) pa_nil))) (blkOk_by (N := N_strength_paper) (sc := defScope s_strength_paper) (by decide +kernel)) (fun _ _ _ _ _ => (pg_name (i := 2) nd rfl (Or.inl rfl))) (fun _ _ _ _ _ => pts_nil) (fun _ _ _ _ _ => (pe_cal C_least_cut (hr.mono (by decide)) (by rfl) pass0 (pa_cons (pv 0) (pa_cons pe_int (pa_cons (pv 2) pa_nil)))))) (pss_cons (ps_asg (pe_callB (cr_minD rfl hr.units) (by rfl) B.min (by decide +kernel) (pa_cons (pe_lc (own := [("place", 4), ("cut", 5)]) (g := (gTup K 2 (gCons (gName 4) (gCons (gName 5) gNil)))) (tt := tYes) rfl nd (pi_enum (by rfl) B.enumerate (pa_cons (pv 1) pa_nil)) (blkOk_by (N := N_strength_paper) (sc := defScope s_strength_paper) (by decide +kernel)) (fun _ _ _ _ _ => (pg_tup rfl (pgs_cons (pg_name (i := 4) nd rfl (Or.inl rfl)) (pgs_cons (pg_name (i := 5) nd rfl (Or.inl rfl)) pgs_nil)))) (fun _ _ _ _ _ => pts_nil) (fun _ _ _ _ _ => (pe_tup (pa_cons (pe_callB call_len_seq (by rfl) B.len PySem.boot_len (pa_cons (pe_ix ix_seq (pv 5) pe_int (fun _ _ => rfl)) pa_nil)) (pa_cons (pv 4) pa_nil))))) pa_nil)) (pg_tup rfl (pgs_cons (pg_name (i := 3) nd rfl (Or.inr rfl)) (pgs_cons (pg_name (i := 4) nd rfl (Or.inl rfl)) pgs_nil)))) (pss_one (ps_ret (pe_tup (pa_cons pe_str (pa_cons (pv 3) (pa_cons (pe_ix ix_seq (pe_ix ix_seq (pv 1) (pv 4) (fun _ _ => rfl)) pe_int (fun _ _ => rfl)) (pa_cons (pe_callTy call_tuple_of (by rfl) B.tuple (by decide +kernel) (pa_cons (pe_lc (own := [("cut", 5)]) (g := (gName 5)) (tt := tYes) rfl nd (pi_list (pv 1)) (blkOk_by (N := N_strength_paper) (sc := defScope s_strength_paper) (by decide +kernel)) (fun _ _ _ _ _ => (pg_name (i := 5) nd rfl (Or.inl rfl))) (fun _ _ _ _ _ => pts_nil) (fun _ _ _ _ _ => (pe_slice sl_tupA (pe_ix ix_seq (pv 5) pe_int (fun _ _ => rfl)) po_none (po_some (pv 3))))) pa_nil)) pa_nil)))))))))), rd vs H Q E h⟩
theorem sc_strength : FnScope N_strength ["net"] (defScope s_strength) := ⟨rfl, rfl, rfl, by decide +kernel, rfl, by decide +kernel, by decide +kernel⟩
theorem ok_strength {P : Program} {w : World} {K : PySem.W.Frag} {mg : Str → Option Value} {base : Heap} (D : DefAt K mg "strength" s_strength) (B : Bl mg) (C_strength_paper : Cal P w K mg base CX0 4 "strength_paper" ["net"] (sp_strength_paper K))
    (rd : ∀ (vs : List V) (H : Hp) (Q : VK) (E : XK), (sp_strength K) vs H Q E → t_strength K { nx := fun _ H' => Q .non H', rt := Q } (start N_strength vs) H) : Cal P w K mg base CX0 5 "strength" ["net"] (sp_strength K) := by
  refine mk_cal (N := N_strength) D sc_strength (fun _ _ _ _ _ _ us hl => match us, hl with | [_], _ => rfl) (fun vs H Q E h => ?_) (fun f cdv A outer s H vs Q E hr h => ?_)
  · first
      | (obtain ⟨_, hd, _⟩ := h; exact dpAll_len hd)
      | (obtain ⟨_, _, hd, _⟩ := h; exact dpAll_len hd)
      | (obtain ⟨_, _, _, hd, _⟩ := h; exact dpAll_len hd)
      | (obtain ⟨_, _, _, _, hd, _⟩ := h; exact dpAll_len hd)
      | (obtain ⟨_, rfl, _⟩ := h; rfl)
      | (obtain ⟨_, _, rfl, _⟩ := h; rfl)
      | (obtain ⟨_, _, _, rfl, _⟩ := h; rfl)
      | (obtain ⟨_, _, _, _, rfl, _⟩ := h; rfl)
      | (obtain ⟨_, _, _, _, _, rfl, _⟩ := h; rfl)
  · have nd := (sc_strength).nd
    have hu := hu_of hr
    exact ⟨t_strength K, (pss_one (ps_ret (pe_ix ix_seq (pe_cal C_strength_paper (hr.mono (by decide)) (by rfl) pass0 (pa_cons (pv 0) pa_nil)) pe_int (fun _ _ => rfl)))), rd vs H Q E h⟩
theorem sc_check_worlds : FnScope N_check_worlds ["net", "k"] (defScope s_check_worlds) := ⟨rfl, rfl, rfl, by decide +kernel, rfl, by decide +kernel, by decide +kernel⟩
theorem ok_check_worlds {P : Program} {w : World} {K : PySem.W.Frag} {mg : Str → Option Value} {base : Heap} {C : Addr} (D : DefAt K mg "check_worlds" s_check_worlds) (B : Bl mg) (C_strength : Cal P w K mg base CX0 5 "strength" ["net"] (sp_strength K)) (bs : Bs K mg C)
    (rd : ∀ (vs : List V) (H : Hp) (Q : VK) (E : XK), (sp_check_worlds K C) vs H Q E → t_check_worlds K C E { nx := fun _ H' => Q .non H', rt := Q } (start N_check_worlds vs) H) : Cal P w K mg base (L2.CX P w) 6 "check_worlds" ["net", "k"] (sp_check_worlds K C) := by
  refine mk_calX (N := N_check_worlds) D sc_check_worlds (fun _ _ _ _ _ _ us hl => match us, hl with | [_, _], _ => rfl) (fun vs H Q E h => ?_) (fun f cdv A outer s H vs Q E hr h => ?_)
  · first
      | (obtain ⟨_, hd, _⟩ := h; exact dpAll_len hd)
      | (obtain ⟨_, _, hd, _⟩ := h; exact dpAll_len hd)
      | (obtain ⟨_, _, _, hd, _⟩ := h; exact dpAll_len hd)
      | (obtain ⟨_, _, _, _, hd, _⟩ := h; exact dpAll_len hd)
      | (obtain ⟨_, rfl, _⟩ := h; rfl)
      | (obtain ⟨_, _, rfl, _⟩ := h; rfl)
      | (obtain ⟨_, _, _, rfl, _⟩ := h; rfl)
      | (obtain ⟨_, _, _, _, rfl, _⟩ := h; rfl)
      | (obtain ⟨_, _, _, _, _, rfl, _⟩ := h; rfl)
  · have nd := (sc_check_worlds).nd
    have hu := hu_of hr
    exact ⟨t_check_worlds K C E, (pss_one (ps_if (PW.pt (pw_and (pt_cmpR op_gt (pe_callB call_len_seq (by rfl) B.len PySem.boot_len (pa_cons (pe_ix ix_seq (pv 0) pe_int (fun _ _ => rfl)) pa_nil)) pe_int (nomark _)) (pw_and1 (pt_cmpR op_lt (pe_cal C_strength (hr.mono (by decide)) (by rfl) pass0 (pa_cons (pv 0) pa_nil)) (pe_op op_add (pv 1) pe_int) (nomark _))))) (pss_one (ps_raise rfl (takes_of rfl rfl rfl rfl) (pmk_bs PySem.F.excBase_ValueError bs.x bs.g bs.k (raises_own bs.b bs.t) (by rfl)))) pss_nil)), rd vs H Q E h⟩
theorem sc_count_lies : FnScope N_count_lies ["net", "heights"] (defScope s_count_lies) := ⟨rfl, rfl, rfl, by decide +kernel, rfl, by decide +kernel, by decide +kernel⟩
theorem ok_count_lies {P : Program} {w : World} {K : PySem.W.Frag} {mg : Str → Option Value} {base : Heap} (D : DefAt K mg "count_lies" s_count_lies) (B : Bl mg) 
    (rd : ∀ (vs : List V) (H : Hp) (Q : VK) (E : XK), (sp_count_lies K) vs H Q E → t_count_lies K { nx := fun _ H' => Q .non H', rt := Q } (start N_count_lies vs) H) : Cal P w K mg base CX0 1 "count_lies" ["net", "heights"] (sp_count_lies K) := by
  refine mk_cal (N := N_count_lies) D sc_count_lies (fun _ _ _ _ _ _ us hl => match us, hl with | [_, _], _ => rfl) (fun vs H Q E h => ?_) (fun f cdv A outer s H vs Q E hr h => ?_)
  · first
      | (obtain ⟨_, hd, _⟩ := h; exact dpAll_len hd)
      | (obtain ⟨_, _, hd, _⟩ := h; exact dpAll_len hd)
      | (obtain ⟨_, _, _, hd, _⟩ := h; exact dpAll_len hd)
      | (obtain ⟨_, _, _, _, hd, _⟩ := h; exact dpAll_len hd)
      | (obtain ⟨_, rfl, _⟩ := h; rfl)
      | (obtain ⟨_, _, rfl, _⟩ := h; rfl)
      | (obtain ⟨_, _, _, rfl, _⟩ := h; rfl)
      | (obtain ⟨_, _, _, _, rfl, _⟩ := h; rfl)
      | (obtain ⟨_, _, _, _, _, rfl, _⟩ := h; rfl)
  · have nd := (sc_count_lies).nd
    have hu := hu_of hr
    exact ⟨t_count_lies K, (pss_cons (ps_set (i := 2) nd rfl (Or.inl rfl) pe_int) (pss_cons (ps_for PassesOwn.never rfl (pi_tup (pe_ix ix_seq (pv 0) pe_int (fun _ _ => rfl))) (pg_tup rfl (pgs_cons (pg_name (i := 3) nd rfl (Or.inl rfl)) (pgs_cons (pg_name (i := 4) nd rfl (Or.inl rfl)) (pgs_cons (pg_name (i := 5) nd rfl (Or.inl rfl)) pgs_nil)))) (pss_one (ps_if (PW.pt (pw_and (pt_cmpR op_notN (pe_ix ix_seq (pv 1) (pv 3) (fun _ _ => rfl)) pe_non (nomark _)) (pw_and1 (pt_cmpR op_notN (pe_ix ix_seq (pv 1) (pv 4) (fun _ _ => rfl)) pe_non (nomark _))))) (pss_one (ps_set (i := 2) nd rfl (Or.inl rfl) (pe_op op_add (pv 2) (pe_callTy call_int1 (by rfl) B.int (by decide +kernel) (pa_cons (pe_cmpR op_ne (pe_op op_sub (pe_ix ix_seq (pv 1) (pv 4) (fun _ _ => rfl)) (pe_ix ix_seq (pv 1) (pv 3) (fun _ _ => rfl))) (pv 5) (nomark _)) pa_nil))))) pss_nil))) (pss_one (ps_ret (pv 2))))), rd vs H Q E h⟩
theorem sc_height_by : FnScope N_height_by ["reading", "heights"] (defScope s_height_by) := ⟨rfl, rfl, rfl, by decide +kernel, rfl, by decide +kernel, by decide +kernel⟩
theorem ok_height_by {P : Program} {w : World} {K : PySem.W.Frag} {mg : Str → Option Value} {base : Heap} (D : DefAt K mg "height_by" s_height_by) (B : Bl mg) 
    (rd : ∀ (vs : List V) (H : Hp) (Q : VK) (E : XK), (sp_height_by K) vs H Q E → t_height_by K { nx := fun _ H' => Q .non H', rt := Q } (start N_height_by vs) H) : Cal P w K mg base CX0 1 "height_by" ["reading", "heights"] (sp_height_by K) := by
  refine mk_cal (N := N_height_by) D sc_height_by (fun _ _ _ _ _ _ us hl => match us, hl with | [_, _], _ => rfl) (fun vs H Q E h => ?_) (fun f cdv A outer s H vs Q E hr h => ?_)
  · first
      | (obtain ⟨_, hd, _⟩ := h; exact dpAll_len hd)
      | (obtain ⟨_, _, hd, _⟩ := h; exact dpAll_len hd)
      | (obtain ⟨_, _, _, hd, _⟩ := h; exact dpAll_len hd)
      | (obtain ⟨_, _, _, _, hd, _⟩ := h; exact dpAll_len hd)
      | (obtain ⟨_, rfl, _⟩ := h; rfl)
      | (obtain ⟨_, _, rfl, _⟩ := h; rfl)
      | (obtain ⟨_, _, _, rfl, _⟩ := h; rfl)
      | (obtain ⟨_, _, _, _, rfl, _⟩ := h; rfl)
      | (obtain ⟨_, _, _, _, _, rfl, _⟩ := h; rfl)
  · have nd := (sc_height_by).nd
    have hu := hu_of hr
    exact ⟨t_height_by K, (pss_cons (ps_asg (pv 0) (pg_tup rfl (pgs_cons (pg_name (i := 2) nd rfl (Or.inl rfl)) (pgs_cons (pg_name (i := 3) nd rfl (Or.inl rfl)) (pgs_cons (pg_name (i := 4) nd rfl (Or.inl rfl)) pgs_nil))))) (pss_cons (ps_if (PW.pt (pw_and (pt_cmpR op_notN (pe_ix ix_seq (pv 1) (pv 2) (fun _ _ => rfl)) pe_non (nomark _)) (pw_and1 (pt_cmpR op_isN (pe_ix ix_seq (pv 1) (pv 3) (fun _ _ => rfl)) pe_non (nomark _))))) (pss_one (ps_ret (pe_tup (pa_cons (pv 3) (pa_cons (pe_op op_add (pe_ix ix_seq (pv 1) (pv 2) (fun _ _ => rfl)) (pv 4)) pa_nil))))) pss_nil) (pss_cons (ps_if (PW.pt (pw_and (pt_cmpR op_isN (pe_ix ix_seq (pv 1) (pv 2) (fun _ _ => rfl)) pe_non (nomark _)) (pw_and1 (pt_cmpR op_notN (pe_ix ix_seq (pv 1) (pv 3) (fun _ _ => rfl)) pe_non (nomark _))))) (pss_one (ps_ret (pe_tup (pa_cons (pv 2) (pa_cons (pe_op op_sub (pe_ix ix_seq (pv 1) (pv 3) (fun _ _ => rfl)) (pv 4)) pa_nil))))) pss_nil) (pss_one (ps_ret pe_non))))), rd vs H Q E h⟩
theorem sc_further : FnScope N_further ["net", "k", "heights"] (defScope s_further) := ⟨rfl, rfl, rfl, by decide +kernel, rfl, by decide +kernel, by decide +kernel⟩
theorem ok_further {P : Program} {w : World} {K : PySem.W.Frag} {mg : Str → Option Value} {base : Heap} (D : DefAt K mg "further" s_further) (B : Bl mg) (C_count_lies : Cal P w K mg base CX0 1 "count_lies" ["net", "heights"] (sp_count_lies K)) (C_height_by : Cal P w K mg base CX0 1 "height_by" ["reading", "heights"] (sp_height_by K))
    (rd : ∀ (vs : List V) (H : Hp) (Q : VK) (E : XK), (sp_further K) vs H Q E → t_further K { nx := fun _ H' => Q .non H', rt := Q } (start N_further vs) H) : Cal P w K mg base CX0 2 "further" ["net", "k", "heights"] (sp_further K) := by
  refine mk_cal (N := N_further) D sc_further (fun _ _ _ _ _ _ us hl => match us, hl with | [_, _, _], _ => rfl) (fun vs H Q E h => ?_) (fun f cdv A outer s H vs Q E hr h => ?_)
  · first
      | (obtain ⟨_, hd, _⟩ := h; exact dpAll_len hd)
      | (obtain ⟨_, _, hd, _⟩ := h; exact dpAll_len hd)
      | (obtain ⟨_, _, _, hd, _⟩ := h; exact dpAll_len hd)
      | (obtain ⟨_, _, _, _, hd, _⟩ := h; exact dpAll_len hd)
      | (obtain ⟨_, rfl, _⟩ := h; rfl)
      | (obtain ⟨_, _, rfl, _⟩ := h; rfl)
      | (obtain ⟨_, _, _, rfl, _⟩ := h; rfl)
      | (obtain ⟨_, _, _, _, rfl, _⟩ := h; rfl)
      | (obtain ⟨_, _, _, _, _, rfl, _⟩ := h; rfl)
  · have nd := (sc_further).nd
    have hu := hu_of hr
    exact ⟨t_further K, (pss_cons (ps_setLc (i := 3) (own := [("reading", 4)]) (g := (gName 4)) (tt := tYes) rfl nd rfl rfl (sw_true rfl rfl rfl (by decide +kernel)) (pi_tup (pe_ix ix_seq (pv 0) pe_int (fun _ _ => rfl))) (blkOk_by (N := N_further) (sc := defScope s_further) (by decide +kernel)) (fun _ _ _ _ _ => (pg_name (i := 4) nd rfl (Or.inl rfl))) (fun _ _ _ _ _ => pts_nil) (fun _ _ _ _ _ => (pe_cal C_height_by (hr.mono (by decide)) (by rfl) pass0 (pa_cons (pv 4) (pa_cons (pv 2) pa_nil))))) (pss_cons (ps_set (i := 5) nd rfl (Or.inl rfl) (pe_op op_sub (pv 1) (pe_cal C_count_lies (hr.mono (by decide)) (by rfl) pass0 (pa_cons (pv 0) (pa_cons (pv 2) pa_nil))))) (pss_cons (ps_set (i := 6) nd rfl (Or.inl rfl) (pe_lst pa_nil)) (pss_cons (ps_for PassesOwn.never rfl (pi_list (pe_slice sl_list (pe_lc (own := [("pair", 7)]) (g := (gName 7)) (tt := (tTest (tOp rNotN (tVar 7) (tC .non)))) rfl nd (pi_list (pv 3)) (blkOk_by (N := N_further) (sc := defScope s_further) (by decide +kernel)) (fun _ _ _ _ _ => (pg_name (i := 7) nd rfl (Or.inl rfl))) (fun _ _ _ _ _ => (pts_one (pt_cmpR op_notN (pv 7) pe_non (nomark _)))) (fun _ _ _ _ _ => (pv 7))) po_none (po_some (pe_op op_add (pv 5) pe_int)))) (pg_name (i := 7) nd rfl (Or.inl rfl)) (pss_cons (ps_set (i := 8) nd rfl (Or.inl rfl) (pe_op op_catA (pe_op op_catA (pe_slice sl_tupA (pv 2) po_none (po_some (pe_ix ix_seq (pv 7) pe_int (fun _ _ => rfl)))) (pe_tup (pa_cons (pe_ix ix_seq (pv 7) pe_int (fun _ _ => rfl)) pa_nil))) (pe_slice sl_tupA (pv 2) (po_some (pe_op op_add (pe_ix ix_seq (pv 7) pe_int (fun _ _ => rfl)) pe_int)) po_none))) (pss_one (ps_if (PW.pt (pw_and (pt_cmpR (op_notInD (units65 hr)) (pv 8) (pv 6) (by rfl)) (pw_and1 (pt_cmpR op_le (pe_cal C_count_lies (hr.mono (by decide)) (by rfl) pass0 (pa_cons (pv 0) (pa_cons (pv 8) pa_nil))) (pv 1) (nomark _))))) (pss_one (ps_expr (pe_bm PySem.F.plainAttrs_list PySem.F.slot_list_append PySem.F.type_list_append mt_append (pv 6) (pa_cons (pv 8) pa_nil)))) pss_nil)))) (pss_one (ps_ret (pv 6))))))), rd vs H Q E h⟩
theorem sc_known_key : FnScope N_known_key ["heights"] (defScope s_known_key) := ⟨rfl, rfl, rfl, by decide +kernel, rfl, by decide +kernel, by decide +kernel⟩
theorem ok_known_key {P : Program} {w : World} {K : PySem.W.Frag} {mg : Str → Option Value} {base : Heap} (D : DefAt K mg "known_key" s_known_key) (B : Bl mg) 
    (rd : ∀ (vs : List V) (H : Hp) (Q : VK) (E : XK), (sp_known_key K) vs H Q E → t_known_key K { nx := fun _ H' => Q .non H', rt := Q } (start N_known_key vs) H) : Cal P w K mg base CX0 1 "known_key" ["heights"] (sp_known_key K) := by
  refine mk_cal (N := N_known_key) D sc_known_key (fun _ _ _ _ _ _ us hl => match us, hl with | [_], _ => rfl) (fun vs H Q E h => ?_) (fun f cdv A outer s H vs Q E hr h => ?_)
  · first
      | (obtain ⟨_, hd, _⟩ := h; exact dpAll_len hd)
      | (obtain ⟨_, _, hd, _⟩ := h; exact dpAll_len hd)
      | (obtain ⟨_, _, _, hd, _⟩ := h; exact dpAll_len hd)
      | (obtain ⟨_, _, _, _, hd, _⟩ := h; exact dpAll_len hd)
      | (obtain ⟨_, rfl, _⟩ := h; rfl)
      | (obtain ⟨_, _, rfl, _⟩ := h; rfl)
      | (obtain ⟨_, _, _, rfl, _⟩ := h; rfl)
      | (obtain ⟨_, _, _, _, rfl, _⟩ := h; rfl)
      | (obtain ⟨_, _, _, _, _, rfl, _⟩ := h; rfl)
  · have nd := (sc_known_key).nd
    have hu := hu_of hr
    exact ⟨t_known_key K, (pss_one (ps_ret (pe_callTy call_tuple_of (by rfl) B.tuple (by decide +kernel) (pa_cons (pe_lc (own := [("height", 1)]) (g := (gName 1)) (tt := tYes) rfl nd (pi_tup (pv 0)) (blkOk_by (N := N_known_key) (sc := defScope s_known_key) (by decide +kernel)) (fun _ _ _ _ _ => (pg_name (i := 1) nd rfl (Or.inl rfl))) (fun _ _ _ _ _ => pts_nil) (fun _ _ _ _ _ => (pe_tup (pa_cons (pe_cmpR op_notN (pv 1) pe_non (nomark _)) (pa_cons (pe_orT (pv 1) (pe_one pe_int)) pa_nil))))) pa_nil)))), rd vs H Q E h⟩
theorem sc_worlds : FnScope N_worlds ["net", "k"] (defScope s_worlds) := ⟨rfl, rfl, rfl, by decide +kernel, rfl, by decide +kernel, by decide +kernel⟩
theorem ok_worlds {P : Program} {w : World} {K : PySem.W.Frag} {mg : Str → Option Value} {base : Heap} {C : Addr} (D : DefAt K mg "worlds" s_worlds) (B : Bl mg) (C_check_worlds : Cal P w K mg base (L2.CX P w) 6 "check_worlds" ["net", "k"] (sp_check_worlds K C)) (C_further : Cal P w K mg base CX0 2 "further" ["net", "k", "heights"] (sp_further K)) (C_known_key : Cal P w K mg base CX0 1 "known_key" ["heights"] (sp_known_key K)) (bs : Bs K mg C) {tMW : Tok} (hMW : mg "MOST_WORLDS" = some (.int 200 tMW))
    (rd : ∀ (vs : List V) (H : Hp) (Q : VK) (E : XK), (sp_worlds K C) vs H Q E → t_worlds K C E { nx := fun _ H' => Q .non H', rt := Q } (start N_worlds vs) H) : Cal P w K mg base (L2.CX P w) 7 "worlds" ["net", "k"] (sp_worlds K C) := by
  refine mk_calX (N := N_worlds) D sc_worlds (fun _ _ _ _ _ _ us hl => match us, hl with | [_, _], _ => rfl) (fun vs H Q E h => ?_) (fun f cdv A outer s H vs Q E hr h => ?_)
  · first
      | (obtain ⟨_, hd, _⟩ := h; exact dpAll_len hd)
      | (obtain ⟨_, _, hd, _⟩ := h; exact dpAll_len hd)
      | (obtain ⟨_, _, _, hd, _⟩ := h; exact dpAll_len hd)
      | (obtain ⟨_, _, _, _, hd, _⟩ := h; exact dpAll_len hd)
      | (obtain ⟨_, rfl, _⟩ := h; rfl)
      | (obtain ⟨_, _, rfl, _⟩ := h; rfl)
      | (obtain ⟨_, _, _, rfl, _⟩ := h; rfl)
      | (obtain ⟨_, _, _, _, rfl, _⟩ := h; rfl)
      | (obtain ⟨_, _, _, _, _, rfl, _⟩ := h; rfl)
  · have nd := (sc_worlds).nd
    have hu := hu_of hr
    exact ⟨t_worlds K C E, (pss_cons (ps_expr (pe_cal C_check_worlds (hr.mono (by decide)) (by rfl) (passes_call (takes_of rfl rfl rfl rfl) (fun _ _ _ _ z => z)) (pa_cons (pv 0) (pa_cons (pv 1) pa_nil)))) (pss_cons (ps_set (i := 2) nd rfl (Or.inl rfl) (pe_lst (pa_cons (pe_op op_catA (pe_tup (pa_cons pe_int pa_nil)) (pe_op op_repA (pe_tup (pa_cons pe_non pa_nil)) (pe_op op_sub (pe_callB call_len_seq (by rfl) B.len PySem.boot_len (pa_cons (pe_ix ix_seq (pv 0) pe_int (fun _ _ => rfl)) pa_nil)) pe_int))) pa_nil))) (pss_cons (PS.nox (ps_for PassesOwn.never rfl (pi_range1 (by rfl) B.range (pa_cons (pe_op op_sub (pe_callB call_len_seq (by rfl) B.len PySem.boot_len (pa_cons (pe_ix ix_seq (pv 0) pe_int (fun _ _ => rfl)) pa_nil)) pe_int) pa_nil)) (pg_name (i := 3) nd rfl (Or.inl rfl)) (pss_cons (ps_set (i := 4) nd rfl (Or.inl rfl) (pe_lst pa_nil)) (pss_cons (PS.nox (ps_for PassesOwn.never rfl (pi_list (pv 2)) (pg_name (i := 5) nd rfl (Or.inl rfl)) (pss_one (PS.nox (ps_for PassesOwn.never rfl (pi_list (pe_cal C_further (hr.mono (by decide)) (by rfl) pass0 (pa_cons (pv 0) (pa_cons (pv 1) (pa_cons (pv 5) pa_nil))))) (pg_name (i := 6) nd rfl (Or.inl rfl)) (pss_one (ps_if (pt_cmpR (op_notInD (units65 hr)) (pv 6) (pv 4) (by rfl)) (pss_one (ps_expr (pe_bm PySem.F.plainAttrs_list PySem.F.slot_list_append PySem.F.type_list_append mt_append (pv 4) (pa_cons (pv 6) pa_nil)))) pss_nil))))))) (pss_one (ps_set (i := 2) nd rfl (Or.inl rfl) (pe_sortK C_known_key (hr.mono (by decide)) (by rfl) B.sorted (by rfl) (pa_cons (pv 4) pa_nil)))))))) (pss_cons (ps_if (pt_cmpR op_gt (pe_callB call_len_seq (by rfl) B.len PySem.boot_len (pa_cons (pv 2) pa_nil)) (pe_glob rfl hMW ⟨_, rfl⟩) (nomark _)) (pss_one (ps_raise rfl (takes_of rfl rfl rfl rfl) (pmk_bs PySem.F.excBase_ValueError bs.x bs.g bs.k (raises_own bs.b bs.t) (by rfl)))) pss_nil) (pss_one (ps_ret (pe_callTy call_tuple_of (by rfl) B.tuple (by decide +kernel) (pa_cons (pv 2) pa_nil)))))))), rd vs H Q E h⟩
theorem sc_verdicts : FnScope N_verdicts ["net", "k"] (defScope s_verdicts) := ⟨rfl, rfl, rfl, by decide +kernel, rfl, by decide +kernel, by decide +kernel⟩
theorem ok_verdicts {P : Program} {w : World} {K : PySem.W.Frag} {mg : Str → Option Value} {base : Heap} {C : Addr} (D : DefAt K mg "verdicts" s_verdicts) (B : Bl mg) (C_lies : Cal P w K mg base CX0 3 "lies" ["net", "heights"] (sp_lies K)) (C_verdict_of : Cal P w K mg base CX0 1 "verdict_of" ["index", "told"] (sp_verdict_of K)) (C_worlds : Cal P w K mg base (L2.CX P w) 7 "worlds" ["net", "k"] (sp_worlds K C)) (bs : Bs K mg C)
    (rd : ∀ (vs : List V) (H : Hp) (Q : VK) (E : XK), (sp_verdicts K C) vs H Q E → t_verdicts K C E { nx := fun _ H' => Q .non H', rt := Q } (start N_verdicts vs) H) : Cal P w K mg base (L2.CX P w) 8 "verdicts" ["net", "k"] (sp_verdicts K C) := by
  refine mk_calX (N := N_verdicts) D sc_verdicts (fun _ _ _ _ _ _ us hl => match us, hl with | [_, _], _ => rfl) (fun vs H Q E h => ?_) (fun f cdv A outer s H vs Q E hr h => ?_)
  · first
      | (obtain ⟨_, hd, _⟩ := h; exact dpAll_len hd)
      | (obtain ⟨_, _, hd, _⟩ := h; exact dpAll_len hd)
      | (obtain ⟨_, _, _, hd, _⟩ := h; exact dpAll_len hd)
      | (obtain ⟨_, _, _, _, hd, _⟩ := h; exact dpAll_len hd)
      | (obtain ⟨_, rfl, _⟩ := h; rfl)
      | (obtain ⟨_, _, rfl, _⟩ := h; rfl)
      | (obtain ⟨_, _, _, rfl, _⟩ := h; rfl)
      | (obtain ⟨_, _, _, _, rfl, _⟩ := h; rfl)
      | (obtain ⟨_, _, _, _, _, rfl, _⟩ := h; rfl)
  · have nd := (sc_verdicts).nd
    have hu := hu_of hr
    exact ⟨t_verdicts K C E, (pss_cons (ps_set (i := 2) nd rfl (Or.inr rfl) (pe_lc (own := [("heights", 3)]) (g := (gName 3)) (tt := tYes) rfl nd (pi_tup (pe_cal C_worlds (hr.mono (by decide)) (by rfl) (passes_call (takes_of rfl rfl rfl rfl) (fun _ _ _ _ z => z)) (pa_cons (pv 0) (pa_cons (pv 1) pa_nil)))) (blkOk_by (N := N_verdicts) (sc := defScope s_verdicts) (by decide +kernel)) (fun _ _ _ _ _ => (pg_name (i := 3) nd rfl (Or.inl rfl))) (fun _ _ _ _ _ => pts_nil) (fun _ _ _ _ _ => (pe_cal C_lies (hr.mono (by decide)) (by rfl) pass0 (pa_cons (pv 0) (pa_cons (pv 3) pa_nil)))))) (pss_cons (ps_if (pt_cmpR (op_eqD hr.units) (pv 2) (pe_lst pa_nil) (nomark _)) (pss_one (ps_ret (pe_tup pa_nil))) pss_nil) (pss_one (ps_ret (pe_callTy call_tuple_of (by rfl) B.tuple (by decide +kernel) (pa_cons (pe_lc (own := [("index", 4)]) (g := (gName 4)) (tt := tYes) rfl nd (pi_range1 (by rfl) B.range (pa_cons (pe_callB call_len_seq (by rfl) B.len PySem.boot_len (pa_cons (pe_ix ix_seq (pv 0) pe_int (fun _ _ => rfl)) pa_nil)) pa_nil)) (blkOk_by (N := N_verdicts) (sc := defScope s_verdicts) (by decide +kernel)) (fun _ _ _ _ _ => (pg_name (i := 4) nd rfl (Or.inl rfl))) (fun _ _ _ _ _ => pts_nil) (fun _ _ _ _ _ => (pe_cal C_verdict_of (hr.mono (by decide)) (by rfl) pass0 (pa_cons (pv 4) (pa_cons (pv 2) pa_nil))))) pa_nil)))))), rd vs H Q E h⟩
theorem sc_law_refused : FnScope N_law_refused ["_law_net_here", "_law_k"] (defScope s_law_refused) := ⟨rfl, rfl, rfl, by decide +kernel, rfl, by decide +kernel, by decide +kernel⟩
theorem ok_law_refused {P : Program} {w : World} {K : PySem.W.Frag} {mg : Str → Option Value} {base : Heap} {C : Addr} (D : DefAt K mg "_law_refused" s_law_refused) (B : Bl mg) (C_verdicts : Cal P w K mg base (L2.CX P w) 8 "verdicts" ["net", "k"] (sp_verdicts K C)) (C_worlds : Cal P w K mg base (L2.CX P w) 7 "worlds" ["net", "k"] (sp_worlds K C)) (bs : Bs K mg C)
    (rd : ∀ (vs : List V) (H : Hp) (Q : VK) (E : XK), (sp_law_refused K) vs H Q E → t_law_refused K C { nx := fun _ H' => Q .non H', rt := Q } (start N_law_refused vs) H) : Cal P w K mg base CX0 9 "_law_refused" ["_law_net_here", "_law_k"] (sp_law_refused K) := by
  refine mk_cal (N := N_law_refused) D sc_law_refused (fun _ _ _ _ _ _ us hl => match us, hl with | [_, _], _ => rfl) (fun vs H Q E h => ?_) (fun f cdv A outer s H vs Q E hr h => ?_)
  · first
      | (obtain ⟨_, hd, _⟩ := h; exact dpAll_len hd)
      | (obtain ⟨_, _, hd, _⟩ := h; exact dpAll_len hd)
      | (obtain ⟨_, _, _, hd, _⟩ := h; exact dpAll_len hd)
      | (obtain ⟨_, _, _, _, hd, _⟩ := h; exact dpAll_len hd)
      | (obtain ⟨_, rfl, _⟩ := h; rfl)
      | (obtain ⟨_, _, rfl, _⟩ := h; rfl)
      | (obtain ⟨_, _, _, rfl, _⟩ := h; rfl)
      | (obtain ⟨_, _, _, _, rfl, _⟩ := h; rfl)
      | (obtain ⟨_, _, _, _, _, rfl, _⟩ := h; rfl)
  · have nd := (sc_law_refused).nd
    have hu := hu_of hr
    exact ⟨t_law_refused K C, (pss_cons (ps_set (i := 2) nd rfl (Or.inl rfl) pe_int) (pss_cons (ps_try_only (tb := fun W => tDrop (tCallS (sp_worlds K C) (WE W) (tCons (tVar 0) (tCons (tVar 1) tNil)))) (ts := fun _ _ _ => (tAsg (tOp rPlus (tVar 2) (tC (.int 1))) (gName 2))) (Wout := fun _ _ _ _ => False) rfl rfl ⟨rfl, by decide, Or.inl bs.g⟩ takes0 (fun W pn xe tk _ => pss_one (ps_expr (pe_calS C_worlds (hr.mono (by decide)) (by rfl) (fun σ => passAt tk σ) (pa_cons (pv 0) (pa_cons (pv 1) pa_nil))))) (fun a oe cls d pn _ _ => (pss_one (ps_set (i := 2) nd rfl (Or.inl rfl) (pe_op op_add (pv 2) pe_int))))) (pss_cons (ps_try_only (tb := fun W => tDrop (tCallS (sp_verdicts K C) (WE W) (tCons (tVar 0) (tCons (tVar 1) tNil)))) (ts := fun _ _ _ => (tAsg (tOp rPlus (tVar 2) (tC (.int 1))) (gName 2))) (Wout := fun _ _ _ _ => False) rfl rfl ⟨rfl, by decide, Or.inl bs.g⟩ takes0 (fun W pn xe tk _ => pss_one (ps_expr (pe_calS C_verdicts (hr.mono (by decide)) (by rfl) (fun σ => passAt tk σ) (pa_cons (pv 0) (pa_cons (pv 1) pa_nil))))) (fun a oe cls d pn _ _ => (pss_one (ps_set (i := 2) nd rfl (Or.inl rfl) (pe_op op_add (pv 2) pe_int))))) (pss_one (ps_ret (pe_cmpR op_eq (pv 2) pe_int (nomark _))))))), rd vs H Q E h⟩
theorem sc_law_cut : FnScope N_law_cut ["_law_net_here", "_law_side"] (defScope s_law_cut) := ⟨rfl, rfl, rfl, by decide +kernel, rfl, by decide +kernel, by decide +kernel⟩
theorem ok_law_cut {P : Program} {w : World} {K : PySem.W.Frag} {mg : Str → Option Value} {base : Heap} (D : DefAt K mg "_law_cut" s_law_cut) (B : Bl mg) 
    (rd : ∀ (vs : List V) (H : Hp) (Q : VK) (E : XK), (sp_law_cut K) vs H Q E → t_law_cut K { nx := fun _ H' => Q .non H', rt := Q } (start N_law_cut vs) H) : Cal P w K mg base CX0 1 "_law_cut" ["_law_net_here", "_law_side"] (sp_law_cut K) := by
  refine mk_cal (N := N_law_cut) D sc_law_cut (fun _ _ _ _ _ _ us hl => match us, hl with | [_, _], _ => rfl) (fun vs H Q E h => ?_) (fun f cdv A outer s H vs Q E hr h => ?_)
  · first
      | (obtain ⟨_, hd, _⟩ := h; exact dpAll_len hd)
      | (obtain ⟨_, _, hd, _⟩ := h; exact dpAll_len hd)
      | (obtain ⟨_, _, _, hd, _⟩ := h; exact dpAll_len hd)
      | (obtain ⟨_, _, _, _, hd, _⟩ := h; exact dpAll_len hd)
      | (obtain ⟨_, rfl, _⟩ := h; rfl)
      | (obtain ⟨_, _, rfl, _⟩ := h; rfl)
      | (obtain ⟨_, _, _, rfl, _⟩ := h; rfl)
      | (obtain ⟨_, _, _, _, rfl, _⟩ := h; rfl)
      | (obtain ⟨_, _, _, _, _, rfl, _⟩ := h; rfl)
  · have nd := (sc_law_cut).nd
    have hu := hu_of hr
    exact ⟨t_law_cut K, (pss_one (ps_ret (pe_lc (own := [("_law_k", 2)]) (g := (gName 2)) (tt := (tTest (tOp rNe (tOp (rIn K false) (tOp (rIx K) (tOp (rIx K) (tOp (rIx K) (tVar 0) (tC (.int 2))) (tVar 2)) (tC (.int 0))) (tVar 1)) (tOp (rIn K false) (tOp (rIx K) (tOp (rIx K) (tOp (rIx K) (tVar 0) (tC (.int 2))) (tVar 2)) (tC (.int 1))) (tVar 1))))) rfl nd (pi_range1 (by rfl) B.range (pa_cons (pe_callB call_len_seq (by rfl) B.len PySem.boot_len (pa_cons (pe_ix ix_seq (pv 0) pe_int (fun _ _ => rfl)) pa_nil)) pa_nil)) (blkOk_by (N := N_law_cut) (sc := defScope s_law_cut) (by decide +kernel)) (fun _ _ _ _ _ => (pg_name (i := 2) nd rfl (Or.inl rfl))) (fun _ _ _ _ _ => (pts_one (pt_cmpR op_ne (pe_cmpR op_in_seq (pe_ix ix_seq (pe_ix ix_seq (pe_ix ix_seq (pv 0) pe_int (fun _ _ => rfl)) (pv 2) (fun _ _ => rfl)) pe_int (fun _ _ => rfl)) (pv 1) (by rfl)) (pe_cmpR op_in_seq (pe_ix ix_seq (pe_ix ix_seq (pe_ix ix_seq (pv 0) pe_int (fun _ _ => rfl)) (pv 2) (fun _ _ => rfl)) pe_int (fun _ _ => rfl)) (pv 1) (by rfl)) (nomark _)))) (fun _ _ _ _ _ => (pv 2))))), rd vs H Q E h⟩
theorem sc_law_sides : FnScope N_law_sides ["_law_many"] (defScope s_law_sides) := ⟨rfl, rfl, rfl, by decide +kernel, rfl, by decide +kernel, by decide +kernel⟩
theorem ok_law_sides {P : Program} {w : World} {K : PySem.W.Frag} {mg : Str → Option Value} {base : Heap} (D : DefAt K mg "_law_sides" s_law_sides) (B : Bl mg) 
    (rd : ∀ (vs : List V) (H : Hp) (Q : VK) (E : XK), (sp_law_sides K) vs H Q E → t_law_sides K { nx := fun _ H' => Q .non H', rt := Q } (start N_law_sides vs) H) : Cal P w K mg base CX0 1 "_law_sides" ["_law_many"] (sp_law_sides K) := by
  refine mk_cal (N := N_law_sides) D sc_law_sides (fun _ _ _ _ _ _ us hl => match us, hl with | [_], _ => rfl) (fun vs H Q E h => ?_) (fun f cdv A outer s H vs Q E hr h => ?_)
  · first
      | (obtain ⟨_, hd, _⟩ := h; exact dpAll_len hd)
      | (obtain ⟨_, _, hd, _⟩ := h; exact dpAll_len hd)
      | (obtain ⟨_, _, _, hd, _⟩ := h; exact dpAll_len hd)
      | (obtain ⟨_, _, _, _, hd, _⟩ := h; exact dpAll_len hd)
      | (obtain ⟨_, rfl, _⟩ := h; rfl)
      | (obtain ⟨_, _, rfl, _⟩ := h; rfl)
      | (obtain ⟨_, _, _, rfl, _⟩ := h; rfl)
      | (obtain ⟨_, _, _, _, rfl, _⟩ := h; rfl)
      | (obtain ⟨_, _, _, _, _, rfl, _⟩ := h; rfl)
  · have nd := (sc_law_sides).nd
    have hu := hu_of hr
    exact ⟨t_law_sides K, (pss_cons (ps_set (i := 1) nd rfl (Or.inl rfl) (pe_lst (pa_cons (pe_tup pa_nil) pa_nil))) (pss_cons (ps_for PassesOwn.never rfl (pi_range2 (by rfl) B.range (pa_cons pe_int (pa_cons (pv 0) pa_nil))) (pg_name (i := 2) nd rfl (Or.inr rfl)) (pss_one (ps_set (i := 1) nd rfl (Or.inl rfl) (pe_op op_cat (pv 1) (pe_lc (own := [("_law_side", 3)]) (g := (gName 3)) (tt := tYes) rfl nd (pi_list (pv 1)) (blkOk_by (N := N_law_sides) (sc := defScope s_law_sides) (by decide +kernel)) (fun _ _ _ _ _ => (pg_name (i := 3) nd rfl (Or.inl rfl))) (fun _ _ _ _ _ => pts_nil) (fun _ _ _ _ _ => (pe_op op_catA (pv 3) (pe_tup (pa_cons (pv 2) pa_nil))))))))) (pss_one (ps_ret (pe_lc (own := [("_law_side", 3)]) (g := (gName 3)) (tt := (tTest (tOp (rNeD K) (tVar 3) (tTup tNil)))) rfl nd (pi_list (pv 1)) (blkOk_by (N := N_law_sides) (sc := defScope s_law_sides) (by decide +kernel)) (fun _ _ _ _ _ => (pg_name (i := 3) nd rfl (Or.inl rfl))) (fun _ _ _ _ _ => (pts_one (pt_cmpR (op_neD hr.units) (pv 3) (pe_tup pa_nil) (nomark _)))) (fun _ _ _ _ _ => (pv 3))))))), rd vs H Q E h⟩
theorem sc_law_strength : FnScope N_law_strength ["_law_net_here"] (defScope s_law_strength) := ⟨rfl, rfl, rfl, by decide +kernel, rfl, by decide +kernel, by decide +kernel⟩
theorem ok_law_strength {P : Program} {w : World} {K : PySem.W.Frag} {mg : Str → Option Value} {base : Heap} (D : DefAt K mg "_law_strength" s_law_strength) (B : Bl mg) (C_law_cut : Cal P w K mg base CX0 1 "_law_cut" ["_law_net_here", "_law_side"] (sp_law_cut K)) (C_law_sides : Cal P w K mg base CX0 1 "_law_sides" ["_law_many"] (sp_law_sides K))
    (rd : ∀ (vs : List V) (H : Hp) (Q : VK) (E : XK), (sp_law_strength K) vs H Q E → t_law_strength K { nx := fun _ H' => Q .non H', rt := Q } (start N_law_strength vs) H) : Cal P w K mg base CX0 2 "_law_strength" ["_law_net_here"] (sp_law_strength K) := by
  refine mk_cal (N := N_law_strength) D sc_law_strength (fun _ _ _ _ _ _ us hl => match us, hl with | [_], _ => rfl) (fun vs H Q E h => ?_) (fun f cdv A outer s H vs Q E hr h => ?_)
  · first
      | (obtain ⟨_, hd, _⟩ := h; exact dpAll_len hd)
      | (obtain ⟨_, _, hd, _⟩ := h; exact dpAll_len hd)
      | (obtain ⟨_, _, _, hd, _⟩ := h; exact dpAll_len hd)
      | (obtain ⟨_, _, _, _, hd, _⟩ := h; exact dpAll_len hd)
      | (obtain ⟨_, rfl, _⟩ := h; rfl)
      | (obtain ⟨_, _, rfl, _⟩ := h; rfl)
      | (obtain ⟨_, _, _, rfl, _⟩ := h; rfl)
      | (obtain ⟨_, _, _, _, rfl, _⟩ := h; rfl)
      | (obtain ⟨_, _, _, _, _, rfl, _⟩ := h; rfl)
  · have nd := (sc_law_strength).nd
    have hu := hu_of hr
    exact ⟨t_law_strength K, (pss_cons (ps_if (pt_cmpR op_eq (pe_callB call_len_seq (by rfl) B.len PySem.boot_len (pa_cons (pe_ix ix_seq (pv 0) pe_int (fun _ _ => rfl)) pa_nil)) pe_int (nomark _)) (pss_one (ps_ret (pe_un un_neg pe_int))) pss_nil) (pss_one (ps_ret (pe_callB (cr_min rfl) (by rfl) B.min (by decide +kernel) (pa_cons (pe_lc (own := [("_law_side", 1)]) (g := (gName 1)) (tt := tYes) rfl nd (pi_list (pe_cal C_law_sides (hr.mono (by decide)) (by rfl) pass0 (pa_cons (pe_callB call_len_seq (by rfl) B.len PySem.boot_len (pa_cons (pe_ix ix_seq (pv 0) pe_int (fun _ _ => rfl)) pa_nil)) pa_nil))) (blkOk_by (N := N_law_strength) (sc := defScope s_law_strength) (by decide +kernel)) (fun _ _ _ _ _ => (pg_name (i := 1) nd rfl (Or.inl rfl))) (fun _ _ _ _ _ => pts_nil) (fun _ _ _ _ _ => (pe_callB call_len_seq (by rfl) B.len PySem.boot_len (pa_cons (pe_cal C_law_cut (hr.mono (by decide)) (by rfl) pass0 (pa_cons (pv 0) (pa_cons (pv 1) pa_nil))) pa_nil)))) pa_nil))))), rd vs H Q E h⟩
theorem sc_is_world : FnScope N_is_world ["net", "k", "heights"] (defScope s_is_world) := ⟨rfl, rfl, rfl, by decide +kernel, rfl, by decide +kernel, by decide +kernel⟩
theorem ok_is_world {P : Program} {w : World} {K : PySem.W.Frag} {mg : Str → Option Value} {base : Heap} (D : DefAt K mg "is_world" s_is_world) (B : Bl mg) (C_lies : Cal P w K mg base CX0 3 "lies" ["net", "heights"] (sp_lies K))
    (rd : ∀ (vs : List V) (H : Hp) (Q : VK) (E : XK), (sp_is_world K) vs H Q E → t_is_world K { nx := fun _ H' => Q .non H', rt := Q } (start N_is_world vs) H) : Cal P w K mg base CX0 4 "is_world" ["net", "k", "heights"] (sp_is_world K) := by
  refine mk_cal (N := N_is_world) D sc_is_world (fun _ _ _ _ _ _ us hl => match us, hl with | [_, _, _], _ => rfl) (fun vs H Q E h => ?_) (fun f cdv A outer s H vs Q E hr h => ?_)
  · first
      | (obtain ⟨_, hd, _⟩ := h; exact dpAll_len hd)
      | (obtain ⟨_, _, hd, _⟩ := h; exact dpAll_len hd)
      | (obtain ⟨_, _, _, hd, _⟩ := h; exact dpAll_len hd)
      | (obtain ⟨_, _, _, _, hd, _⟩ := h; exact dpAll_len hd)
      | (obtain ⟨_, rfl, _⟩ := h; rfl)
      | (obtain ⟨_, _, rfl, _⟩ := h; rfl)
      | (obtain ⟨_, _, _, rfl, _⟩ := h; rfl)
      | (obtain ⟨_, _, _, _, rfl, _⟩ := h; rfl)
      | (obtain ⟨_, _, _, _, _, rfl, _⟩ := h; rfl)
  · have nd := (sc_is_world).nd
    have hu := hu_of hr
    exact ⟨t_is_world K, (pss_one (ps_ret (pe_cmpR op_le (pe_callB call_len_seq (by rfl) B.len PySem.boot_len (pa_cons (pe_cal C_lies (hr.mono (by decide)) (by rfl) pass0 (pa_cons (pv 0) (pa_cons (pv 2) pa_nil))) pa_nil)) (pv 1) (nomark _)))), rd vs H Q E h⟩
theorem sc_law : FnScope N_law ["_law_script"] (defScope s_law) := ⟨rfl, rfl, rfl, by decide +kernel, rfl, by decide +kernel, by decide +kernel⟩
theorem ok_law {P : Program} {w : World} {K : PySem.W.Frag} {mg : Str → Option Value} {base : Heap} {C : Addr} (D : DefAt K mg "law" s_law) (B : Bl mg) (C_law_all_worlds : Cal P w K mg base CX0 2 "_law_all_worlds" ["_law_net_here", "_law_k"] (sp_law_all_worlds K)) (C_law_digits : Cal P w K mg base CX0 2 "_law_digits" ["_law_script", "_law_first", "_law_last"] (sp_law_digits K)) (C_law_draw : Cal P w K mg base CX0 1 "_law_draw" ["_law_box", "_law_many"] (sp_law_draw K)) (C_law_heights : Cal P w K mg base CX0 2 "_law_heights" ["_law_box", "_law_many"] (sp_law_heights K)) (C_law_lies : Cal P w K mg base CX0 2 "_law_lies" ["_law_net_here", "_law_heights_here"] (sp_law_lies K)) (C_law_net : Cal P w K mg base CX0 4 "_law_net" ["_law_box", "_law_most_marks", "_law_most_extra"] (sp_law_net K)) (C_law_pick : Cal P w K mg base CX0 2 "_law_pick" ["_law_box", "_law_things"] (sp_law_pick K)) (C_law_refused : Cal P w K mg base CX0 9 "_law_refused" ["_law_net_here", "_law_k"] (sp_law_refused K)) (C_law_strength : Cal P w K mg base CX0 2 "_law_strength" ["_law_net_here"] (sp_law_strength K)) (C_is_world : Cal P w K mg base CX0 4 "is_world" ["net", "k", "heights"] (sp_is_world K)) (C_verdicts : Cal P w K mg base (L2.CX P w) 8 "verdicts" ["net", "k"] (sp_verdicts K C)) (C_worlds : Cal P w K mg base (L2.CX P w) 7 "worlds" ["net", "k"] (sp_worlds K C)) (bs : Bs K mg C)
    (rd : ∀ (vs : List V) (H : Hp) (Q : VK) (E : XK), (sp_law K) vs H Q E → t_law K C { nx := fun _ H' => Q .non H', rt := Q } (start N_law vs) H) : Cal P w K mg base CX0 10 "law" ["_law_script"] (sp_law K) := by
  refine mk_cal (N := N_law) D sc_law (fun _ _ _ _ _ _ us hl => match us, hl with | [_], _ => rfl) (fun vs H Q E h => ?_) (fun f cdv A outer s H vs Q E hr h => ?_)
  · first
      | (obtain ⟨_, hd, _⟩ := h; exact dpAll_len hd)
      | (obtain ⟨_, _, hd, _⟩ := h; exact dpAll_len hd)
      | (obtain ⟨_, _, _, hd, _⟩ := h; exact dpAll_len hd)
      | (obtain ⟨_, _, _, _, hd, _⟩ := h; exact dpAll_len hd)
      | (obtain ⟨_, rfl, _⟩ := h; rfl)
      | (obtain ⟨_, _, rfl, _⟩ := h; rfl)
      | (obtain ⟨_, _, _, rfl, _⟩ := h; rfl)
      | (obtain ⟨_, _, _, _, rfl, _⟩ := h; rfl)
      | (obtain ⟨_, _, _, _, _, rfl, _⟩ := h; rfl)
  · have nd := (sc_law).nd
    have hu := hu_of hr
    exact ⟨t_law K C, (pss_cons (ps_set (i := 1) nd rfl (Or.inl rfl) (pe_lst (pa_cons (pe_cal C_law_digits (hr.mono (by decide)) (by rfl) pass0 (pa_cons (pv 0) (pa_cons pe_int (pa_cons pe_int pa_nil)))) (pa_cons pe_int pa_nil)))) (pss_cons (ps_set (i := 2) nd rfl (Or.inr rfl) (pe_cal C_law_net (hr.mono (by decide)) (by rfl) pass0 (pa_cons (pv 1) (pa_cons pe_int (pa_cons pe_int pa_nil))))) (pss_cons (ps_set (i := 3) nd rfl (Or.inl rfl) (pe_cal C_law_draw (hr.mono (by decide)) (by rfl) pass0 (pa_cons (pv 1) (pa_cons pe_int pa_nil)))) (pss_cons (ps_if (pt_cmpR op_lt (pe_cal C_law_strength (hr.mono (by decide)) (by rfl) pass0 (pa_cons (pv 2) pa_nil)) (pe_op op_add (pv 3) pe_int) (nomark _)) (pss_one (ps_ret (pe_cal C_law_refused (hr.mono (by decide)) (by rfl) pass0 (pa_cons (pv 2) (pa_cons (pv 3) pa_nil))))) pss_nil) (pss_cons (ps_set (i := 4) nd rfl (Or.inl rfl) (pe_cal C_law_all_worlds (hr.mono (by decide)) (by rfl) pass0 (pa_cons (pv 2) (pa_cons (pv 3) pa_nil)))) (pss_cons (ps_if (pt_cmpR op_gt (pe_callB call_len_seq (by rfl) B.len PySem.boot_len (pa_cons (pv 4) pa_nil)) pe_int (nomark _)) (pss_one (ps_ret pe_bl)) pss_nil) (pss_cons (ps_if (pt_cmpR (op_neD hr.units) (pe_cal C_worlds (hr.mono (by decide)) (by rfl) passL (pa_cons (pv 2) (pa_cons (pv 3) pa_nil))) (pv 4) (nomark _)) (pss_one (ps_ret pe_bl)) pss_nil) (pss_cons (ps_set (i := 5) nd rfl (Or.inl rfl) (pe_lst pa_nil)) (pss_cons (ps_for PassesOwn.never rfl (pi_range1 (by rfl) B.range (pa_cons (pe_callB call_len_seq (by rfl) B.len PySem.boot_len (pa_cons (pe_ix ix_seq (pv 2) pe_int (fun _ _ => rfl)) pa_nil)) pa_nil)) (pg_name (i := 6) nd rfl (Or.inr rfl)) (pss_cons (ps_set (i := 7) nd rfl (Or.inl rfl) (pe_callB call_len_seq (by rfl) B.len PySem.boot_len (pa_cons (pe_lc (own := [("_law_heights_here", 8)]) (g := (gName 8)) (tt := (tTest (tOp (rIn K false) (tVar 6) (tCal (sp_law_lies K) E0 (tCons (tVar 2) (tCons (tVar 8) tNil)))))) rfl nd (pi_tup (pv 4)) (blkOk_by (N := N_law) (sc := defScope s_law) (by decide +kernel)) (fun _ _ _ _ _ => (pg_name (i := 8) nd rfl (Or.inl rfl))) (fun _ _ _ _ _ => (pts_one (pt_cmpR op_in_seq (pv 6) (pe_cal C_law_lies (hr.mono (by decide)) (by rfl) pass0 (pa_cons (pv 2) (pa_cons (pv 8) pa_nil))) (by rfl)))) (fun _ _ _ _ _ => (pv 8))) pa_nil))) (pss_cons (ps_set (i := 9) nd rfl (Or.inl rfl) pe_str) (pss_cons (ps_if (pt_cmpR op_eq (pv 7) pe_int (nomark _)) (pss_one (ps_set (i := 9) nd rfl (Or.inl rfl) pe_str)) (pss_one (ps_if (pt_cmpR op_eq (pv 7) (pe_callB call_len_seq (by rfl) B.len PySem.boot_len (pa_cons (pv 4) pa_nil)) (nomark _)) (pss_one (ps_set (i := 9) nd rfl (Or.inl rfl) pe_str)) pss_nil))) (pss_one (ps_expr (pe_bm PySem.F.plainAttrs_list PySem.F.slot_list_append PySem.F.type_list_append mt_append (pv 5) (pa_cons (pv 9) pa_nil)))))))) (pss_cons (ps_if (pt_cmpR (op_neD hr.units) (pe_cal C_verdicts (hr.mono (by decide)) (by rfl) passL (pa_cons (pv 2) (pa_cons (pv 3) pa_nil))) (pe_op op_repA (pe_callTy call_tuple_of (by rfl) B.tuple (by decide +kernel) (pa_cons (pv 5) pa_nil)) (pe_callTy call_int1 (by rfl) B.int (by decide +kernel) (pa_cons (pe_cmpR (op_neD hr.units) (pv 4) (pe_tup pa_nil) (nomark _)) pa_nil))) (nomark _)) (pss_one (ps_ret pe_bl)) pss_nil) (pss_cons (ps_for PassesOwn.never rfl (pi_range1 (by rfl) B.range (pa_cons pe_int pa_nil)) (pg_name (i := 10) nd rfl (Or.inl rfl)) (pss_cons (ps_set (i := 8) nd rfl (Or.inl rfl) (pe_cal C_law_heights (hr.mono (by decide)) (by rfl) pass0 (pa_cons (pv 1) (pa_cons (pe_callB call_len_seq (by rfl) B.len PySem.boot_len (pa_cons (pe_ix ix_seq (pv 2) pe_int (fun _ _ => rfl)) pa_nil)) pa_nil)))) (pss_cons (ps_if (PW.pt (pw_and (pt_cmpR (op_neD hr.units) (pv 4) (pe_tup pa_nil) (nomark _)) (pw_and1 (pt_cmpR op_eq (pe_cal C_law_draw (hr.mono (by decide)) (by rfl) pass0 (pa_cons (pv 1) (pa_cons pe_int pa_nil))) pe_int (nomark _))))) (pss_one (ps_set (i := 8) nd rfl (Or.inl rfl) (pe_cal C_law_pick (hr.mono (by decide)) (by rfl) pass0 (pa_cons (pv 1) (pa_cons (pv 4) pa_nil))))) pss_nil) (pss_one (ps_if (pt_cmpR op_ne (pe_cal C_is_world (hr.mono (by decide)) (by rfl) pass0 (pa_cons (pv 2) (pa_cons (pv 3) (pa_cons (pv 8) pa_nil)))) (pe_cmpR op_le (pe_callB call_len_seq (by rfl) B.len PySem.boot_len (pa_cons (pe_cal C_law_lies (hr.mono (by decide)) (by rfl) pass0 (pa_cons (pv 2) (pa_cons (pv 8) pa_nil))) pa_nil)) (pv 3) (nomark _)) (nomark _)) (pss_one (ps_ret pe_bl)) pss_nil))))) (pss_one (ps_ret pe_bl))))))))))))), rd vs H Q E h⟩
end K11
end

/-! ## K11RdA -/
section
set_option maxHeartbeats 4000000
/-! What the readings of the small defs come to. -/
namespace K11
open PySem PySem.Spec PyProof.Rows L2
section
variable {K : PySem.W.Frag}
theorem get_map {α : Type} (f : α → PyData) {xs : List α} {i : Nat} {a : α} (h : xs[i]? = some a) : (xs.map f)[i]? = some (f a) := by
  rw [List.getElem?_map, h]
  rfl
theorem getD_some {α : Type} {xs : List α} {i : Nat} {d : α} (h : i < xs.length) : xs[i]? = some (xs.getD i d) := by
  rw [List.getD_eq_getElem?_getD, List.getElem?_eq_getElem h]
  rfl
theorem noL_encI (h : List Int) : noL (encI h) = true := by
  unfold encI
  rw [noL_tuple]
  refine noLAll_iff.mpr fun d hd => ?_
  obtain ⟨i, _, rfl⟩ := List.mem_map.mp hd
  rfl
theorem noLAll_map {β : Type} (f : β → PyData) (bs : List β) (h : ∀ b ∈ bs, noL (f b) = true) : noLAll (bs.map f) = true := noLAll_iff.mpr fun d hd => by
  obtain ⟨b, hb, rfl⟩ := List.mem_map.mp hd
  exact h b hb
theorem noL_encR (r : Rdg) : noL (encR r) = true := rfl
theorem noL_encP (g : Part) : noL (encP g) = true := by
  unfold encP
  rw [noL_tuple]
  exact noLAll_map _ _ fun o _ => by cases o <;> rfl
theorem rs_noL (rs : List Rdg) : noLAll (rs.map encR) = true := noLAll_map _ _ fun r _ => rfl
/-- a net's readings -/
theorem ev_rs {N : Net} {te : TE} {σ : L2.St} {H : Hp} (h : EvD K te σ H (encNet N)) : EvD K (tOp (rIx K) te (tC (.int 2))) σ H (.tuple (N.rs.map encR)) := ev_ixT (n := 2) h ev_int rfl
theorem ev_nm {N : Net} {te : TE} {σ : L2.St} {H : Hp} (h : EvD K te σ H (encNet N)) : EvD K (tCB (rLenQ K) (tCons (tOp (rIx K) te (tC (.int 1))) tNil)) σ H (.int (N.n : Int)) := ev_lenT (ev_ixT (n := 1) h ev_int rfl)
theorem rs_item {N : Net} {i : Nat} {r : Rdg} (h : N.rs[i]? = some r) : (N.rs.map encR).getD i .none = encR r := getD_of (get_map encR h)

/-- a comprehension without a test -/
theorem en_lcM {M : Addr → Prop} {σ : L2.St} {H : Hp} {te : TE} {wi : TI} {gt : TG} {vs : List Nat} {β : Type} {n : Nat} {item : Nat → PyData} (bs : List β) (enc : β → PyData) (h : EvI K M wi σ H n item) (hn : n = bs.length) (hi : ∀ (i : Nat) (b : β), bs[i]? = some b → item i = enc b)
    (g : β → PyData) (hz : bs.length ≤ 100000) (hg : ∀ b ∈ bs, noL (g b) = true)
    (ht : ∀ b ∈ bs, ∀ H1 x, Same H H1 → Dp K H1 x (enc b) → ∀ Q : L2.St → Hp → Prop, (∀ σ2 H2, Same H1 H2 → wipe σ2 vs = wipe σ vs → EvD K te σ2 H2 (g b) → Q σ2 H2) → gt x (wipe σ vs) H1 Q) :
    EvN K (tLc wi gt tYes te vs) σ H (bs.map g) := by
  refine EvN.to (en_lcB bs enc h hn hi (fun _ => true) g hz (fun b hb _ => hg b hb) fun b hb H1 x e dx Q q => ht b hb H1 x e dx Q fun σ2 H2 e2 hw ev => q σ2 H2 e2 hw et_yes fun _ => ev) ?_
  rw [List.filter_eq_self.mpr fun _ _ => rfl]
theorem rd_miss_of (vs : List V) (H : Hp) (Q : VK) (E : XK) (h : sp_miss_of K vs H Q E) : t_miss_of K { nx := fun _ H' => Q .non H', rt := Q } (start N_miss_of vs) H := by
  obtain ⟨r, h, hd, h1, h2, q⟩ := h
  obtain ⟨x, y, rfl, dx, dy⟩ := dp2 hd
  refine s_ret (K := K) (d := .int (miss h r)) ?_ q
  exact ev_plus (ev_minus (ev_ixT (n := 2) (ev_var rfl dx) ev_int rfl) (ev_ixT (ev_var rfl dy) (ev_ixT (n := 1) (ev_var rfl dx) ev_int rfl) (get_map .int (getD_some h2)))) (ev_ixT (ev_var rfl dy) (ev_ixT (n := 0) (ev_var rfl dx) ev_int rfl) (get_map .int (getD_some h1)))
theorem rd_misses (vs : List V) (H : Hp) (Q : VK) (E : XK) (h : sp_misses K vs H Q E) : t_misses K { nx := fun _ H' => Q .non H', rt := Q } (start N_misses vs) H := by
  obtain ⟨N, h, hd, ok, hl, q⟩ := h
  obtain ⟨x, y, rfl, dx, dy⟩ := dp2 hd
  have few := ok.few
  refine s_ret (K := K) (d := encI (N.rs.map (miss h))) ?_ q
  refine ev_tupL (EvN.dd (EvN.to (en_lcM (M := noM) N.rs encR (ei_tup (ev_rs (ev_var rfl dx)) (rs_noL _)) (by simp) (fun i b hb => rs_item hb) (fun r => .int (miss h r)) (by omega) (fun _ _ => rfl)
    fun r hr H1 z e1 dz Q q => q _ H1 (Same.refl H1) rfl ?_) ?_))
  · refine ev_cal (ea2 (ev_var rfl dz) (ev_var rfl (Dp.mono e1 _ _ dy))) fun vs H2 Q e2 dv qq => ⟨r, h, dv, ?_, ?_, qq⟩
    · rw [hl]; exact (ok.ends r hr).1
    · rw [hl]; exact (ok.ends r hr).2
  · rw [List.map_map]
    rfl
theorem rd_lies (vs : List V) (H : Hp) (Q : VK) (E : XK) (h : sp_lies K vs H Q E) : t_lies K { nx := fun _ H' => Q .non H', rt := Q } (start N_lies vs) H := by
  obtain ⟨N, h, hd, ok, hl, q⟩ := h
  obtain ⟨x, y, rfl, dx, dy⟩ := dp2 hd
  have few := ok.few
  refine s_ret (K := K) (d := encI (lies N.rs h)) ?_ q
  have hm : EvD K (tCal (sp_misses K) E0 (tCons (tVar 0) (tCons (tVar 1) tNil))) (start N_lies [x, y]) H (encI (N.rs.map (miss h))) :=
    ev_cal (ea2 (ev_var rfl dx) (ev_var rfl dy)) fun vs H2 Q e2 dv qq => ⟨N, h, dv, ok, hl, qq⟩
  refine ev_tupL (EvN.dd (EvN.to (en_lcB (M := noM) (N.rs.map (miss h)).zipIdx (fun p => .tuple [.int (p.2 : Nat), .int p.1]) (ei_enumT hm (noLAll_map _ _ fun _ _ => rfl)) (by simp) (fun i b hb => ?_) (fun p => p.1 != 0) (fun p => .int (p.2 : Nat)) (by simp; omega) (fun _ _ _ => rfl)
    fun p hp H1 z e1 dz Q q => tg2 dz fun x1 x2 d1 d2 => q _ H1 (Same.refl H1) rfl ?_ fun _ => ev_var rfl d1) ?_))
  · obtain ⟨b1, b2⟩ := b
    rw [List.getElem?_zipIdx] at hb
    cases e : (N.rs.map (miss h))[i]? with
    | none => rw [e] at hb; cases hb
    | some m =>
      rw [e] at hb
      simp at hb
      obtain ⟨rfl, rfl⟩ := hb
      show PyData.tuple [.int (i : Nat), ((N.rs.map (miss h)).map PyData.int).getD i .none] = _
      rw [getD_of (get_map .int e)]
  · exact et_test (EvD.to (ev_neI (ev_var rfl d2) ev_int) (by rw [bne, Bool.beq_eq_decide_eq]))
  · unfold lies
    rw [List.map_map]
    rfl
theorem rd_is_world (vs : List V) (H : Hp) (Q : VK) (E : XK) (h : sp_is_world K vs H Q E) : t_is_world K { nx := fun _ H' => Q .non H', rt := Q } (start N_is_world vs) H := by
  obtain ⟨N, k, h, hd, ok, hl, q⟩ := h
  obtain ⟨x, y, z, rfl, dx, dy, dz⟩ := dp3 hd
  refine s_ret ?_ q
  refine EvD.to (ev_le (ev_lenT (ds := (lies N.rs h).map .int) (ev_cal (ea2 (ev_var rfl dx) (ev_var rfl dz)) fun vs H2 Q e2 dv qq => ⟨N, h, dv, ok, hl, qq⟩)) (ev_var rfl dy)) ?_
  rw [List.length_map]
theorem getO {g : Part} {i : Nat} (h : i < g.length) : (g.map encO)[i]? = some (encO (g.getD i none)) := get_map encO (getD_some h)
theorem isNone_enc (o : Option Int) : isNone (encO o) = o.isNone := by cases o <;> rfl
theorem rd_height_by (vs : List V) (H : Hp) (Q : VK) (E : XK) (h : sp_height_by K vs H Q E) : t_height_by K { nx := fun _ H' => Q .non H', rt := Q } (start N_height_by vs) H := by
  obtain ⟨r, g, hd, h1, h2, q⟩ := h
  obtain ⟨x, y, rfl, dx, dy⟩ := dp2 hd
  refine q_asg3 (ev_var rfl dx) fun x1 x2 x3 H1 e1 d1 d2 d3 => ?_
  have dy1 := Dp.mono e1 _ _ dy
  obtain ⟨oa, ha⟩ : ∃ oa, g.getD r.1 none = oa := ⟨_, rfl⟩
  obtain ⟨ob, hc⟩ : ∃ ob, g.getD r.2.1 none = ob := ⟨_, rfl⟩
  have eA : ∀ σ : L2.St, σ[1]? = some (some y) → σ[2]? = some (some x1) → EvD K (tOp (rIx K) (tVar 1) (tVar 2)) σ H1 (encO oa) := fun σ s1 s2 => ev_ixT (ev_var s1 dy1) (ev_var s2 d1) (by rw [← ha]; exact getO h1)
  have eB : ∀ σ : L2.St, σ[1]? = some (some y) → σ[3]? = some (some x2) → EvD K (tOp (rIx K) (tVar 1) (tVar 3)) σ H1 (encO ob) := fun σ s1 s2 => ev_ixT (ev_var s1 dy1) (ev_var s2 d2) (by rw [← hc]; exact getO h2)
  have hv : heightBy g r = hb2 oa ob r := by unfold heightBy; rw [ha, hc]
  refine q_when (b := !oa.isNone && ob.isNone) (et_and (et_test (EvD.to (ev_notN (eA _ rfl rfl)) (by rw [isNone_enc]))) fun _ => et_test (EvD.to (ev_isN (eB _ rfl rfl)) (by rw [isNone_enc]))) (fun hb H2 e2 => ?_) fun hb H2 e2 => ?_
  · refine s_ret (K := K) (d := encHB (heightBy g r)) (EvD.mono e2 ?_) fun v H' e dv => q v H' ((e1.trans e2).trans e) dv
    cases oa with
    | none => simp at hb
    | some a =>
      cases ob with
      | some c => simp at hb
      | none =>
        rw [hv]
        exact ev_tup (by show 2 ≤ 1000; decide) (ea2 (ev_var rfl d2) (ev_plus (eA _ rfl rfl) (ev_var rfl d3)))
  · refine q_when (b := oa.isNone && !ob.isNone) (et_and (et_test (EvD.to (ev_isN (EvD.mono e2 (eA _ rfl rfl))) (by rw [isNone_enc]))) fun _ => et_test (EvD.to (ev_notN (EvD.mono e2 (eB _ rfl rfl))) (by rw [isNone_enc]))) (fun hc2 H3 e3 => ?_) fun hc2 H3 e3 => ?_
    · refine s_ret (K := K) (d := encHB (heightBy g r)) (EvD.mono (e2.trans e3) ?_) fun v H' e dv => q v H' (((e1.trans e2).trans e3).trans e) dv
      cases oa with
      | some a => simp at hc2
      | none =>
        cases ob with
        | none => simp at hc2
        | some c =>
          rw [hv]
          exact ev_tup (by show 2 ≤ 1000; decide) (ea2 (ev_var rfl d1) (ev_minus (eB _ rfl rfl) (ev_var rfl d3)))
    · refine s_ret (K := K) (d := encHB (heightBy g r)) ?_ fun v H' e dv => q v H' (((e1.trans e2).trans e3).trans e) dv
      have : encHB (heightBy g r) = .none := by
        rw [hv]
        cases oa <;> cases ob <;> simp at hb hc2 <;> rfl
      rw [this]
      exact ev_non
theorem take_more {α : Type} {xs : List α} {i : Nat} {a : α} (h : xs[i]? = some a) : xs.take (i + 1) = xs.take i ++ [a] := by rw [List.take_add_one, h]; rfl
theorem cnt_more {rs : List Rdg} {g : Part} {i : Nat} {r : Rdg} (h : rs[i]? = some r) : cnt (rs.take (i + 1)) g = cnt (rs.take i) g + (if lieKnown g r = true then 1 else 0) := by
  unfold cnt
  rw [take_more h, List.filter_append, List.length_append]
  by_cases c : lieKnown g r = true <;> simp [c]
theorem rd_count_lies (vs : List V) (H : Hp) (Q : VK) (E : XK) (h : sp_count_lies K vs H Q E) : t_count_lies K { nx := fun _ H' => Q .non H', rt := Q } (start N_count_lies vs) H := by
  obtain ⟨N, g, hd, ok, hl, q⟩ := h
  obtain ⟨x, y, rfl, dx, dy⟩ := dp2 hd
  refine q_asg (K := K) ev_int fun v0 H1 e1 d0 => ?_
  cases dp_int d0
  refine q_for (M := noM) (ei_tup (ev_rs (ev_var rfl (Dp.mono e1 _ _ dx))) (rs_noL _)) (fun i σ' H' => ∃ a b c, σ' = [some x, some y, some (.int (cnt (N.rs.take i) g : Nat)), a, b, c] ∧ Same H H')
    (fun H2 e2 => ⟨none, none, none, rfl, e1.trans e2⟩) (fun i σ' H' H'' z hi p e3 dz Nx nx => ?_) fun σ' H' p => ?_
  · obtain ⟨a, b, c, rfl, sm⟩ := p
    have hil : i < N.rs.length := by simpa using hi
    have hr : N.rs[i]? = some N.rs[i] := List.getElem?_eq_getElem hil
    rw [rs_item hr] at dz
    have oe := ok.ends N.rs[i] (List.getElem_mem hil)
    have dy3 := Dp.mono (sm.trans e3) _ _ dy
    obtain ⟨oa, ha⟩ : ∃ oa, g.getD N.rs[i].1 none = oa := ⟨_, rfl⟩
    obtain ⟨ob, hc⟩ : ∃ ob, g.getD N.rs[i].2.1 none = ob := ⟨_, rfl⟩
    have hv : lieKnown g N.rs[i] = lk2 oa ob N.rs[i] := by unfold lieKnown; rw [ha, hc]
    refine tg3 dz fun x1 x2 x3 d1 d2 d3 => ?_
    have eA : EvD K (tOp (rIx K) (tVar 1) (tVar 3)) [some x, some y, some (.int (cnt (N.rs.take i) g : Nat)), some x1, some x2, some x3] H'' (encO oa) := ev_ixT (ev_var rfl dy3) (ev_var rfl d1) (by rw [← ha]; exact getO (by rw [hl]; exact oe.1))
    have eB : EvD K (tOp (rIx K) (tVar 1) (tVar 4)) [some x, some y, some (.int (cnt (N.rs.take i) g : Nat)), some x1, some x2, some x3] H'' (encO ob) := ev_ixT (ev_var rfl dy3) (ev_var rfl d2) (by rw [← hc]; exact getO (by rw [hl]; exact oe.2))
    refine s_if (b := !oa.isNone && !ob.isNone) (et_and (et_test (EvD.to (ev_notN eA) (by rw [isNone_enc]))) fun _ => et_test (EvD.to (ev_notN eB) (by rw [isNone_enc]))) (fun hb H4 e4 => ?_) fun hb H4 e4 => ?_
    · cases oa with
      | none => simp at hb
      | some a2 =>
        cases ob with
        | none => simp at hb
        | some c2 =>
          refine s_asg (ev_plus (ev_var rfl (.int _)) (ev_intB (EvD.mono e4 (ev_neI (ev_minus eB eA) (ev_var rfl d3))))) fun v H5 e5 dv => nx _ _ (same_butM (e4.trans e5)) ⟨some x1, some x2, some x3, ?_, ((sm.trans e3).trans e4).trans e5⟩
          rw [dp_int dv, cnt_more hr, hv]
          have : lk2 (some a2) (some c2) N.rs[i] = !decide (c2 - a2 = N.rs[i].2.2) := by show (c2 - a2 != N.rs[i].2.2) = _; rw [bne, Bool.beq_eq_decide_eq]
          show [some x, some y, some (V.int _), some x1, some x2, some x3] = _
          simp only [this]
          congr 4
          split <;> simp_all
    · refine nx _ _ (same_butM e4) ⟨some x1, some x2, some x3, ?_, (sm.trans e3).trans e4⟩
      rw [cnt_more hr]
      have : lieKnown g N.rs[i] = false := by
        rw [hv]
        cases oa <;> cases ob <;> simp at hb <;> rfl
      rw [this]
      rfl
  · obtain ⟨a, b, c, rfl, sm⟩ := p
    refine s_ret (K := K) (ev_var rfl (.int _)) fun v H' e dv => ?_
    have e0 : N.rs.take (N.rs.map encR).length = N.rs := by rw [List.length_map, List.take_length]
    rw [e0] at dv
    exact q v H' (sm.trans e) dv
theorem rd_known_key (vs : List V) (H : Hp) (Q : VK) (E : XK) (h : sp_known_key K vs H Q E) : t_known_key K { nx := fun _ H' => Q .non H', rt := Q } (start N_known_key vs) H := by
  obtain ⟨g, hd, hl, q⟩ := h
  obtain ⟨x, rfl, dx⟩ := dp1 hd
  refine s_ret (K := K) (d := keyD (encP g)) ?_ q
  refine ev_tupL (EvN.dd (EvN.to (en_lcM (M := noM) g encO (ei_tup (ev_var rfl dx) (noLAll_map _ _ fun o _ => by cases o <;> rfl)) (by simp) (fun i b hb => getD_of (get_map encO hb)) (fun o => keyI (encO o)) (by omega) (fun o _ => by cases o <;> rfl)
    fun o ho H1 z e1 dz Q q => q _ H1 (Same.refl H1) rfl ?_) ?_))
  · cases o with
    | none =>
      refine ev_tup (by show 2 ≤ 1000; decide) (ea2 (EvD.to (ev_notN (ev_var rfl dz)) rfl) ?_)
      intro H2 e2 Q q
      cases dp_none dz
      exact ⟨_, rfl, false, rfl, iteF (q _ H2 (Same.refl H2) (.int 0))⟩
    | some i =>
      refine ev_tup (by show 2 ≤ 1000; decide) (ea2 (EvD.to (ev_notN (ev_var rfl dz)) rfl) ?_)
      intro H2 e2 Q q
      cases dp_int dz
      refine ⟨_, rfl, i != 0, rfl, ?_⟩
      by_cases h0 : i = 0
      · subst h0
        exact iteF (q _ H2 (Same.refl H2) (.int 0))
      · have : (i != 0) = true := by simpa using h0
        rw [this]
        exact iteT (q _ H2 (Same.refl H2) (.int i))
  · show g.map (fun o => keyI (encO o)) = (g.map encO).map keyI
    rw [List.map_map]
    rfl
theorem rd_verdict_of (vs : List V) (H : Hp) (Q : VK) (E : XK) (h : sp_verdict_of K vs H Q E) : t_verdict_of K { nx := fun _ H' => Q .non H', rt := Q } (start N_verdict_of vs) H := by
  obtain ⟨i, told, hd, hl, q⟩ := h
  obtain ⟨x, y, rfl, dx, dy⟩ := dp2 hd
  refine q_asg (K := K) (d := .int ((told.filter fun row => row.contains i).length : Nat)) ?_ fun v H1 e1 dv => ?_
  · refine EvD.to (ev_lenL (EvN.dd (en_lcB (M := noM) told encI (ei_lst (ev_var rfl dy) (noLAll_map _ _ fun b _ => noL_encI b)) (by simp) (fun i b hb => getD_of (get_map encI hb)) (fun row => row.contains i) encI (by omega) (fun b _ _ => noL_encI b)
      fun row hr H1 z e1 dz Q q => q _ H1 (Same.refl H1) rfl (et_test (ev_inT (neg := false) (ev_var rfl (Dp.mono e1 _ _ dx)) (ev_var rfl dz))) fun _ => ev_var rfl dz))) ?_
    rw [List.length_map]
  · have dy1 := Dp.mono e1 _ _ dy
    refine q_when (et_test (ev_eqI (K := K) (ev_var rfl dv) ev_int)) (fun hb H2 e2 => ?_) fun hb H2 e2 => ?_
    · refine s_ret (K := K) (d := .str (verdictOf told i)) (EvD.to ev_str ?_) fun v H' e dv => q v H' ((e1.trans e2).trans e) dv
      have hb := of_decide_eq_true hb
      unfold verdictOf
      rw [if_pos (by omega)]
    · have hb := of_decide_eq_false hb
      refine q_when (et_test (ev_eqI (ev_var rfl (Dp.mono e2 _ _ dv)) (ev_lenL (ev_var rfl (Dp.mono e2 _ _ dy1))))) (fun hc H3 e3 => ?_) fun hc H3 e3 => ?_
      · have hc := of_decide_eq_true hc
        rw [List.length_map] at hc
        refine s_ret (K := K) (d := .str (verdictOf told i)) (EvD.to ev_str ?_) fun v H' e dv => q v H' (((e1.trans e2).trans e3).trans e) dv
        unfold verdictOf
        rw [if_neg (by omega), if_pos (by omega)]
      · have hc := of_decide_eq_false hc
        rw [List.length_map] at hc
        refine s_ret (K := K) (d := .str (verdictOf told i)) (EvD.to ev_str ?_) fun v H' e dv => q v H' (((e1.trans e2).trans e3).trans e) dv
        unfold verdictOf
        rw [if_neg (by omega), if_neg (by omega)]
end
end K11
end

/-! ## K11RdB -/
section
set_option maxHeartbeats 4000000
/-! What the readings of the cut defs come to. -/
namespace K11
open PySem PySem.Spec PyProof.Rows L2
def encN (i : Nat) : PyData := .int (i : Nat)
def EvNR (K : PySem.W.Frag) (te : TE) (σ : L2.St) (H : Hp) (P : List PyData → Prop) : Prop := ∀ H1, Same H H1 → ∀ Q : VK, (∀ p H2 ds, P ds → Same H1 H2 → H1 p = none → LstAt K H2 p ds → Q (.ref p) H2) → te σ H1 Q
abbrev twoM (l p : Addr) : Addr → Prop := fun a => a = l ∨ a = p
section
variable {K : PySem.W.Frag} {M : Addr → Prop} {σ : L2.St} {H : Hp} {ta tb te tl : TE} {ds : List PyData} {d : PyData} {D : Ends} {tu tw tz : TS} {t : TT}
/-! ### data that may be compared -/
theorem lay_all {ds : List PyData} (h : ∀ d ∈ ds, d.canLay0 = true) : PyData.canLayAll0 ds = true := by
  induction ds with
  | nil => rfl
  | cons d ds ih => rw [PyData.canLayAll0, h d (by simp), ih fun e he => h e (by simp [he])]; rfl
theorem depth_all {ds : List PyData} {n : Nat} (h : ∀ d ∈ ds, d.depth ≤ n) : PyData.depthAll ds ≤ n := by
  induction ds with
  | nil => exact Nat.zero_le _
  | cons d ds ih => rw [PyData.depthAll]; exact Nat.max_le.mpr ⟨h d (by simp), ih fun e he => h e (by simp [he])⟩
theorem shaped_list {ds : List PyData} (h1 : ∀ d ∈ ds, d.canLay0 = true) (h2 : ∀ d ∈ ds, d.depth ≤ 40) : SeqAt.shaped (.list ds) = true := by
  unfold SeqAt.shaped
  rw [PyData.canLay0, PyData.depth, lay_all h1, Bool.true_and]
  have := depth_all h2
  exact decide_eq_true (by omega)
theorem shaped_tuple {ds : List PyData} (h1 : ∀ d ∈ ds, d.canLay0 = true) (h2 : ∀ d ∈ ds, d.depth ≤ 40) : SeqAt.shaped (.tuple ds) = true := by
  unfold SeqAt.shaped
  rw [PyData.canLay0, PyData.depth, lay_all h1, Bool.true_and]
  have := depth_all h2
  exact decide_eq_true (by omega)
theorem shaped_nums (ps : List Nat) : SeqAt.shaped (.list (ps.map encN)) = true :=
  shaped_list (fun d hd => by obtain ⟨i, _, rfl⟩ := List.mem_map.mp hd; rfl) (fun d hd => by obtain ⟨i, _, rfl⟩ := List.mem_map.mp hd; show (0 : Nat) ≤ 40; decide)
theorem shaped_nil : SeqAt.shaped (.list []) = true := shaped_list (fun _ h => by cases h) (fun _ h => by cases h)
/-! ### more rules -/
theorem dpAll_rep {xs : List V} {ds : List PyData} (h : DpAll K H xs ds) : ∀ n : Nat, DpAll K H (List.replicate n xs).flatten (List.replicate n ds).flatten
  | 0 => .nil
  | n + 1 => by
    rw [List.replicate_succ, List.replicate_succ, List.flatten_cons, List.flatten_cons]
    exact dpAll_append h (dpAll_rep h n)
theorem en_rep1 {n : Nat} (hd : EvD K te σ H d) (hb : EvD K tb σ H (.int (n : Int))) (hz : n ≤ 100000) : EvN K (tOp rRep (tLst (tCons te tNil)) tb) σ H (List.replicate n d) := fun H1 e Q q =>
  en_lst (ds := [d]) (by show 1 ≤ 1000; decide) (ea1 hd) H1 e _ fun p H2 e2 hp hl => hb H2 (e.trans e2) _ fun y H3 e3 dy => by
    obtain ⟨xs, hx, hdx⟩ := hl
    cases dp_int dy
    have hl := dpAll_len hdx
    have hz2 : xs.length * ((n : Int)).toNat ≤ sizeLine := by
      rw [hl]
      have : 100000 < sizeLine := by decide
      simp
      omega
    refine ⟨p, (n : Int), xs, rfl, rfl, e3 _ _ hx, by omega, by omega, hz2, fun p' hp' => ?_⟩
    refine q _ _ ((e2.trans e3).trans (same_upd hp')) (fresh_back (e2.trans e3) hp') ⟨_, upd_same, ?_⟩
    have e0 : ((n : Int)).toNat = n := by omega
    have := dpAll_rep (DpAll.mono (e3.trans (same_upd (o := HO.lst (List.replicate ((n : Int)).toNat xs).flatten) hp')) _ _ hdx) n
    rw [List.flatten_replicate_singleton] at this
    rw [e0] at this ⊢
    exact this
theorem q_pop0 {l : Addr} {i j : Nat} (hv : σ[i]? = some (some (.ref l))) (hl : LstAt K H l (d :: ds)) (hn : noLAll (d :: ds) = true) (k : ∀ v H1, But l H H1 → LstAt K H1 l ds → Dp K H1 v d → tz D (σ.set j (some v)) H1) :
    tSeq (tAsg (tBM K "list" rPopAt (tVar i) (tCons (tC (.int 0)) tNil)) (gName j)) tz D σ H := by
  obtain ⟨xs, hx, hdx⟩ := id hl
  cases hdx with
  | @cons x xs _ _ h1 h2 =>
    refine ⟨_, hv, .inl ⟨rfl, _, SqL.of hx⟩, ?_⟩
    refine ⟨l, x :: xs, 0, 0, x, rfl, rfl, hx, by decide, by decide, ?_, rfl, ?_⟩
    · unfold seqIndex?
      simp
    · have b : But l H (upd H l (.lst xs)) := But.upd (Same.refl H)
      obtain ⟨n1, n2⟩ := noL_cons hn
      exact k x _ b ⟨xs, upd_same, DpAll.but b hx _ _ n2 h2⟩ (Dp.but b hx _ _ n1 h1)
theorem q_whenP (P : Hp → Prop) {b : Bool} (h : EvT t σ H b) (h1 : b = true → ∀ H1, Same H H1 → ∀ Nx : L2.St → Hp → Prop, (∀ H2, P H2 → Nx σ H2) → tu { D with nx := Nx } σ H1) (h2 : b = false → ∀ H1, Same H H1 → P H1) (k : ∀ H1, P H1 → tz D σ H1) : tSeq (tIfS t tu tNext) tz D σ H :=
  q_when h (fun hb H1 e => h1 hb H1 e _ k) fun hb H1 e => k H1 (h2 hb H1 e)
theorem q_asgNR {i : Nat} {P : List PyData → Prop} (h : EvNR K te σ H P) (k : ∀ p H1 ds, P ds → Same H H1 → H p = none → LstAt K H1 p ds → tz D (σ.set i (some (.ref p))) H1) : tSeq (tAsg te (gName i)) tz D σ H := h H (Same.refl H) _ k
theorem s_asgNR {i : Nat} {P : List PyData → Prop} (h : EvNR K te σ H P) (k : ∀ p H1 ds, P ds → Same H H1 → H p = none → LstAt K H1 p ds → D.nx (σ.set i (some (.ref p))) H1) : tAsg te (gName i) D σ H := h H (Same.refl H) _ k
theorem enr_cal {sp : Sp} {ta : TA} {P : List PyData → Prop} (ha : EvA K ta σ H ds) (h : ∀ vs H1 (Q : VK), Same H H1 → DpAll K H1 vs ds → RetNP K H1 P Q → sp vs H1 Q E0) : EvNR K (tCal sp E0 ta) σ H P := fun H1 e Q q =>
  ha H1 e _ fun vs H2 e2 dv => h vs H2 Q (e.trans e2) dv fun p H3 d pd e3 hp d3 => q p H3 d pd (e2.trans e3) (fresh_back e2 hp) d3
theorem isNone_step (o : Option (Nat × Int × Int)) : isNone (encStep o) = o.isNone := by cases o <;> rfl
theorem noL_steps (L : Steps) : noLAll (L.map encStep) = true := noLAll_map _ _ fun o _ => by cases o <;> rfl
theorem noL_nums (L : List Nat) : noLAll (L.map encN) = true := noLAll_map _ _ fun o _ => rfl
theorem noL_ints (L : List Int) : noLAll (L.map .int) = true := noLAll_map _ _ fun o _ => rfl
theorem eqv_nil (ps : List PyData) : PyData.eqv (.list ps) (.list []) = ps.isEmpty := by cases ps <;> rfl
/-- last[w] = (mark, index, by); queue.append(w) -/
theorem push_step {N : Net} {f : List Int} {s : Nat} {L : Steps} {ps : List Nat} {m i w : Nat} {r : Rdg} {xi b : Int} {l p : Addr} {vb : TE} {wi : Nat} {x1 : V} (h3 : σ[3]? = some (some (.ref l))) (h4 : σ[4]? = some (some (.ref p))) (h5 : σ[5]? = some (some (.int (m : Nat)))) (h6 : σ[6]? = some (some (.int (i : Nat)))) (hw : σ[wi]? = some (some (.int (w : Nat))))
    (hb : EvD K vb σ H (.int b)) (la : LstAt K H l (L.map encStep)) (pa : LstAt K H p (ps.map encN)) (hpl : p ≠ l) (I : SIn N.n N.rs f s L ps m i) (hL : L[w]? = some none) (e1 : N.rs[i]? = some r) (e2 : f[i]? = some xi) (hl : leads r xi m w b) (hz : ps.length ≤ 1000)
    (k : ∀ H2, ButM (twoM l p) H H2 → (∀ H0, Same H0 H → H0 l = none → H0 p = none → Same H0 H2) → LstAt K H2 l ((L.set w (some (m, (i : Int), b))).map encStep) → LstAt K H2 p ((ps ++ [w]).map encN) → D.nx σ H2) :
    tSeq (tAsg (tTup (tCons (tVar 5) (tCons (tVar 6) (tCons vb tNil)))) (gSub (tVar 3) (tVar wi) rSetL)) (tDrop (tBM K "list" rAppend (tVar 4) (tCons (tVar wi) tNil))) D σ H := by
  have hwl := (List.getElem?_eq_some_iff.mp hL).1
  refine q_setL (d := .tuple [.int (m : Nat), .int (i : Nat), .int b]) (j := w) h3 la (noL_steps L) rfl (ev_tup (by show 3 ≤ 1000; decide) (ea3 (ev_var h5 (.int _)) (ev_var h6 (.int _)) hb)) (ev_var hw (.int _)) (by simpa using hwl) fun H1 b1 l1 => ?_
  have lz := la.some
  have p1 := pa.but hpl b1 lz.choose_spec (noL_nums ps)
  refine s_app (d := encN w) h4 p1 (noL_nums ps) rfl (ev_var hw (.int _)) (by simp; omega) fun H2 b2 p2 => ?_
  refine k H2 ((But.butM b1 (.inl rfl) lz).trans (But.butM b2 (.inr rfl) p1.some)) (fun H0 e n1 n2 => But.mut (But.mut e n1 b1) n2 b2) ?_ ?_
  · have := l1.but (Ne.symm hpl) b2 p1.some.choose_spec (noLAll_set (noL_steps L) rfl)
    rw [List.map_set]
    exact this
  · rw [List.map_append]
    exact p2
end
section
variable {K : PySem.W.Frag}
theorem rd_search (vs : List V) (H : Hp) (Q : VK) (E : XK) (h : sp_search K vs H Q E) : t_search K { nx := fun _ H' => Q .non H', rt := Q } (start N_search vs) H := by
  obtain ⟨N, f, s, hd, ok, hf, hs, q⟩ := h
  obtain ⟨x, y, z, rfl, dx, dy, dz⟩ := dp3 hd
  cases dp_int dz
  have five := ok.five
  have few := ok.few
  refine q_asgN (K := K) (en_rep1 ev_non (ev_nm (ev_var rfl dx)) (by omega)) fun l H1 e1 hl1 la1 => ?_
  refine q_setL (K := K) (d := .tuple [.int (s : Nat), .int (-1), .int 0]) (j := s) (l := l) rfl la1 (noLAll_iff.mpr fun d hd => by rw [List.eq_of_mem_replicate hd]; rfl) rfl (ev_tup (by show 3 ≤ 1000; decide) (ea3 (ev_var rfl (.int _)) (ev_neg ev_int) ev_int)) (ev_var rfl (.int _)) (by simpa using hs) fun H2 b2 la2 => ?_
  have s2 : Same H H2 := But.mut e1 hl1 b2
  refine q_asgN (K := K) (ds := [encN s]) (en_lst (by show 1 ≤ 1000; decide) (ea1 (ev_var rfl (.int _)))) fun p H3 e3 hp2 pa3 => ?_
  have s3 := s2.trans e3
  have hpl : p ≠ l := fun e => by
    obtain ⟨zs, hz⟩ := la2.some
    rw [e, hz] at hp2
    cases hp2
  have hp0 : H p = none := fresh_back s2 hp2
  refine q_while (fun m σ' H' => ∃ (L : Steps) (ps : List Nat) (a b c d e g : Option V), m = ps.length + nones L ∧ m ≤ 9 ∧ σ' = [some x, some y, some (.int (s : Nat)), some (.ref l), some (.ref p), a, b, c, d, e, g] ∧ Same H H' ∧ LstAt K H' l (L.map encStep) ∧ LstAt K H' p (ps.map encN) ∧ SInv N.n N.rs f s L ps) _
    ⟨(List.replicate N.n none).set s (some (s, -1, 0)), [s], none, none, none, none, none, none, rfl, ?_, rfl, s3, ?_, pa3, SInv.start hs⟩ fun m σ' H' w => ?_
  · have := List.length_filter_le (fun q => q.isNone) ((List.replicate N.n none).set s (some ((s, -1, 0) : Nat × Int × Int)))
    unfold nones
    simp at this ⊢
    omega
  · rw [List.map_set, List.map_replicate]
    exact la2.mono e3
  obtain ⟨L, ps, a, b, c, d, e, g, rfl, hm9, rfl, sm, la, pa, I⟩ := w
  refine ⟨!ps.isEmpty, et_test (EvD.to (ev_neD (shaped_nums ps) shaped_nil (ev_var rfl pa.dp) (en_lst (ds := []) (by show 0 ≤ 1000; decide) ea_nil).dd) (by rw [eqv_nil]; cases ps <;> rfl)), fun hb H4 e4 Nw nw => ?_, fun hb H4 e4 => ?_⟩
  · cases ps with
    | nil => cases hb
    | cons m0 ps =>
      refine q_pop0 (K := K) (l := p) rfl (pa.mono e4) (noL_nums (m0 :: ps)) fun v H5 b5 pa5 dv => ?_
      cases dp_int dv
      have la4 := la.mono e4
      have pa4 := pa.mono e4
      have la5 := la4.but (Ne.symm hpl) b5 pa4.some.choose_spec (noL_steps L)
      have s5 : Same H H5 := But.mut (sm.trans e4) hp0 b5
      have tot : ∃ tot, ps.length + nones L = tot := ⟨_, rfl⟩
      obtain ⟨tot, htot⟩ := tot
      have htot9 : tot ≤ 9 := by rw [List.length_cons] at hm9; omega
      have htotS : tot < (m0 :: ps).length + nones L := by rw [List.length_cons]; omega
      refine s_for (M := twoM l p) (ei_enumT (ev_rs (ev_var rfl (Dp.mono s5 _ _ dx))) (rs_noL _))
        (fun i σ' H' => ∃ (L : Steps) (ps : List Nat) (b c d e g : Option V), σ' = [some x, some y, some (.int (s : Nat)), some (.ref l), some (.ref p), some (.int (m0 : Nat)), b, c, d, e, g] ∧ Same H H' ∧ LstAt K H' l (L.map encStep) ∧ LstAt K H' p (ps.map encN) ∧ SIn N.n N.rs f s L ps m0 i ∧ ps.length + nones L = tot)
        (fun H6 e6 => ⟨L, ps, b, c, d, e, g, rfl, s5.trans e6, la5.mono e6, pa5.mono e6, I.pop, htot⟩) (fun i σ' H6 H7 zz hi p6 e7 dz Nx nx => ?_) fun σ' H6 p6 => ?_
      · obtain ⟨L, ps, b, c, d, e, g, rfl, s6, la6, pa6, I6, htot⟩ := p6
        have hil : i < N.rs.length := by simpa using hi
        obtain ⟨r, hr⟩ : ∃ r, N.rs[i]? = some r := ⟨_, List.getElem?_eq_getElem hil⟩
        obtain ⟨xi, hx⟩ : ∃ xi, f[i]? = some xi := ⟨_, List.getElem?_eq_getElem (by rw [hf]; exact hil)⟩
        have oe := ok.ends r (List.mem_of_getElem? hr)
        rw [rs_item hr] at dz
        have s7 := s6.trans e7
        have la7 := la6.mono e7
        have pa7 := pa6.mono e7
        refine tg2 dz fun x1 x2 d1 d2 => ?_
        cases dp_int d1
        refine q_asg3 (K := K) (ev_var rfl d2) fun y1 y2 y3 H8 e8 f1 f2 f3 => ?_
        cases dp_int f1
        cases dp_int f2
        have s8 := s7.trans e8
        have fx : ∀ (σ : L2.St) (H9 : Hp), σ[1]? = some (some y) → σ[6]? = some (some (.int (i : Nat))) → Same H H9 → EvD K (tOp (rIx K) (tVar 1) (tVar 6)) σ H9 (.int xi) := fun σ H9 a1 a2 s9 => ev_ixL (ev_var a1 (Dp.mono s9 _ _ dy)) (ev_var a2 (.int _)) (get_map .int hx)
        have lenL : ∀ {L : Steps} {ps : List Nat}, SIn N.n N.rs f s L ps m0 i → L.length = N.n := fun I => by obtain ⟨rank, T⟩ := I.tree; exact T.len
        obtain ⟨o1, ho1⟩ : ∃ o, L[r.2.1]? = some o := ⟨_, List.getElem?_eq_getElem (by rw [lenL I6]; exact oe.2)⟩
        have big : ∀ {L : Steps} {ps : List Nat}, SIn N.n N.rs f s L ps m0 i → ps.length + nones L = tot → ps.length ≤ 1000 := fun _ h => by omega
        refine q_whenP (D := _) (fun H2 => ∃ (L : Steps) (ps : List Nat), ButM (twoM l p) H8 H2 ∧ Same H H2 ∧ LstAt K H2 l (L.map encStep) ∧ LstAt K H2 p (ps.map encN) ∧ SIn N.n N.rs f s L ps m0 i ∧ ps.length + nones L = tot ∧ (r.1 = m0 → xi < 1 → disc L r.2.1))
          (b := decide ((m0 : Int) = (r.1 : Int)) && (decide (xi < 1) && o1.isNone))
          (et_and (et_test (ev_eqI (K := K) (ev_var rfl (.int _)) (ev_var rfl (.int _)))) fun _ => et_and (et_test (ev_lt (fx _ _ rfl rfl s8) ev_int)) fun _ => et_test (EvD.to (ev_isN (ev_ixL (ev_var rfl (la7.mono e8).dp) (ev_var rfl (.int _)) (get_map encStep ho1))) (by rw [isNone_step])))
          (fun hb H9 e9 Ny ny => ?_) (fun hb H9 e9 => ?_) fun H9 p9 => ?_
        · simp only [Bool.and_eq_true, decide_eq_true_eq] at hb
          obtain ⟨b1, b2, b3⟩ := hb
          have b1 : m0 = r.1 := by omega
          cases o1 with
          | some _ => cases b3
          | none =>
            refine push_step (l := l) (p := p) (x1 := .non) rfl rfl rfl rfl rfl ev_int (la7.mono (e8.trans e9)) (pa7.mono (e8.trans e9)) hpl I6 ho1 hr hx (.inl ⟨rfl, b1.symm, rfl, b2⟩) (big I6 htot) fun H10 bm sm10 la10 pa10 => ny _ ?_
            refine ⟨_, _, (same_butM e9).trans bm, sm10 _ (s8.trans e9) hl1 hp0, la10, pa10, I6.push ho1 hr hx (.inl ⟨rfl, b1.symm, rfl, b2⟩), ?_, fun _ _ => disc_set_self (List.getElem?_eq_some_iff.mp ho1).1⟩
            have := nones_set L r.2.1 (m0, (i : Int), 1) ho1
            rw [List.length_append]
            simp
            omega
        · refine ⟨L, ps, same_butM e9, s8.trans e9, la7.mono (e8.trans e9), pa7.mono (e8.trans e9), I6, htot, fun a1 a2 => ?_⟩
          cases o1 with
          | some o => exact ⟨o, ho1⟩
          | none => simp [a1, a2] at hb
        · obtain ⟨L, ps, bm9, s9, la9, pa9, I9, htot9, done1⟩ := p9
          obtain ⟨o2, ho2⟩ : ∃ o, L[r.1]? = some o := ⟨_, List.getElem?_eq_getElem (by rw [lenL I9]; exact oe.1)⟩
          refine s_when (b := decide ((m0 : Int) = (r.2.1 : Int)) && (decide (-1 < xi) && o2.isNone))
            (et_and (et_test (ev_eqI (K := K) (ev_var rfl (.int _)) (ev_var rfl (.int _)))) fun _ => et_and (et_test (ev_gt (fx _ _ rfl rfl s9) (ev_neg ev_int))) fun _ => et_test (EvD.to (ev_isN (ev_ixL (ev_var rfl la9.dp) (ev_var rfl (.int _)) (get_map encStep ho2))) (by rw [isNone_step])))
            (fun hb H10 e10 => ?_) fun hb H10 e10 => ?_
          · simp only [Bool.and_eq_true, decide_eq_true_eq] at hb
            obtain ⟨b1, b2, b3⟩ := hb
            have b1 : m0 = r.2.1 := by omega
            cases o2 with
            | some _ => cases b3
            | none =>
              refine push_step (l := l) (p := p) (x1 := .non) rfl rfl rfl rfl rfl (ev_neg ev_int) (la9.mono e10) (pa9.mono e10) hpl I9 ho2 hr hx (.inr ⟨rfl, b1.symm, rfl, b2⟩) (big I9 htot9) fun H11 bm sm11 la11 pa11 => nx _ _ ((same_butM e8).trans (bm9.trans ((same_butM e10).trans bm))) ?_
              have hd1 := disc_set_self (L := L) (v := r.1) (q := (m0, (i : Int), -1)) (List.getElem?_eq_some_iff.mp ho2).1
              refine ⟨_, _, _, _, _, _, _, rfl, sm11 _ (s9.trans e10) hl1 hp0, la11, pa11, (I9.push ho2 hr hx (.inr ⟨rfl, b1.symm, rfl, b2⟩)).next hr hx (fun a1 a2 => disc_set (done1 a1 a2)) (fun _ _ => hd1), ?_⟩
              have := nones_set L r.1 (m0, (i : Int), -1) ho2
              rw [List.length_append]
              simp
              omega
          · refine nx _ _ ((same_butM e8).trans (bm9.trans (same_butM e10))) ⟨L, ps, _, _, _, _, _, rfl, s9.trans e10, la9.mono e10, pa9.mono e10, I9.next hr hx done1 (fun a1 a2 => ?_), htot9⟩
            cases o2 with
            | some o => exact ⟨o, ho2⟩
            | none =>
              have a2' : -1 < xi := a2
              simp [a1, a2'] at hb
      · obtain ⟨L', ps', b, c, d, e, g, rfl, s6, la6, pa6, I6, htot6⟩ := p6
        have e0 : (N.rs.map encR).length = N.rs.length := List.length_map _
        rw [e0] at I6
        exact nw _ _ _ (by omega) ⟨L', ps', _, _, _, _, _, _, rfl, by omega, rfl, s6, la6, pa6, I6.over⟩
  · have : ps = [] := by cases ps with
      | nil => rfl
      | cons _ _ => cases hb
    subst this
    exact ⟨_, rfl, q l H4 _ ⟨L, rfl, I.ok⟩ (sm.trans e4) hl1 (la.mono e4)⟩
end
end K11
end

/-! ## K11RdC -/
section
set_option maxHeartbeats 4000000
/-! What the readings of flow, ways, strength come to. -/
namespace K11
open PySem PySem.Spec PyProof.Rows L2
section
variable {K : PySem.W.Frag} {σ : L2.St} {H : Hp} {ta tb te tl : TE} {ds : List PyData} {d : PyData} {D : Ends} {tu tw tz : TS} {t : TT}
theorem ne_at {l p : Addr} {ds : List PyData} (h : H p = none) (g : LstAt K H l ds) : p ≠ l := fun e => by
  obtain ⟨zs, hz⟩ := g.some
  rw [e, hz] at h
  cases h
theorem rep_ints (n : Nat) : List.replicate n (PyData.int 0) = (List.replicate n (0 : Int)).map .int := by rw [List.map_replicate]
theorem rd_greatest_flow (vs : List V) (H : Hp) (Q : VK) (E : XK) (h : sp_greatest_flow K vs H Q E) : t_greatest_flow K { nx := fun _ H' => Q .non H', rt := Q } (start N_greatest_flow vs) H := by
  obtain ⟨N, t, hd, ok, ht0, ht, q⟩ := h
  obtain ⟨x, y, z, rfl, dx, dy, dz⟩ := dp3 hd
  cases dp_int dy
  cases dp_int dz
  have five := ok.five
  have few := ok.few
  have h0t : (0 : Nat) ≠ t := by omega
  have hsr : ∀ (σ : L2.St) (H9 : Hp) (fl : Addr) (f : List Int) (c : Int), σ[0]? = some (some x) → σ[1]? = some (some (.int 0)) → σ[3]? = some (some (.ref fl)) → Same H H9 → LstAt K H9 fl (f.map .int) → FlowOk N.n N.rs 0 t f c →
      EvNR K (tCal (sp_search K) E0 (tCons (tVar 0) (tCons (tVar 3) (tCons (tVar 1) tNil)))) σ H9 (fun ds => ∃ L : Steps, ds = L.map encStep ∧ SearchOk N.n N.rs f 0 L) := fun σ H9 fl f c a0 a1 a3 s9 fa F =>
    enr_cal (ea3 (ev_var a0 (Dp.mono s9 _ _ dx)) (ev_var a3 fa.dp) (ev_var a1 (.int 0))) fun vs H1 Q e1 dv qq => ⟨N, f, 0, dv, ok, F.len, by omega, qq⟩
  refine q_asgN (K := K) (en_rep1 ev_int (ev_lenT (ev_rs (ev_var rfl dx))) (by rw [List.length_map]; omega)) fun fl H1 e1 hf0 fa1 => ?_
  rw [List.length_map, rep_ints] at fa1
  refine q_asgNR (hsr _ _ fl _ _ rfl rfl rfl e1 fa1 (FlowOk.zero N.n N.rs 0 t)) fun lp H2 ds hP e2 hp1 pa2 => ?_
  obtain ⟨L, rfl, SK⟩ := hP
  refine q_while (fun m σ' H' => ∃ (f : List Int) (c : Int) (L : Steps) (lp : Addr) (a b c' d : Option V), m = (N.rs.length - c).toNat ∧ 0 ≤ c ∧ σ' = [some x, some (.int 0), some (.int (t : Nat)), some (.ref fl), some (.ref lp), a, b, c', d] ∧ Same H H' ∧ LstAt K H' fl (f.map .int) ∧ LstAt K H' lp (L.map encStep) ∧ lp ≠ fl ∧ FlowOk N.n N.rs 0 t f c ∧ SearchOk N.n N.rs f 0 L) _
    ⟨_, 0, L, lp, none, none, none, none, rfl, Int.le_refl _, rfl, e1.trans e2, fa1.mono e2, pa2, ne_at hp1 fa1, FlowOk.zero N.n N.rs 0 t, SK⟩ fun m σ' H' w => ?_
  obtain ⟨f, c, L, lp, a, b, c', d, rfl, hc0, rfl, sm, fa, pa, hne, F, SK⟩ := w
  obtain ⟨rank, T⟩ := SK.tree
  obtain ⟨o, ho⟩ : ∃ o, L[t]? = some o := ⟨_, List.getElem?_eq_getElem (by rw [T.len]; exact ht)⟩
  refine ⟨!o.isNone, et_test (EvD.to (ev_notN (ev_ixL (ev_var rfl pa.dp) (ev_var rfl (.int _)) (get_map encStep ho))) (by rw [isNone_step])), fun hb H3 e3 Nw nw => ?_, fun hb H3 e3 => ?_⟩
  · have hdt : disc L t := by
      cases o with
      | none => cases hb
      | some o => exact ⟨o, ho⟩
    refine q_asg (K := K) (ev_var rfl (.int (t : Nat))) fun v H4 e4 dv => ?_
    cases dp_int dv
    have s4 := sm.trans (e3.trans e4)
    refine q_while (fun r σ' H' => ∃ (f' : List Int) (mk : Nat) (b c' d : Option V), r = rank mk ∧ σ' = [some x, some (.int 0), some (.int (t : Nat)), some (.ref fl), some (.ref lp), some (.int (mk : Nat)), b, c', d] ∧ Same H H' ∧ LstAt K H' fl (f'.map .int) ∧ LstAt K H' lp (L.map encStep) ∧ BackOk N.n N.rs 0 t L rank f f' c mk) _
      ⟨f, t, b, c', d, rfl, rfl, s4, fa.mono (e3.trans e4), pa.mono (e3.trans e4), BackOk.start F hdt⟩ fun r σ' H5 w => ?_
    obtain ⟨f', mk, b, c', d, rfl, rfl, s5, fa5, pa5, B⟩ := w
    refine ⟨!decide ((mk : Int) = 0), et_test (ev_neI (K := K) (ev_var rfl (.int _)) (ev_var rfl (.int 0))), fun hb H6 e6 Nx nx => ?_, fun hb H6 e6 => ?_⟩
    · have hmk : mk ≠ 0 := fun e => by subst e; cases hb
      obtain ⟨u, j, b1, xx, g1, g2, g3, g4, g5⟩ := B.step T hmk
      refine q_asg3 (K := K) (ev_ixL (ev_var rfl (pa5.mono e6).dp) (ev_var rfl (.int _)) (get_map encStep g1)) fun y1 y2 y3 H7 e7 d1 d2 d3 => ?_
      cases dp_int d1
      cases dp_int d2
      cases dp_int d3
      have jl := (List.getElem?_eq_some_iff.mp g3).1
      have fa7 := fa5.mono (e6.trans e7)
      have pa7 := pa5.mono (e6.trans e7)
      refine q_setL (K := K) (l := fl) (j := j) rfl fa7 (noL_ints _) rfl (ev_plus (ev_ixL (ev_var rfl fa7.dp) (ev_var rfl (.int _)) (get_map .int g3)) (ev_var rfl (.int _))) (ev_var rfl (.int _)) (by simpa using jl) fun H8 b8 fa8 => ?_
      refine s_asg (K := K) (ev_var rfl (.int (u : Nat))) fun v H9 e9 dv => ?_
      cases dp_int dv
      have s8 : Same H H8 := But.mut (s5.trans (e6.trans e7)) hf0 b8
      refine nx _ _ _ g2 ⟨f'.set j (xx + b1), u, _, _, _, rfl, rfl, s8.trans e9, ?_, (pa7.but hne b8 fa7.some.choose_spec (noL_steps L)).mono e9, g5⟩
      rw [List.map_set]
      exact fa8.mono e9
    · have hmk : mk = 0 := by
        have := of_decide_eq_true (by simpa using hb : decide ((mk : Int) = 0) = true)
        omega
      subst hmk
      have F' := B.done
      refine s_asgNR (hsr _ _ fl _ _ rfl rfl rfl (s5.trans e6) (fa5.mono e6) F') fun lp2 H7 ds hP e7 hp6 pa7 => ?_
      obtain ⟨L2, rfl, SK2⟩ := hP
      have hle := F'.le_len h0t
      exact nw _ _ _ (by omega) ⟨f', c + 1, L2, lp2, _, _, _, _, rfl, by omega, rfl, (s5.trans e6).trans e7, fa5.mono (e6.trans e7), pa7, ne_at hp6 (fa5.mono e6), F', SK2⟩
  · have hnd : ¬ disc L t := fun ⟨q, hq⟩ => by
      rw [ho] at hq
      cases hq
      cases hb
    exact ⟨_, rfl, q fl H3 _ ⟨f, c, rfl, F, least_of ok.ends (by omega) ht F SK hnd⟩ (sm.trans e3) hf0 (fa.mono e3)⟩
theorem rd_next_reading (vs : List V) (H : Hp) (Q : VK) (E : XK) (h : sp_next_reading K vs H Q E) : t_next_reading K { nx := fun _ H' => Q .non H', rt := Q } (start N_next_reading vs) H := by
  obtain ⟨N, f, m, hd, ok, hf, q⟩ := h
  obtain ⟨x, y, z, rfl, dx, dy, dz⟩ := dp3 hd
  cases dp_int dz
  refine q_for (M := noM) (ei_enumT (ev_rs (ev_var rfl dx)) (rs_noL _)) (fun i σ' H' => ∃ a b, σ' = [some x, some y, some (.int (m : Nat)), a, b] ∧ Same H H' ∧ ∀ (j : Nat) (r : Rdg) (x : Int), j < i → N.rs[j]? = some r → f[j]? = some x → ¬ (r.1 = m ∧ x = 1) ∧ ¬ (r.2.1 = m ∧ x = -1))
    (fun H2 e2 => ⟨none, none, rfl, e2, fun j r x h => by omega⟩) (fun i σ' H' H'' zz hi p e3 dz Nx nx => ?_) fun σ' H' p => ?_
  · obtain ⟨a, b, rfl, sm, seen⟩ := p
    have hil : i < N.rs.length := by simpa using hi
    obtain ⟨r, hr⟩ : ∃ r, N.rs[i]? = some r := ⟨_, List.getElem?_eq_getElem hil⟩
    obtain ⟨xi, hx⟩ : ∃ xi, f[i]? = some xi := ⟨_, List.getElem?_eq_getElem (by rw [hf]; exact hil)⟩
    rw [rs_item hr] at dz
    refine tg2 dz fun x1 x2 d1 d2 => ?_
    cases dp_int d1
    have s3 := sm.trans e3
    have fx : ∀ (σ : L2.St), σ[1]? = some (some y) → σ[3]? = some (some (.int (i : Nat))) → EvD K (tOp (rIx K) (tVar 1) (tVar 3)) σ H'' (.int xi) := fun σ a1 a2 => ev_ixL (ev_var a1 (Dp.mono s3 _ _ dy)) (ev_var a2 (.int _)) (get_map .int hx)
    refine s_when (b := (decide ((r.1 : Int) = (m : Int)) && decide (xi = 1)) || (decide ((r.2.1 : Int) = (m : Int)) && decide (xi = -1)))
      (et_or (et_and (et_test (ev_eqI (K := K) (ev_ixT (n := 0) (ev_var rfl d2) ev_int rfl) (ev_var rfl (.int _)))) fun _ => et_test (ev_eqI (fx _ rfl rfl) ev_int)) fun _ => et_and (et_test (ev_eqI (K := K) (ev_ixT (n := 1) (ev_var rfl d2) ev_int rfl) (ev_var rfl (.int _)))) fun _ => et_test (ev_eqI (fx _ rfl rfl) (ev_neg ev_int)))
      (fun hb H4 e4 => ?_) fun hb H4 e4 => ?_
    · refine s_ret (K := K) (ev_var rfl (.int (i : Nat))) fun v H5 e5 dv => q v H5 _ (.inl ⟨i, r, xi, rfl, hr, hx, ?_⟩) (s3.trans (e4.trans e5)) dv
      simp only [Bool.or_eq_true, Bool.and_eq_true, decide_eq_true_eq] at hb
      omega
    · refine nx _ _ (same_butM e4) ⟨_, _, rfl, s3.trans e4, fun j r' x' hj g1 g2 => ?_⟩
      by_cases e : j = i
      · subst e
        rw [hr] at g1
        rw [hx] at g2
        cases g1
        cases g2
        have hb : ¬ (((r.1 : Int) = (m : Int) ∧ xi = 1) ∨ ((r.2.1 : Int) = (m : Int) ∧ xi = -1)) := fun z => by
          have : ((decide ((r.1 : Int) = (m : Int)) && decide (xi = 1)) || (decide ((r.2.1 : Int) = (m : Int)) && decide (xi = -1))) = true := by
            simp only [Bool.or_eq_true, Bool.and_eq_true, decide_eq_true_eq]
            exact z
          rw [this] at hb
          cases hb
        omega
      · exact seen j r' x' (by omega) g1 g2
  · obtain ⟨a, b, rfl, sm, seen⟩ := p
    refine s_ret (K := K) (ev_neg ev_int) fun v H5 e5 dv => q v H5 _ (.inr ⟨rfl, fun i r x g1 g2 => seen i r x ?_ g1 g2⟩) (sm.trans e5) dv
    rw [List.length_map]
    exact (List.getElem?_eq_some_iff.mp g1).1
theorem et_geR {b : Bool} {P : PyData → Prop} (h : EvR K ta σ H P) (hP : ∀ d, P d → ∃ i : Int, d = .int i ∧ decide (0 ≤ i) = b) : EvT (tTest (tOp rGe ta (tC (.int 0)))) σ H b := fun H1 e Q q => h H1 e _ fun v H2 d p e2 dv => by
  obtain ⟨i, rfl, hb⟩ := hP d p
  cases dp_int dv
  exact ⟨i, 0, rfl, rfl, b, by show V.bl (decide ((0 : Int) ≤ i)) = _; rw [hb], q H2 e2⟩
open Classical in
theorem rd_ways_of (vs : List V) (H : Hp) (Q : VK) (E : XK) (h : sp_ways_of K vs H Q E) : t_ways_of K { nx := fun _ H' => Q .non H', rt := Q } (start N_ways_of vs) H := by
  obtain ⟨N, f, t, c, hd, ok, ht0, ht, F, q⟩ := h
  obtain ⟨x, y, z, u, rfl, dx, dy, dz, du⟩ := dp4 hd
  cases dp_int dz
  cases dp_int du
  have few := ok.few
  have h0t : (0 : Nat) ≠ t := by omega
  have hnr : ∀ (σ : L2.St) (H9 : Hp) (fl : Addr) (f : List Int) (m i : Nat), σ[0]? = some (some x) → σ[1]? = some (some (.ref fl)) → σ[i]? = some (some (.int (m : Nat))) → Same H H9 → LstAt K H9 fl (f.map .int) → f.length = N.rs.length →
      EvR K (tCal (sp_next_reading K) E0 (tCons (tVar 0) (tCons (tVar 1) (tCons (tVar i) tNil)))) σ H9 (fun d => (∃ (j : Nat) (r : Rdg) (x : Int), d = .int (j : Nat) ∧ N.rs[j]? = some r ∧ f[j]? = some x ∧ (r.1 = m ∧ x = 1 ∨ r.2.1 = m ∧ x = -1)) ∨
        (d = .int (-1) ∧ ∀ (i : Nat) (r : Rdg) (x : Int), N.rs[i]? = some r → f[i]? = some x → ¬ (r.1 = m ∧ x = 1) ∧ ¬ (r.2.1 = m ∧ x = -1))) := fun σ H9 fl f m i a0 a1 a3 s9 fa hf =>
    er_cal (ea3 (ev_var a0 (Dp.mono s9 _ _ dx)) (ev_var a1 fa.dp) (ev_var a3 (.int _))) fun vs H1 Q e1 dv qq => ⟨N, f, m, dv, ok, hf, qq⟩
  refine q_asgN (en_lstL (ev_var rfl dy)) fun fl H1 e1 hf0 fa1 => ?_
  refine q_asgN (K := K) (ds := []) (en_lst (by show 0 ≤ 1000; decide) ea_nil) fun wl H2 e2 hw1 wa2 => ?_
  have hw0 : H wl = none := fresh_back e1 hw1
  have hwf : wl ≠ fl := ne_at hw1 fa1
  refine q_while (fun m σ' H' => ∃ (f : List Int) (ws : List PyData) (a b c1 d e g : Option V), σ' = [some x, some (.ref fl), some (.int 0), some (.int (t : Nat)), some (.ref wl), a, b, c1, d, e, g] ∧ Same H H' ∧ LstAt K H' fl (f.map .int) ∧ LstAt K H' wl ws ∧ noLAll ws = true ∧ ws.length + m = c ∧ FlowOk N.n N.rs 0 t f (m : Int)) c
    ⟨f, [], none, none, none, none, none, none, rfl, e1.trans e2, fa1.mono e2, wa2, rfl, by simp, F⟩ fun m σ' H' w => ?_
  obtain ⟨f, ws, a, b, c1, d, e, g, rfl, sm, fa, wa, hn, hl, F'⟩ := w
  have hcle := F.le_len h0t
  refine ⟨decide (∃ (j : Nat) (r : Rdg) (x : Int), N.rs[j]? = some r ∧ f[j]? = some x ∧ (r.1 = 0 ∧ x = 1 ∨ r.2.1 = 0 ∧ x = -1)), et_geR (hnr _ _ fl f 0 2 rfl rfl rfl sm fa F'.len) (fun d hP => ?_), fun hb H3 e3 Nw nw => ?_, fun hb H3 e3 => ?_⟩
  · rcases hP with ⟨j, r, xx, rfl, g1, g2, g3⟩ | ⟨rfl, hno⟩
    · refine ⟨_, rfl, ?_⟩
      rw [decide_eq_true (by omega : (0 : Int) ≤ (j : Int)), decide_eq_true ⟨j, r, xx, g1, g2, g3⟩]
    · refine ⟨_, rfl, ?_⟩
      show false = _
      exact (decide_eq_false (fun ⟨j, r, xx, g1, g2, g3⟩ => g3.elim (hno j r xx g1 g2).1 (hno j r xx g1 g2).2)).symm
  · obtain ⟨j0, r0, x0, g1, g2, g3⟩ := of_decide_eq_true hb
    refine q_asg (K := K) (ev_var rfl (.int 0)) fun v H4 e4 dv => ?_
    cases dp_int dv
    refine q_asgN (K := K) (ds := []) (en_lst (by show 0 ≤ 1000; decide) ea_nil) fun wy H5 e5 hy4 ya5 => ?_
    have s4 := sm.trans (e3.trans e4)
    have fa4 := fa.mono (e3.trans e4)
    have wa4 := wa.mono (e3.trans e4)
    have hyf : wy ≠ fl := ne_at hy4 fa4
    have hyw : wy ≠ wl := ne_at hy4 wa4
    have hy0 : H wy = none := fresh_back s4 hy4
    have nzl : nzc f ≤ 13 := by
      have := List.length_filter_le (fun x => x != 0) f
      have := F'.len
      unfold nzc
      omega
    refine q_while (fun k σ' H' => ∃ (f : List Int) (mk : Nat) (is : List Nat) (c1 d e g : Option V), k = nzc f ∧ is.length + k ≤ 13 ∧ σ' = [some x, some (.ref fl), some (.int 0), some (.int (t : Nat)), some (.ref wl), some (.int (mk : Nat)), some (.ref wy), c1, d, e, g] ∧ Same H H' ∧ LstAt K H' fl (f.map .int) ∧ LstAt K H' wl ws ∧ LstAt K H' wy (is.map encN) ∧ WalkOk N.n N.rs 0 t f (m : Int) mk) _
      ⟨f, 0, [], c1, d, e, g, rfl, by simpa using nzl, rfl, s4.trans e5, fa4.mono e5, wa4.mono e5, ya5, F'.walk h0t g1 g2 g3⟩ fun k σ' H6 w => ?_
    obtain ⟨f, mk, is, c1, d, e, g, rfl, hk, rfl, s6, fa6, wa6, ya6, W⟩ := w
    refine ⟨!decide ((mk : Int) = (t : Int)), et_test (ev_neI (K := K) (ev_var rfl (.int _)) (ev_var rfl (.int _))), fun hb H7 e7 Nx nx => ?_, fun hb H7 e7 => ?_⟩
    · have hmk : mk ≠ t := fun e => by subst e; simp at hb
      refine q_asgR (hnr _ _ fl f mk 5 rfl rfl rfl (s6.trans e7) (fa6.mono e7) W.len) fun v H8 d hP e8 dv => ?_
      rcases hP with ⟨j, r, xx, rfl, k1, k2, k3⟩ | ⟨_, hno⟩
      · cases dp_int dv
        have s8 := (s6.trans e7).trans e8
        have fa8 := fa6.mono (e7.trans e8)
        refine q_asg3 (K := K) (ev_ixT (ev_rs (ev_var rfl (Dp.mono s8 _ _ dx))) (ev_var rfl (.int (j : Nat))) (get_map encR k1)) fun y1 y2 y3 H9 e9 d1 d2 d3 => ?_
        cases dp_int d1
        cases dp_int d2
        have ya9 := ya6.mono ((e7.trans e8).trans e9)
        have fa9 := fa8.mono e9
        have wa9 := wa6.mono ((e7.trans e8).trans e9)
        have s9 := s8.trans e9
        refine q_app (K := K) (l := wy) (d := encN j) rfl ya9 (noL_nums is) rfl (ev_var rfl (.int _)) (by simp; omega) fun H10 b10 ya10 => ?_
        have s10 : Same H H10 := But.mut s9 hy0 b10
        have fa10 := fa9.but (Ne.symm hyf) b10 ya9.some.choose_spec (noL_ints f)
        have wa10 := wa9.but (Ne.symm hyw) b10 ya9.some.choose_spec hn
        have jl := (List.getElem?_eq_some_iff.mp k2).1
        refine q_setL (K := K) (l := fl) (j := j) (d := .int 0) rfl fa10 (noL_ints f) rfl ev_int (ev_var rfl (.int _)) (by simpa using jl) fun H11 b11 fa11 => ?_
        have nz := nzc_set f j xx k2 (by omega)
        refine s_asg (K := K) (d := .int ((r.1 + r.2.1 - mk : Nat) : Int)) (EvD.to (ev_minus (ev_plus (ev_var rfl (.int _)) (ev_var rfl (.int _))) (ev_var rfl (.int _))) (by congr 1; omega)) fun v H12 e12 dv => ?_
        cases dp_int dv
        refine nx _ _ _ nz ⟨f.set j 0, r.1 + r.2.1 - mk, is ++ [j], _, _, _, _, rfl, by rw [List.length_append]; simp; omega, rfl, (But.mut s10 hf0 b11).trans e12, ?_, (wa10.but hwf b11 fa10.some.choose_spec hn).mono e12, ?_, W.step k1 k2 k3⟩
        · rw [List.map_set]
          exact fa11.mono e12
        · rw [List.map_append]
          exact (ya10.but hyf b11 fa10.some.choose_spec (noLAll_app (noL_nums is) rfl)).mono e12
      · exact (W.out h0t hmk hno).elim
    · have hmk : mk = t := by
        have := of_decide_eq_true (by simpa using hb : decide ((mk : Int) = (t : Int)) = true)
        omega
      subst hmk
      have wp := W.pos
      refine s_app (K := K) (l := wl) (d := .tuple (is.map encN)) rfl (wa6.mono e7) hn (by rw [noL_tuple]; exact noL_nums is) (ev_tupL (ev_var rfl (ya6.mono e7).dp)) (by omega) fun H8 b8 wa8 => ?_
      refine nw (m - 1) _ _ (by omega) ⟨f, _, _, _, _, _, _, _, rfl, But.mut (s6.trans e7) hw0 b8, (fa6.mono e7).but (Ne.symm hwf) b8 (wa6.mono e7).some.choose_spec (noL_ints f), wa8, noLAll_app hn (noLAll_iff.mpr fun d hd => by rw [List.mem_singleton.mp hd, noL_tuple]; exact noL_nums is), by rw [List.length_append]; simp; omega, ?_⟩
      have := W.done
      have e0 : ((m - 1 : Nat) : Int) = (m : Int) - 1 := by omega
      rw [e0]
      exact this
  · have hno : ¬ _ := of_decide_eq_false hb
    have hm0 := F'.none_out h0t fun i r x g1 g2 => ⟨fun z => hno ⟨i, r, x, g1, g2, .inl z⟩, fun z => hno ⟨i, r, x, g1, g2, .inr z⟩⟩
    refine s_ret (K := K) (ev_tupL (ev_var rfl (wa.mono e3).dp)) fun v H4 e4 dv => q v H4 _ ⟨ws, rfl, by omega, hn⟩ ((sm.trans e3).trans e4) dv
end
end K11
end

/-! ## K11RdD -/
section
set_option maxHeartbeats 4000000
/-! What the readings of cuts and strength come to. -/
namespace K11
open PySem PySem.Spec PyProof.Rows L2
section
variable {K : PySem.W.Frag} {M : Addr → Prop} {σ : L2.St} {H : Hp} {ta tb te tl : TE} {ds : List PyData} {d : PyData} {D : Ends} {tu tw tz : TS} {t : TT}
theorem range_item (n i : Nat) (b : Nat) (h : (List.range n)[i]? = some b) : PyData.int (i : Nat) = encN b := by
  have hl := (List.getElem?_eq_some_iff.mp h).1
  rw [List.length_range] at hl
  rw [List.getElem?_range hl] at h
  cases h
  rfl
/-- [v for v in range(n) if f] -/
theorem en_rngB {tt : TT} {n : Nat} {j : Nat} {vs : List Nat} (hn : EvD K ta σ H (.int (n : Int))) (hz : n ≤ 100000) (f : Nat → Bool)
    (ht : ∀ i, i < n → ∀ H1, Same H H1 → wipe ((wipe σ vs).set j (some (.int (i : Nat)))) vs = wipe σ vs ∧ EvT tt ((wipe σ vs).set j (some (.int (i : Nat)))) H1 (f i) ∧ EvD K te ((wipe σ vs).set j (some (.int (i : Nat)))) H1 (encN i)) :
    EvN K (tLc (iRng1 (tCons ta tNil)) (gName j) tt te vs) σ H (((List.range n).filter f).map encN) :=
  en_lcB (M := noM) (List.range n) encN (ei_rng1 hn hz) (by simp) (fun i b h => range_item n i b h) f encN (by simpa using hz) (fun _ _ _ => rfl) fun b hb H1 x e1 dx Q q => by
    cases dp_int dx
    have hbn := List.mem_range.mp hb
    obtain ⟨h1, h2, h3⟩ := ht b hbn H1 e1
    exact q _ H1 (Same.refl H1) h1 h2 fun _ => h3
theorem nums_ints (L : List Nat) : L.map encN = (L.map fun (i : Nat) => (i : Int)).map .int := by
  rw [List.map_map]
  rfl
theorem rd_side_of (vs : List V) (H : Hp) (Q : VK) (E : XK) (h : sp_side_of K vs H Q E) : t_side_of K { nx := fun _ H' => Q .non H', rt := Q } (start N_side_of vs) H := by
  obtain ⟨N, f, hd, ok, hf, q⟩ := h
  obtain ⟨x, y, z, rfl, dx, dy, dz⟩ := dp3 hd
  cases dp_int dz
  have five := ok.five
  have two := ok.two
  refine q_asgNR (enr_cal (ea3 (ev_var rfl dx) (ev_var rfl dy) (ev_var rfl (.int 0))) fun vs H1 Q e1 dv qq => ⟨N, f, 0, dv, ok, hf, by omega, qq⟩) fun lp H1 ds hP e1 hl0 la => ?_
  obtain ⟨L, rfl, SK⟩ := hP
  obtain ⟨rank, T⟩ := SK.tree
  have item : ∀ i, i < N.n → (L.map encStep)[i]? = some (encStep (L.getD i none)) := fun i hi => get_map encStep (getD_some (by rw [T.len]; exact hi))
  refine q_asgN (K := K) (en_rngB (ev_nm (ev_var rfl (Dp.mono e1 _ _ dx))) (by omega) (fun i => !(L.getD i none).isNone) fun i hi H2 e2 => ⟨rfl, et_test (EvD.to (ev_notN (ev_ixL (ev_var rfl (la.mono e2).dp) (ev_var rfl (.int _)) (item i hi))) (by rw [isNone_step])), ev_var rfl (.int _)⟩) fun p H2 e2 hp pa => ?_
  have s2 := e1.trans e2
  have fin : ∀ (ws : List Nat) (H3 : Hp), Same H H3 → ∀ (p : Addr) (σ : L2.St), σ[4]? = some (some (.ref p)) → LstAt K H3 p (ws.map encN) → tRet (tCB (rTupO K) (tCons (tVar 4) tNil)) { nx := fun _ H' => Q .non H', rt := Q } σ H3 := fun ws H3 e3 p σ a4 pa =>
    s_ret (ev_tupL (ev_var a4 pa.dp)) fun v H4 e4 dv => q v H4 _ ⟨_, rfl, noL_nums ws⟩ (e3.trans e4) dv
  refine q_if (b := (((List.range N.n).filter fun i => !(L.getD i none).isNone).map fun (i : Nat) => (i : Int)).contains 0) (et_test (EvD.to (ev_inL (K := K) (neg := false) ev_int (ev_var rfl (by rw [nums_ints] at pa; exact pa.dp))) rfl)) (fun hb H3 e3 => ?_) fun hb H3 e3 => ?_
  · refine s_asgN (K := K) (en_rngB (ev_nm (ev_var rfl (Dp.mono (s2.trans e3) _ _ dx))) (by omega) (fun i => (L.getD i none).isNone) fun i hi H4 e4 => ⟨rfl, et_test (EvD.to (ev_isN (ev_ixL (ev_var rfl (la.mono (e2.trans (e3.trans e4))).dp) (ev_var rfl (.int _)) (item i hi))) (by rw [isNone_step])), ev_var rfl (.int _)⟩) fun p2 H4 e4 hp2 pa2 => ?_
    exact fin _ H4 (s2.trans (e3.trans e4)) p2 _ rfl pa2
  · exact fin _ H3 (s2.trans e3) p _ rfl (pa.mono e3)
theorem er_tup2 {Pa Pb : PyData → Prop} (ha : EvR K ta σ H Pa) (hb : EvR K tb σ H Pb) : EvR K (tTup (tCons ta (tCons tb tNil))) σ H (fun d => ∃ a b, Pa a ∧ Pb b ∧ d = .tuple [a, b]) := fun H1 e Q q =>
  ha H1 e _ fun x H2 a pa e2 dx => hb H2 (e.trans e2) _ fun y H3 b pb e3 dy => ⟨by show 2 ≤ sizeLine; decide, fun p hp => q _ _ (.tuple [a, b]) ⟨a, b, pa, pb, rfl⟩ ((e2.trans e3).trans (same_upd hp)) (.tup (SqT.of upd_same) (.cons (Dp.mono (e3.trans (same_upd hp)) _ _ dx) (.cons (Dp.mono (same_upd hp) _ _ dy) .nil)))⟩
theorem rd_least_cut (vs : List V) (H : Hp) (Q : VK) (E : XK) (h : sp_least_cut K vs H Q E) : t_least_cut K { nx := fun _ H' => Q .non H', rt := Q } (start N_least_cut vs) H := by
  obtain ⟨N, t, hd, ok, ht0, ht, q⟩ := h
  obtain ⟨x, y, z, rfl, dx, dy, dz⟩ := dp3 hd
  cases dp_int dy
  cases dp_int dz
  refine q_asgNR (enr_cal (ea3 (ev_var rfl dx) (ev_var rfl (.int 0)) (ev_var rfl (.int _))) fun vs H1 Q e1 dv qq => ⟨N, t, dv, ok, ht0, ht, qq⟩) fun fl H1 ds hP e1 hl0 fa => ?_
  obtain ⟨f, c, rfl, F, k, rfl, LA⟩ := hP
  refine er_tup2 (K := K) (er_cal (ea3 (ev_var rfl (Dp.mono e1 _ _ dx)) (ev_var rfl fa.dp) (ev_var rfl (.int 0))) fun vs H2 Q e2 dv qq => ⟨N, f, dv, ok, F.len, qq⟩)
    (er_cal (ea_cons (ev_var rfl (Dp.mono e1 _ _ dx)) (ea3 (ev_var rfl fa.dp) (ev_var rfl (.int 0)) (ev_var rfl (.int (t : Nat))))) fun vs H2 Q e2 dv qq => ⟨N, f, t, k, dv, ok, ht0, ht, F, qq⟩) H1 (Same.refl H1) _ fun v H2 d hP e2 dv => ?_
  obtain ⟨a, b, ⟨side, rfl, hs⟩, ⟨ws, rfl, hw1, hw2⟩, rfl⟩ := hP
  exact q v H2 _ ⟨side, ws, k, rfl, hs, hw2, hw1, LA⟩ (e1.trans e2) dv
/-- a comprehension whose items are some data -/
theorem enr_lc {wi : TI} {gt : TG} {vs : List Nat} {n : Nat} {item : Nat → PyData} (h : EvI K noM wi σ H n item) (P : Nat → PyData → Prop) (hz : n ≤ 100000) (hn : ∀ i d, P i d → noL d = true)
    (ht : ∀ i H1 x, i < n → Same H H1 → Dp K H1 x (item i) → ∀ Q : L2.St → Hp → Prop, (∀ σ2 H2, Same H1 H2 → wipe σ2 vs = wipe σ vs → EvR K te σ2 H2 (P i) → Q σ2 H2) → gt x (wipe σ vs) H1 Q) :
    EvNR K (tLc wi gt tYes te vs) σ H (fun ds => ds.length = n ∧ ∀ i d, ds[i]? = some d → P i d) := fun H1 e Q q => h H1 e _ fun J H2 G Y e2 wk hG hY D hD => by
  refine lc_it wk (fun i H' => Same H2 H' ∧ (∃ ds, LstAt K H' D ds ∧ ds.length = i ∧ ∀ j d, ds[j]? = some d → P j d) ∧ i ≤ n) ⟨same_upd hD, ⟨[], ⟨[], upd_same, .nil⟩, rfl, fun j d h => by simp at h⟩, Nat.zero_le _⟩ (fun i H' hi p => hG H' (same_butM p.1)) (fun i x H' H'' hi p y => ?_) fun H' p => ?_
  · obtain ⟨p1, ⟨ds, p2, p3, p4⟩, p5⟩ := p
    obtain ⟨e3, dx⟩ := hY i H' x H'' hi (same_butM p1) y
    refine ht i H'' x hi (((e.trans e2).trans p1).trans e3) dx _ fun σ2 H4 e4 hw ev => ⟨hw, ?_⟩
    refine et_yes H4 (Same.refl H4) _ fun H5 e5 => ?_
    refine iteT ?_
    refine ev H5 e5 _ fun v H6 d pd e6 dv => ?_
    have eA : Same H' H5 := (e3.trans e4).trans e5
    obtain ⟨acc, a1, a2⟩ := p2.mono (eA.trans e6)
    have hn2 : H2 D = none := hD
    have noL1 : noLAll ds = true := noLAll_iff.mpr fun d hd => by
      obtain ⟨j, hj⟩ := List.getElem?_of_mem hd
      exact hn j d (p4 j d hj)
    refine ⟨acc, a1, ?_, ?_, ?_, hi⟩
    · have := dpAll_len a2
      have : 100000 < sizeLine := by decide
      omega
    · intro b o hb
      rw [upd_ne (ne_of_none hb hn2)]
      exact (p1.trans (eA.trans e6)) b o hb
    · have bt : But D H6 (upd H6 D (.lst (acc ++ [v]))) := But.upd (Same.refl H6)
      refine ⟨ds ++ [d], ⟨acc ++ [v], upd_same, dpAll_append (DpAll.but bt a1 _ _ noL1 a2) (.cons (Dp.but bt a1 _ _ (hn i d pd) dv) .nil)⟩, by simp [p3], fun j d' hj => ?_⟩
      by_cases hjl : j < ds.length
      · rw [List.getElem?_append_left hjl] at hj
        exact p4 j d' hj
      · rw [List.getElem?_append_right (by omega)] at hj
        have : j = i := by
          have := (List.getElem?_eq_some_iff.mp hj).1
          simp at this
          omega
        subst this
        rw [p3] at hj
        simp at hj
        subst hj
        exact pd
  · obtain ⟨p1, ⟨ds, p2, p3, p4⟩, p5⟩ := p
    exact q D H' ds ⟨p3, p4⟩ (e2.trans p1) (fresh_back e2 hD) p2
/-! ### the least of pairs -/
def encII (p : Int × Int) : PyData := .tuple [.int p.1, .int p.2]
theorem minD_pairs (p : Int × Int) (ps : List (Int × Int)) : ∃ m, PySem.W.minD (encII p) (ps.map encII) = encII m ∧ m ∈ p :: ps ∧ ∀ q ∈ p :: ps, m.1 ≤ q.1 := by
  induction ps generalizing p with
  | nil => exact ⟨p, rfl, by simp, fun q hq => by rw [List.mem_singleton.mp hq]; omega⟩
  | cons a ps ih =>
    have e : PySem.W.minD (encII p) ((a :: ps).map encII) = PySem.W.minD (if PySem.W.dataLt (encII a) (encII p) then encII a else encII p) (ps.map encII) := rfl
    have hlt : PySem.W.dataLt (encII a) (encII p) = decide (a.1 < p.1 ∨ (a.1 = p.1 ∧ a.2 < p.2)) := PySem.W.dataLt_ii _ _ _ _
    rw [e, hlt]
    by_cases c : a.1 < p.1 ∨ (a.1 = p.1 ∧ a.2 < p.2)
    · rw [if_pos (decide_eq_true c)]
      obtain ⟨m, h1, h2, h3⟩ := ih a
      refine ⟨m, h1, by simp only [List.mem_cons] at h2 ⊢; rcases h2 with h | h <;> simp [h], fun q hq => ?_⟩
      have ha := h3 a (by simp)
      rcases List.mem_cons.mp hq with rfl | hq
      · omega
      · exact h3 q hq
    · rw [if_neg (by simpa using c)]
      obtain ⟨m, h1, h2, h3⟩ := ih p
      refine ⟨m, h1, by simp only [List.mem_cons] at h2 ⊢; rcases h2 with h | h <;> simp [h], fun q hq => ?_⟩
      have hp := h3 p (by simp)
      rcases List.mem_cons.mp hq with rfl | hq
      · exact hp
      rcases List.mem_cons.mp hq with rfl | hq
      · omega
      · exact h3 q (by simp [hq])
theorem alike_pairs (ps : List (Int × Int)) : PySem.W.AlikeAll (ps.map encII) := by
  constructor
  · intro x hx y hy
    obtain ⟨a, _, rfl⟩ := List.mem_map.mp hx
    obtain ⟨b, _, rfl⟩ := List.mem_map.mp hy
    unfold encII
    simp [PySem.W.alike, PySem.W.alikeAll]
  · intro x hx
    obtain ⟨a, _, rfl⟩ := List.mem_map.mp hx
    intro h
    cases h
end
end K11
end

/-! ## K11RdE -/
section
set_option maxHeartbeats 4000000
/-! What the readings of strength come to. -/
namespace K11
open PySem PySem.Spec PyProof.Rows L2
section
variable {K : PySem.W.Frag} {M : Addr → Prop} {σ : L2.St} {H : Hp} {ta tb te tl : TE} {ds : List PyData} {d : PyData} {D : Ends} {tu tw tz : TS} {t : TT}
theorem ev_minD (h : EvD K te σ H (.list (d :: ds))) (ha : PySem.W.AlikeAll (d :: ds)) (hz : PyData.depthAll (d :: ds) ≤ 8) : EvD K (tCB (rMinD K) (tCons te tNil)) σ H (PySem.W.minD d ds) := fun H1 e Q q => h H1 e _ fun x H2 e2 dx => by
  obtain ⟨a, xs, rfl, hs, hd⟩ := dp_lst dx
  exact ⟨a, xs, d, ds, rfl, hs, hd, ha, hz, fun x hx => q x H2 e2 hx⟩
def cutWays : PyData → List PyData
  | .tuple [_, .tuple ws] => ws
  | _ => []
theorem MinCut.of_least {N : Net} (two : 2 ≤ N.n) {cs : List Nat} (hl : cs.length = N.n - 1) (h : ∀ (i c : Nat), cs[i]? = some c → LeastAt N.n N.rs (i + 1) c) {i0 m : Nat} (h0 : cs[i0]? = some m) (hm : ∀ (i c : Nat), cs[i]? = some c → m ≤ c) : MinCut N m := by
  refine ⟨fun S s0 ⟨v, hv, sv⟩ => ?_, ?_⟩
  · have hv0 : v ≠ 0 := fun e => by rw [e, s0] at sv; cases sv
    have hi : v - 1 < cs.length := by omega
    have g := h (v - 1) cs[v - 1] (List.getElem?_eq_getElem hi)
    have e1 : v - 1 + 1 = v := by omega
    rw [e1] at g
    exact Nat.le_trans (hm _ _ (List.getElem?_eq_getElem hi)) (g.le S s0 sv)
  · obtain ⟨S, s0, s1, s2⟩ := (h i0 m h0).at_
    have := (List.getElem?_eq_some_iff.mp h0).1
    exact ⟨S, s0, ⟨i0 + 1, by omega, s1⟩, s2⟩
theorem rd_strength_paper (vs : List V) (H : Hp) (Q : VK) (E : XK) (h : sp_strength_paper K vs H Q E) : t_strength_paper K { nx := fun _ H' => Q .non H', rt := Q } (start N_strength_paper vs) H := by
  obtain ⟨N, t, hd, ok, hmc, q⟩ := h
  obtain ⟨x, rfl, dx⟩ := dp1 hd
  have five := ok.five
  have two := ok.two
  refine q_when (b := decide ((N.n : Int) = 1)) (et_test (ev_eqI (K := K) (ev_nm (ev_var rfl dx)) ev_int)) (fun hb => by have := of_decide_eq_true hb; omega) fun _ H1 e1 => ?_
  refine q_asgNR (enr_lc (n := (N.n - 1 : Int).toNat) (ei_rng2 ev_int (ev_nm (ev_var rfl (Dp.mono e1 _ _ dx))) (by omega) (by omega) (by omega) (by omega))
    (fun i d => ∃ side ws c, d = .tuple [.tuple side, .tuple ws] ∧ noLAll side = true ∧ noLAll ws = true ∧ ws.length = c ∧ LeastAt N.n N.rs (i + 1) c) (by omega)
    (fun i d hP => by obtain ⟨side, ws, c, rfl, h1, h2, _⟩ := hP; simp [noL, noLAll, h1, h2])
    fun i H2 z hi e2 dz Q q => ?_) fun p H2 ds hP e2 hp pa => ?_
  · cases dp_int dz
    refine q _ H2 (Same.refl H2) rfl (er_cal (ds := [encNet N, .int 0, .int ((i + 1 : Nat) : Int)]) (ea3 (ev_var rfl (Dp.mono (e1.trans e2) _ _ dx)) ev_int (EvD.to (ev_var rfl (.int _)) (by congr 1; omega))) fun vs H3 Q e3 dv qq => ⟨N, i + 1, dv, ok, by omega, by omega, qq⟩)
  obtain ⟨hl, hP⟩ := hP
  have hl : ds.length = N.n - 1 := by omega
  have s2 := e1.trans e2
  have noLds : noLAll ds = true := noLAll_iff.mpr fun d hd => by
    obtain ⟨j, hj⟩ := List.getElem?_of_mem hd
    obtain ⟨side, ws, c, rfl, h1, h2, _⟩ := hP j d hj
    simp [noL, noLAll, h1, h2]
  have form : ∀ d ∈ ds, ∃ side ws, d = .tuple [.tuple side, .tuple ws] ∧ noLAll side = true ∧ noLAll ws = true := fun d hd => by
    obtain ⟨j, hj⟩ := List.getElem?_of_mem hd
    obtain ⟨side, ws, c, rfl, h1, h2, _⟩ := hP j d hj
    exact ⟨side, ws, rfl, h1, h2⟩
  obtain ⟨pr, hpr⟩ : ∃ pr : List (Int × Int), pr = ds.zipIdx.map fun p => (((cutWays p.1).length : Int), (p.2 : Int)) := ⟨_, rfl⟩
  have hpl : pr.length = N.n - 1 := by rw [hpr]; simp [hl]
  have hmin : EvN K (tLc (iEnum K (tCons (tVar 1) tNil)) (gTup K 2 (gCons (gName 4) (gCons (gName 5) gNil))) tYes (tTup (tCons (tCB (rLenQ K) (tCons (tOp (rIx K) (tVar 5) (tC (.int 1))) tNil)) (tCons (tVar 4) tNil))) [4, 5]) [some x, some (.ref p), none, none, none, none] H2 (pr.map encII) := by
    refine EvN.to (en_lcM (M := noM) ds.zipIdx (fun q => .tuple [.int (q.2 : Nat), q.1]) (ei_enum (ev_var rfl pa.dp) noLds) (by simp) (fun i b hb => ?_) (fun q => encII (((cutWays q.1).length : Int), (q.2 : Int))) (by simp; omega) (fun _ _ => rfl)
      fun b hb H3 z e3 dz Q q => tg2 dz fun x1 x2 d1 d2 => q _ H3 (Same.refl H3) rfl ?_) ?_
    · obtain ⟨b1, b2⟩ := b
      rw [List.getElem?_zipIdx] at hb
      cases e : ds[i]? with
      | none => rw [e] at hb; cases hb
      | some d =>
        rw [e] at hb
        simp at hb
        obtain ⟨rfl, rfl⟩ := hb
        rw [getD_of e]
    · obtain ⟨side, ws, e, _, _⟩ := form b.1 (List.fst_mem_of_mem_zipIdx hb)
      rw [e] at d2
      refine ev_tup (by show 2 ≤ 1000; decide) (ea2 (EvD.to (ev_lenT (ev_ixT (n := 1) (ev_var rfl d2) ev_int rfl)) (by rw [e]; rfl)) (ev_var rfl d1))
    · rw [hpr, List.map_map]
      rfl
  cases pr with
  | nil => simp at hpl; omega
  | cons p0 pr =>
    obtain ⟨m, hm1, hm2, hm3⟩ := minD_pairs p0 pr
    refine q_asg2 (K := K) (a := .int m.1) (b := .int m.2) (EvD.to (ev_minD hmin.dd (alike_pairs (p0 :: pr)) (depth_all (n := 8) fun d hd => by obtain ⟨b, _, rfl⟩ := List.mem_map.mp (show d ∈ (p0 :: pr).map encII from hd); show max 0 (max 0 0) + 1 ≤ 8; decide)) hm1) fun x1 x2 H3 e3 d1 d2 => ?_
    cases dp_int d1
    cases dp_int d2
    obtain ⟨q0, hq0, hq1⟩ := List.mem_map.mp (hpr ▸ hm2)
    obtain ⟨dd, i0⟩ := q0
    have hi0 : ds[i0]? = some dd := List.mk_mem_zipIdx_iff_getElem?.mp hq0
    obtain ⟨side, ws, c, rfl, h1, h2, hwc, hLA⟩ := hP i0 dd hi0
    have hmc1 : m.1 = (c : Int) := by rw [← hq1]; show ((ws.length : Nat) : Int) = _; rw [hwc]
    have hmi : m.2 = (i0 : Int) := by rw [← hq1]
    have hct : c = t := by
      refine MinCut.uniq (MinCut.of_least two (cs := ds.map fun d => (cutWays d).length) (by simpa using hl) (fun i c' hc => ?_) (i0 := i0) (m := c) (by rw [List.getElem?_map, hi0]; show some ws.length = _; rw [hwc]) fun i c' hc => ?_) hmc
      · rw [List.getElem?_map] at hc
        cases e : ds[i]? with
        | none => rw [e] at hc; cases hc
        | some d =>
          rw [e] at hc
          obtain ⟨side, ws, c2, rfl, _, _, g1, g2⟩ := hP i d e
          cases hc
          show LeastAt _ _ _ ws.length
          rw [g1]
          exact g2
      · have := hm3 ((c' : Int), (i : Int)) (by
          rw [hpr]
          rw [List.getElem?_map] at hc
          cases e : ds[i]? with
          | none => rw [e] at hc; cases hc
          | some d =>
            rw [e] at hc
            cases hc
            exact List.mem_map.mpr ⟨(d, i), List.mk_mem_zipIdx_iff_getElem?.mpr e, rfl⟩)
        have : m.1 ≤ (c' : Int) := this
        omega
    subst hct
    have pa3 := pa.mono e3
    refine s_ret (K := K) (d := .tuple [.str (Str.ofString "strength"), .int (c : Nat), .tuple side, .tuple (ds.map fun d => .tuple ((cutWays d).take c))]) ?_ fun v H4 e4 dv => q v H4 _ ⟨_, _, _, rfl⟩ ((s2.trans e3).trans e4) dv
    refine ev_tup (by show 4 ≤ 1000; decide) (ea_cons ev_str (ea_cons (EvD.to (ev_var rfl (.int _)) (by rw [hmc1])) (ea2 (ev_ixT (n := 0) (ev_ixL (ev_var rfl pa3.dp) (ev_var rfl (by rw [hmi]; exact .int _)) hi0) ev_int rfl) (ev_tupL ?_))))
    refine EvN.dd (en_lcM (M := noM) ds id (ei_lst (ev_var rfl pa3.dp) noLds) rfl (fun i b hb => getD_of hb) (fun d => .tuple ((cutWays d).take c)) (by omega) (fun d hd => ?_) fun b hb H4 z e4 dz Q q => q _ H4 (Same.refl H4) rfl ?_)
    · obtain ⟨side, ws, rfl, _, hw⟩ := form d hd
      rw [noL_tuple]
      exact noLAll_iff.mpr fun e he => noLAll_iff.mp hw e (List.mem_of_mem_take he)
    · obtain ⟨side, ws, rfl, _, hw⟩ := form b hb
      exact ev_slTto (ev_ixT (n := 1) (ev_var rfl dz) ev_int rfl) (ev_var rfl (by rw [hmc1]; exact .int _))
theorem rd_strength (vs : List V) (H : Hp) (Q : VK) (E : XK) (h : sp_strength K vs H Q E) : t_strength K { nx := fun _ H' => Q .non H', rt := Q } (start N_strength vs) H := by
  obtain ⟨N, t, hd, ok, hmc, q⟩ := h
  obtain ⟨x, rfl, dx⟩ := dp1 hd
  refine (er_cal (K := K) (P := fun d => ∃ a b c, d = .tuple [a, .int (t : Nat), b, c]) (ea1 (ev_var rfl dx)) fun vs H1 Q e1 dv qq => ⟨N, t, dv, ok, hmc, qq⟩) H (Same.refl H) _ fun v H1 d hP e1 dv => ?_
  obtain ⟨a, b, c, rfl⟩ := hP
  obtain ⟨_, hv, hh⟩ := ev_ixT (K := K) (σ := [some v]) (n := 1) (ta := tVar 0) (tb := tC (.int 1)) (ev_var (n := 0) rfl dv) ev_int rfl H1 (Same.refl H1) Q fun w H2 e2 dw => q w H2 (e1.trans e2) dw
  cases hv
  exact hh
end
end K11
end

/-! ## K11RdF -/
section
set_option maxHeartbeats 4000000
/-! What the readings of the law's plain defs come to. -/
namespace K11
open PySem PySem.Spec PyProof.Rows L2
section
variable {K : PySem.W.Frag} {M : Addr → Prop} {σ : L2.St} {H : Hp} {ta tb tc te tl : TE} {ds : List PyData} {d : PyData} {D : Ends} {tu tw tz : TS} {t : TT}
theorem tg1 {j : Nat} {x : V} {Q : L2.St → Hp → Prop} (q : Q (σ.set j (some x)) H) : gName j x σ H Q := q
theorem rd_check_worlds (C : Addr) (vs : List V) (H : Hp) (Q : VK) (E : XK) (h : sp_check_worlds K C vs H Q E) : t_check_worlds K C E { nx := fun _ H' => Q .non H', rt := Q } (start N_check_worlds vs) H := by
  obtain ⟨N, k, t, hd, ok, hmc, hbad, hok⟩ := h
  obtain ⟨x, y, rfl, dx, dy⟩ := dp2 hd
  have two := ok.two
  refine s_if (b := decide ((1 : Int) < (N.n : Int)) && decide ((t : Int) < k + 1)) (et_and (et_test (ev_gt (K := K) (ev_nm (ev_var rfl dx)) ev_int)) fun _ => et_test (ev_lt (K := K) (ev_cal (ea1 (ev_var rfl dx)) fun vs H1 Q e1 dv qq => ⟨N, t, dv, ok, hmc, qq⟩) (ev_plus (ev_var rfl dy) ev_int))) (fun hb H1 e1 => ?_) fun hb H1 e1 => ?_
  · simp only [Bool.and_eq_true, decide_eq_true_eq] at hb
    exact hbad hb.2 H1 e1
  · refine hok ?_ .non H1 e1 .non
    rw [decide_eq_true (by omega : (1 : Int) < (N.n : Int)), Bool.true_and] at hb
    have := of_decide_eq_false hb
    omega
theorem rd_law_cell (vs : List V) (H : Hp) (Q : VK) (E : XK) (h : sp_law_cell K vs H Q E) : t_law_cell K { nx := fun _ H' => Q .non H', rt := Q } (start N_law_cell vs) H := by
  obtain ⟨ns, j, hd, q⟩ := h
  obtain ⟨x, y, rfl, dx, dy⟩ := dp2 hd
  refine q_when (b := decide ((j : Int) < (ns.length : Int))) (et_test (EvD.to (ev_lt (K := K) (ev_var rfl dy) (ev_lenL (ev_var rfl dx))) (by rw [List.length_map]))) (fun hb H1 e1 => ?_) fun hb H1 e1 => ?_
  · have hb := of_decide_eq_true hb
    exact s_ret (K := K) (ev_ixL (ev_var rfl (Dp.mono e1 _ _ dx)) (ev_var rfl (Dp.mono e1 _ _ dy)) (get_map .int (getD_some (d := 0) (by omega)))) fun v H2 e2 dv => q v H2 (e1.trans e2) dv
  · have hb := of_decide_eq_false hb
    refine s_ret (K := K) ev_int fun v H2 e2 dv => q v H2 (e1.trans e2) ?_
    rw [List.getD_eq_getElem?_getD, List.getElem?_eq_none (by omega)]
    exact dv
theorem rd_law_digits (vs : List V) (H : Hp) (Q : VK) (E : XK) (h : sp_law_digits K vs H Q E) : t_law_digits K { nx := fun _ H' => Q .non H', rt := Q } (start N_law_digits vs) H := by
  obtain ⟨ns, hd, q⟩ := h
  obtain ⟨x, y, z, rfl, dx, dy, dz⟩ := dp3 hd
  cases dp_int dy
  cases dp_int dz
  refine q_asgN (K := K) (ds := []) (en_lst (by show 0 ≤ 1000; decide) ea_nil) fun dl H1 e1 hl0 la1 => ?_
  refine q_for (K := K) (M := oneM dl) (n := ((63 : Int) - 0).toNat) (item := fun i => .int (0 + (i : Nat))) (ei_rng2 (ev_var rfl (.int 0)) (ev_var rfl (.int 63)) (by decide) (by decide) (by decide) (by decide)) (fun i σ' H' => ∃ (is : List Int) (a b c d : Option V), σ' = [some x, some (.int 0), some (.int 63), some (.ref dl), a, b, c, d] ∧ Same H H' ∧ LstAt K H' dl (is.map .int) ∧ is.length ≤ 60 * i)
    (fun H2 e2 => ⟨[], none, none, none, none, rfl, e1.trans e2, la1.mono e2, by simp⟩) (fun i σ' H' H'' v hi p e3 dv Nx nx => ?_) fun σ' H' p => ?_
  · obtain ⟨is, a, b, c, d, rfl, sm, la, hz⟩ := p
    cases dp_int dv
    have hi : i < 63 := hi
    refine tg1 ?_
    have s3 := sm.trans e3
    refine q_asg (K := K) (d := .int (ns.getD i 0)) (ev_cal (ds := [encF ns, .int (i : Nat)]) (ea2 (ev_var rfl (Dp.mono s3 _ _ dx)) (EvD.to (ev_var rfl (.int _)) (by congr 1; omega))) fun vs H4 Q e4 dv qq => ⟨ns, i, dv, qq⟩) fun v H4 e4 dv => ?_
    cases dp_int dv
    generalize ns.getD i 0 = cell
    have la4 := la.mono (e3.trans e4)
    have s4 := s3.trans e4
    have rest : ∀ (cell : Int) (H5 : Hp), Same H4 H5 → ∀ D : Ends, D.nx = Nx → (tIfS (tTest (tOp rGe (tVar 5) (tOp rPow (tC (.int 10)) (tC (.int 18))))) (tFor (iRng1 (tCons (tC (.int 60)) tNil)) (gName 6) (tIfS (tTest (tOp rGt (tVar 5) (tC (.int 0)))) (tSeq (tDrop (tBM K "list" rAppend (tVar 3) (tCons (tOp rMod (tCB rInt1 (tCons (tVar 5) tNil)) (tC (.int 1000))) tNil))) (tAsg (tOp rFdiv (tVar 5) (tC (.int 1000))) (gName 5))) tNext)) (tSeq (tAsg (tOp rMod (tCB rInt1 (tCons (tOp rPlus (tOp rPlus (tOp rTimes (tVar 5) (tC (.int 48271))) (tOp rTimes (tVar 4) (tC (.int 69621)))) (tC (.int 11))) tNil)) (tC (.int 2147483647))) (gName 7)) (tFor (iRng1 (tCons (tC (.int 12)) tNil)) (gName 6) (tSeq (tAsg (tOp rMod (tCB rInt1 (tCons (tOp rPlus (tOp rPlus (tOp rTimes (tVar 7) (tC (.int 16807))) (tOp rTimes (tC (.int 7)) (tVar 6))) (tC (.int 1))) tNil)) (tC (.int 2147483647))) (gName 7)) (tDrop (tBM K "list" rAppend (tVar 3) (tCons (tOp rMod (tCB rInt1 (tCons (tOp rFdiv (tVar 7) (tC (.int 997))) tNil)) (tC (.int 1000))) tNil))))))) D [some x, some (.int 0), some (.int 63), some (.ref dl), some (.int (0 + (i : Int))), some (.int cell), c, d] H5 := by
      intro cell H5 e5 D hD
      refine s_if (b := decide ((10 : Int) ^ (18 : Int).toNat ≤ cell)) (et_test (ev_ge (K := K) (ev_var rfl (.int _)) (ev_pow ⟨by decide, by decide, by decide⟩ ev_int ev_int))) (fun hb H6 e6 => ?_) fun hb H6 e6 => ?_
      · refine s_for (K := K) (M := oneM dl) (n := 60) (item := fun i => .int (i : Nat)) (ei_rng1 (K := K) ev_int (by decide)) (fun j σ' H' => ∃ (is : List Int) (cell : Int) (c d : Option V), σ' = [some x, some (.int 0), some (.int 63), some (.ref dl), some (.int (0 + (i : Int))), some (.int cell), c, d] ∧ Same H H' ∧ ButM (oneM dl) H'' H' ∧ LstAt K H' dl (is.map .int) ∧ is.length ≤ 60 * i + j)
          (fun H7 e7 => ⟨is, cell, c, d, rfl, s4.trans (e5.trans (e6.trans e7)), same_butM (e4.trans (e5.trans (e6.trans e7))), la4.mono (e5.trans (e6.trans e7)), hz⟩) (fun j σ' H7 H8 v hj p e8 dv Ny ny => ?_) fun σ' H7 p => ?_
        · obtain ⟨is, cell, c, d, rfl, s7, bm7, la7, hz7⟩ := p
          refine tg1 ?_
          have la8 := la7.mono e8
          refine s_when (b := decide ((0 : Int) < cell)) (et_test (ev_gt (K := K) (ev_var rfl (.int _)) ev_int)) (fun hb H9 e9 => ?_) fun hb H9 e9 => ?_
          · refine q_app (K := K) (l := dl) (d := .int (cell % 1000)) rfl (la8.mono e9) (noL_ints is) rfl (ev_mod (by decide) (ev_intI (ev_var rfl (.int _))) ev_int) (by simp; omega) fun H10 b10 la10 => ?_
            have bm10 := (same_butM (M := oneM dl) e9).trans (But.butM b10 rfl (la8.mono e9).some)
            refine s_asg (K := K) (ev_fdiv ⟨by decide, by decide⟩ (ev_var rfl (.int _)) ev_int) fun v H11 e11 dv => ?_
            cases dp_int dv
            refine ny _ _ (bm10.trans (same_butM e11)) ⟨is ++ [cell % 1000], _, _, _, rfl, (But.mut (s7.trans (e8.trans e9)) hl0 b10).trans e11, (bm7.trans (same_butM e8)).trans (bm10.trans (same_butM e11)), ?_, by rw [List.length_append]; simp; omega⟩
            rw [List.map_append]
            exact la10.mono e11
          · exact ny _ _ (same_butM e9) ⟨is, _, _, _, rfl, s7.trans (e8.trans e9), bm7.trans (same_butM (e8.trans e9)), la8.mono e9, by omega⟩
        · obtain ⟨is, cell, c, d, rfl, s7, bm7, la7, hz7⟩ := p
          rw [hD]
          exact nx _ _ bm7 ⟨is, _, _, _, _, rfl, s7, la7, by omega⟩
      · refine q_asg (K := K) (ev_mod (by decide) (ev_intI (ev_plus (ev_plus (ev_times (.inr ⟨by decide, by decide⟩) (ev_var rfl (.int _)) ev_int) (ev_times (.inr ⟨by decide, by decide⟩) (ev_var rfl (.int _)) ev_int)) ev_int)) ev_int) fun v H7 e7 dv => ?_
        cases dp_int dv
        refine s_for (K := K) (M := oneM dl) (n := 12) (item := fun i => .int (i : Nat)) (ei_rng1 (K := K) ev_int (by decide)) (fun j σ' H' => ∃ (is : List Int) (seed : Int) (c : Option V), σ' = [some x, some (.int 0), some (.int 63), some (.ref dl), some (.int (0 + (i : Int))), some (.int cell), c, some (.int seed)] ∧ Same H H' ∧ ButM (oneM dl) H'' H' ∧ LstAt K H' dl (is.map .int) ∧ is.length ≤ 60 * i + j)
          (fun H8 e8 => ⟨is, _, _, rfl, s4.trans (e5.trans (e6.trans (e7.trans e8))), same_butM (e4.trans (e5.trans (e6.trans (e7.trans e8)))), la4.mono (e5.trans (e6.trans (e7.trans e8))), hz⟩) (fun j σ' H7 H8 v hj p e8 dv Ny ny => ?_) fun σ' H7 p => ?_
        · obtain ⟨is, seed, c, rfl, s7, bm7, la7, hz7⟩ := p
          cases dp_int dv
          refine tg1 ?_
          refine q_asg (K := K) (ev_mod (by decide) (ev_intI (ev_plus (ev_plus (ev_times (.inr ⟨by decide, by decide⟩) (ev_var rfl (.int _)) ev_int) (ev_times (.inl ⟨by decide, by decide⟩) ev_int (ev_var rfl (.int _)))) ev_int)) ev_int) fun v H9 e9 dv => ?_
          cases dp_int dv
          have la9 := la7.mono (e8.trans e9)
          generalize (seed * 16807 + 7 * (j : Int) + 1) % 2147483647 = seed2
          refine s_app (K := K) (l := dl) (d := .int (seed2 / 997 % 1000)) rfl la9 (noL_ints is) rfl (ev_mod (by decide) (ev_intI (ev_fdiv ⟨by decide, by decide⟩ (ev_var rfl (.int _)) ev_int)) ev_int) (by simp; omega) fun H10 b10 la10 => ?_
          have bm10 := (same_butM (M := oneM dl) e9).trans (But.butM b10 rfl la9.some)
          refine ny _ _ bm10 ⟨is ++ [seed2 / 997 % 1000], _, _, rfl, But.mut (s7.trans (e8.trans e9)) hl0 b10, (bm7.trans (same_butM e8)).trans bm10, ?_, by rw [List.length_append]; simp; omega⟩
          rw [List.map_append]
          exact la10
        · obtain ⟨is, seed, c, rfl, s7, bm7, la7, hz7⟩ := p
          rw [hD]
          exact nx _ _ bm7 ⟨is, _, _, _, _, rfl, s7, la7, by omega⟩
    refine q_if (b := decide (cell < 0)) (et_test (ev_lt (K := K) (ev_var rfl (.int _)) ev_int)) (fun hb H5 e5 => ?_) fun hb H5 e5 => ?_
    · refine s_asg (K := K) (ev_minus ev_int (ev_times (.inl ⟨by decide, by decide⟩) ev_int (ev_var rfl (.int _)))) fun v H6 e6 dv => ?_
      cases dp_int dv
      exact rest _ H6 (e5.trans e6) _ rfl
    · exact rest _ H5 e5 _ rfl
  · obtain ⟨is, a, b, c, d, rfl, sm, la, hz⟩ := p
    have e0 : ((63 : Int) - 0).toNat = 63 := rfl
    rw [e0] at hz
    exact ⟨_, rfl, q dl H' _ ⟨is, rfl, by omega⟩ sm hl0 la⟩
end
end K11
end

/-! ## K11RdG -/
section
set_option maxHeartbeats 4000000
/-! What the readings of the law's plain defs come to, more. -/
namespace K11
open PySem PySem.Spec PyProof.Rows L2
section
variable {K : PySem.W.Frag} {M : Addr → Prop} {σ : L2.St} {H : Hp} {ta tb tc te tl : TE} {ds : List PyData} {d : PyData} {D : Ends} {tu tw tz : TS} {t : TT}
theorem rd_law_misses (vs : List V) (H : Hp) (Q : VK) (E : XK) (h : sp_law_misses K vs H Q E) : t_law_misses K { nx := fun _ H' => Q .non H', rt := Q } (start N_law_misses vs) H := by
  obtain ⟨N, h, hd, ok, hl, q⟩ := h
  obtain ⟨x, y, rfl, dx, dy⟩ := dp2 hd
  have few := ok.few
  refine s_ret (K := K) (d := encF (N.rs.map (miss h))) ?_ q
  refine EvN.dd (EvN.to (en_lcM (M := noM) N.rs encR (ei_tup (ev_rs (ev_var rfl dx)) (rs_noL _)) (by simp) (fun i b hb => rs_item hb) (fun r => .int (miss h r)) (by omega) (fun _ _ => rfl)
    fun r hr H1 z e1 dz Q q => tg3 dz fun x1 x2 x3 d1 d2 d3 => q _ H1 (Same.refl H1) rfl ?_) ?_)
  · have dy1 := Dp.mono e1 _ _ dy
    exact ev_plus (ev_minus (ev_var rfl d3) (ev_ixT (ev_var rfl dy1) (ev_var rfl d2) (get_map .int (getD_some (by rw [hl]; exact (ok.ends r hr).2))))) (ev_ixT (ev_var rfl dy1) (ev_var rfl d1) (get_map .int (getD_some (by rw [hl]; exact (ok.ends r hr).1))))
  · rw [List.map_map]
    rfl
theorem zipIdx_range (ms : List Int) : ms.zipIdx = (List.range ms.length).map fun i => (ms.getD i 0, i) := by
  apply List.ext_getElem?
  intro i
  rw [List.getElem?_zipIdx, List.getElem?_map]
  by_cases h : i < ms.length
  · rw [List.getElem?_range h, List.getElem?_eq_getElem h]
    simp [List.getD_eq_getElem?_getD, List.getElem?_eq_getElem h]
  · rw [List.getElem?_eq_none (by simpa using h : (List.range ms.length).length ≤ i), List.getElem?_eq_none (by omega)]
    rfl
theorem lies_range (rs : List Rdg) (h : List Int) : (lies rs h).map PyData.int = ((List.range rs.length).filter fun i => (rs.map (miss h)).getD i 0 != 0).map encN := by
  unfold lies
  rw [zipIdx_range, List.length_map, List.filter_map, List.map_map, List.map_map]
  rfl
theorem rd_law_lies (vs : List V) (H : Hp) (Q : VK) (E : XK) (h : sp_law_lies K vs H Q E) : t_law_lies K { nx := fun _ H' => Q .non H', rt := Q } (start N_law_lies vs) H := by
  obtain ⟨N, h, hd, ok, hl, q⟩ := h
  obtain ⟨x, y, rfl, dx, dy⟩ := dp2 hd
  have few := ok.few
  refine q_asg (K := K) (d := encF (N.rs.map (miss h))) (ev_cal (ea2 (ev_var rfl dx) (ev_var rfl dy)) fun vs H2 Q e2 dv qq => ⟨N, h, dv, ok, hl, qq⟩) fun v H1 e1 dv => ?_
  refine s_ret (K := K) (d := encI (lies N.rs h)) ?_ fun v H' e dv => q v H' (e1.trans e) dv
  unfold encI
  rw [lies_range]
  refine ev_tupL (EvN.dd (en_rngB (EvD.to (ev_lenL (ev_var rfl dv)) (by rw [List.length_map, List.length_map])) (by omega) (fun i => (N.rs.map (miss h)).getD i 0 != 0) fun i hi H2 e2 => ⟨rfl, et_test (EvD.to (ev_neI (ev_ixL (ev_var rfl (Dp.mono e2 _ _ dv)) (ev_var rfl (.int _)) (get_map .int (getD_some (by simpa using hi)))) ev_int) (by rw [bne, Bool.beq_eq_decide_eq])), ev_var rfl (.int _)⟩))
def abc : Str := "abcdefghijklmnop"
theorem rd_law_names (vs : List V) (H : Hp) (Q : VK) (E : XK) (h : sp_law_names K vs H Q E) : t_law_names K { nx := fun _ H' => Q .non H', rt := Q } (start N_law_names vs) H := by
  obtain ⟨n, hd, hn, q⟩ := h
  obtain ⟨x, rfl, dx⟩ := dp1 hd
  have hlen : abc.cps.toList.length = 16 := by decide
  refine s_ret (K := K) (d := .tuple ((List.range n).map fun i => .str (("m" : Str) ++ ⟨#[abc.cps.toList.getD i 0]⟩))) ?_ fun v H' e dv => q v H' _ ⟨_, rfl, by simp, noLAll_map _ _ fun _ _ => rfl⟩ e dv
  refine ev_tupL (EvN.dd (en_lcM (M := noM) (List.range n) encN (ei_rng1 (ev_var rfl dx) (by omega)) (by simp) (fun i b h => range_item n i b h) _ (by simp; omega) (fun _ _ => rfl)
    fun i hi H1 z e1 dz Q q => q _ H1 (Same.refl H1) rfl ?_))
  have hi := List.mem_range.mp hi
  have hc : abc.cps.toList[i]? = some (abc.cps.toList.getD i 0) := getD_some (by omega)
  refine ev_catS ?_ ev_str (ev_ixS (z := abc) ev_str (ev_var rfl dz) (by decide) hc)
  show 1 + 1 ≤ sizeLine
  decide
theorem er_tup3 {da dc : PyData} {P : PyData → Prop} (ha : EvD K ta σ H da) (hb : EvR K tb σ H P) (hc : EvD K tc σ H dc) : EvR K (tTup (tCons ta (tCons tb (tCons tc tNil)))) σ H (fun d => ∃ b, P b ∧ d = .tuple [da, b, dc]) := fun H1 e Q q =>
  ha H1 e _ fun x H2 e2 dx => hb H2 (e.trans e2) _ fun y H3 b pb e3 dy => hc H3 ((e.trans e2).trans e3) _ fun z H4 e4 dz => ⟨by show 3 ≤ sizeLine; decide, fun p hp => q _ _ (.tuple [da, b, dc]) ⟨b, pb, rfl⟩ (((e2.trans e3).trans e4).trans (same_upd hp))
    (.tup (SqT.of upd_same) (.cons (Dp.mono ((e3.trans e4).trans (same_upd hp)) _ _ dx) (.cons (Dp.mono (e4.trans (same_upd hp)) _ _ dy) (.cons (Dp.mono (same_upd hp) _ _ dz) .nil))))⟩
theorem rd_law_kept_net (vs : List V) (H : Hp) (Q : VK) (E : XK) (h : sp_law_kept_net K vs H Q E) : t_law_kept_net K { nx := fun _ H' => Q .non H', rt := Q } (start N_law_kept_net vs) H := by
  obtain ⟨ps, h, hd, hp, h5, h13, q⟩ := h
  obtain ⟨x, y, rfl, dx, dy⟩ := dp2 hd
  refine q_asg (K := K) (d := .tuple (ps.map fun p => encR (p.1, p.2, h.getD p.2 0 - h.getD p.1 0))) (ev_tupL (EvN.dd (en_lcM (M := noM) ps encPr (ei_lst (ev_var rfl dx) (noLAll_map _ _ fun _ _ => rfl)) (by simp) (fun i b hb => getD_of (get_map encPr hb)) _ (by omega) (fun _ _ => rfl)
    fun p hpp H1 z e1 dz Q q => tg2 dz fun x1 x2 d1 d2 => q _ H1 (Same.refl H1) rfl ?_))) fun v H1 e1 dv => ?_
  · have dy1 := Dp.mono e1 _ _ dy
    refine ev_tup (by show 3 ≤ 1000; decide) (ea3 (ev_var rfl d1) (ev_var rfl d2) (ev_minus (ev_ixT (ev_var rfl dy1) (ev_var rfl d2) (get_map .int (getD_some (hp p hpp).2))) (ev_ixT (ev_var rfl dy1) (ev_var rfl d1) (get_map .int (getD_some (hp p hpp).1)))))
  · refine er_tup3 (K := K) (da := .str ("net" : Str)) ev_str (er_cal (ds := [.int (h.length : Int)]) (ea1 (EvD.to (ev_lenT (ev_var rfl (Dp.mono e1 _ _ dy))) (by rw [List.length_map]))) fun vs H2 Q e2 dv qq => ⟨h.length, dv, h5, qq⟩) (ev_var rfl dv) H1 (Same.refl H1) _ fun w H2 d hP e2 dw => ?_
    obtain ⟨b, ⟨nm, rfl, n1, n2⟩, rfl⟩ := hP
    refine q w H2 _ ⟨⟨nm, ps.map fun p => (p.1, p.2, h.getD p.2 0 - h.getD p.1 0)⟩, ?_, n1, n2, ?_⟩ (e1.trans e2) dw
    · unfold encNet
      rw [List.map_map]
      rfl
    · unfold ends
      rw [List.map_map]
      exact List.map_id' ps
theorem ends_set {rs : List Rdg} {j : Nat} {r : Rdg} (h : rs[j]? = some r) (v : Int) : ends (rs.set j (r.1, r.2.1, v)) = ends rs := by
  unfold ends
  rw [List.map_set]
  apply List.ext_getElem?
  intro i
  by_cases e : j = i
  · subst e
    rw [List.getElem?_set_self (by simpa using (List.getElem?_eq_some_iff.mp h).1), List.getElem?_map, h]
    rfl
  · rw [List.getElem?_set_ne e]
theorem rd_law_changed (vs : List V) (H : Hp) (Q : VK) (E : XK) (h : sp_law_changed K vs H Q E) : t_law_changed K { nx := fun _ H' => Q .non H', rt := Q } (start N_law_changed vs) H := by
  obtain ⟨x, r, N, rows, rfl, dx, ra, ok, hr, q⟩ := h
  refine q_asgN (K := K) (en_lstT (ev_rs (ev_var rfl dx))) fun l H1 e1 hl0 la1 => ?_
  have hlr : l ≠ r := ne_at hl0 ra
  obtain ⟨xs, hxs, hdx⟩ := ra.mono e1
  refine q_for (K := K) (M := oneM l) (ei_lstV rfl (SqL.of hxs) hdx (noLAll_map _ _ fun _ _ => rfl) (fun e => hlr e.symm)) (fun i σ' H' => ∃ (rs : List Rdg) (a b c d e : Option V), σ' = [some x, some (.ref r), some (.ref l), a, b, c, d, e] ∧ Same H H' ∧ LstAt K H' l (rs.map encR) ∧ ends rs = ends N.rs)
    (fun H2 e2 => ⟨N.rs, none, none, none, none, none, rfl, e1.trans e2, la1.mono e2, rfl⟩) (fun i σ' H' H'' v hi p e3 dv Nx nx => ?_) fun σ' H' p => ?_
  · obtain ⟨rs, a, b, c, d, e, rfl, sm, la, he⟩ := p
    have hi : i < rows.length := by simpa using hi
    obtain ⟨w, hw⟩ : ∃ w, rows[i]? = some w := ⟨_, List.getElem?_eq_getElem hi⟩
    rw [getD_of (get_map encRow hw)] at dv
    have hrl : rs.length = N.rs.length := by
      have := congrArg List.length he
      unfold ends at this
      simpa using this
    obtain ⟨rd, hrd⟩ : ∃ rd, rs[w.1]? = some rd := ⟨_, List.getElem?_eq_getElem (by rw [hrl]; exact hr w (List.mem_of_getElem? hw))⟩
    refine tg2 dv fun x1 x2 d1 d2 => ?_
    have la3 := la.mono e3
    refine q_asg3 (K := K) (ev_ixL (ev_var rfl la3.dp) (ev_var rfl d1) (get_map encR hrd)) fun y1 y2 y3 H4 e4 f1 f2 f3 => ?_
    have la4 := la3.mono e4
    refine s_setL (K := K) (l := l) (j := w.1) (d := encR (rd.1, rd.2.1, rd.2.2 + w.2)) rfl la4 (rs_noL _) rfl (ev_tup (by show 3 ≤ 1000; decide) (ea3 (ev_var rfl f1) (ev_var rfl f2) (ev_plus (ev_var rfl f3) (ev_var rfl (Dp.mono e4 _ _ d2))))) (ev_var rfl (Dp.mono e4 _ _ d1)) (by simpa using (List.getElem?_eq_some_iff.mp hrd).1) fun H5 b5 la5 => ?_
    refine nx _ _ ((same_butM e4).trans (But.butM b5 rfl la4.some)) ⟨rs.set w.1 (rd.1, rd.2.1, rd.2.2 + w.2), _, _, _, _, _, rfl, But.mut (sm.trans (e3.trans e4)) hl0 b5, ?_, (ends_set hrd _).trans he⟩
    rw [List.map_set]
    exact la5
  · obtain ⟨rs, a, b, c, d, e, rfl, sm, la, he⟩ := p
    refine s_ret (K := K) (d := encNet ⟨N.nm, rs⟩) (ev_tup (by show 3 ≤ 1000; decide) (ea3 ev_str (ev_ixT (n := 1) (ev_var rfl (Dp.mono sm _ _ dx)) ev_int rfl) (ev_tupL (ev_var rfl la.dp)))) fun v H' e dv => q v H' _ ⟨⟨N.nm, rs⟩, rfl, rfl, he⟩ (sm.trans e) dv
theorem en_catV {n : Nat} {l : Addr} {es : List PyData} (hv : σ[n]? = some (some (.ref l))) (hl : LstAt K H l ds) (hb : EvN K tb σ H es) (hz : ds.length + es.length ≤ 100000) : EvN K (tOp rCat (tVar n) tb) σ H (ds ++ es) := fun H1 e Q q => ⟨_, hv, hb H1 e _ fun p H2 e2 hp pl => by
  obtain ⟨xs, h1, h2⟩ := hl.mono (e.trans e2)
  obtain ⟨ys, g1, g2⟩ := pl
  have l1 := dpAll_len h2
  have l2 := dpAll_len g2
  have : 100000 < sizeLine := by decide
  exact ⟨l, p, xs, ys, rfl, rfl, h1, g1, by omega, fun p' hp' => q _ _ (e2.trans (same_upd hp')) (fresh_back e2 hp') ⟨_, upd_same, dpAll_append (DpAll.mono (same_upd hp') _ _ h2) (DpAll.mono (same_upd hp') _ _ g2)⟩⟩⟩
theorem subs_len : ∀ m, (subsF m).length = 2 ^ m
  | 0 => rfl
  | m + 1 => by
    unfold subsF
    rw [List.length_append, List.length_map, subs_len m, Nat.pow_succ]
    omega
theorem subs_ok : ∀ (m : Nat) (s : List Int), s ∈ subsF m → s.length ≤ m ∧ ∀ x ∈ s, 1 ≤ x ∧ x ≤ (m : Int)
  | 0, s, h => by
    have : s = [] := by simpa [subsF] using h
    subst this
    exact ⟨Nat.le_refl _, fun _ h => by cases h⟩
  | m + 1, s, h => by
    rcases List.mem_append.mp (show s ∈ subsF m ++ _ from h) with h | h
    · obtain ⟨h1, h2⟩ := subs_ok m s h
      exact ⟨by omega, fun x hx => by have := h2 x hx; omega⟩
    · obtain ⟨s0, h0, rfl⟩ := List.mem_map.mp h
      obtain ⟨h1, h2⟩ := subs_ok m s0 h0
      refine ⟨by rw [List.length_append]; simp; omega, fun x hx => ?_⟩
      rcases List.mem_append.mp hx with hx | hx
      · have := h2 x hx; omega
      · rw [List.mem_singleton.mp hx]; omega
theorem lay_encI (s : List Int) : SeqAt.shaped (encI s) = true := shaped_tuple (fun d hd => by obtain ⟨i, _, rfl⟩ := List.mem_map.mp hd; rfl) (fun d hd => by obtain ⟨i, _, rfl⟩ := List.mem_map.mp hd; show (0 : Nat) ≤ 40; decide)
theorem shaped_nilT : SeqAt.shaped (.tuple []) = true := shaped_tuple (fun _ h => by cases h) (fun _ h => by cases h)
theorem rd_law_sides (vs : List V) (H : Hp) (Q : VK) (E : XK) (h : sp_law_sides K vs H Q E) : t_law_sides K { nx := fun _ H' => Q .non H', rt := Q } (start N_law_sides vs) H := by
  obtain ⟨n, hd, h1, h5, q⟩ := h
  obtain ⟨x, rfl, dx⟩ := dp1 hd
  have small : ∀ i, i ≤ 5 → (subsF i).length ≤ 32 := fun i hi => by
    rw [subs_len]
    have := Nat.pow_le_pow_right (show 0 < 2 by decide) hi
    omega
  refine q_asgN (K := K) (ds := (subsF 0).map encI) (en_lst (by show 1 ≤ 1000; decide) (ea1 (ev_tup (ds := []) (by show 0 ≤ 1000; decide) ea_nil))) fun p H1 e1 hp0 pa1 => ?_
  refine q_for (K := K) (M := noM) (n := ((n : Int) - 1).toNat) (item := fun i => .int (1 + (i : Nat))) (ei_rng2 ev_int (ev_var rfl (Dp.mono e1 _ _ dx)) (by omega) (by omega) (by omega) (by omega)) (fun i σ' H' => ∃ (p : Addr) (a b : Option V), σ' = [some x, some (.ref p), a, b] ∧ Same H H' ∧ LstAt K H' p ((subsF i).map encI))
    (fun H2 e2 => ⟨p, none, none, rfl, e1.trans e2, pa1.mono e2⟩) (fun i σ' H' H'' v hi p e3 dv Nx nx => ?_) fun σ' H' p => ?_
  · obtain ⟨p, a, b, rfl, sm, pa⟩ := p
    have hi : i < 5 := by omega
    refine tg1 ?_
    have pa3 := pa.mono e3
    have sz := small i (by omega)
    refine s_asgN (K := K) (en_catV rfl pa3 (en_lcM (M := noM) (subsF i) encI (ei_lst (ev_var rfl pa3.dp) (noLAll_map _ _ fun b _ => noL_encI b)) (by simp) (fun i b hb => getD_of (get_map encI hb)) (fun s => encI (s ++ [((i + 1 : Nat) : Int)])) (by omega) (fun s _ => noL_encI _)
      fun s hs H4 z e4 dz Q q => q _ H4 (Same.refl H4) rfl ?_) (by rw [List.length_map, List.length_map]; omega)) fun p2 H4 e4 hp2 pa2 => ?_
    · refine EvD.to (ev_catT ?_ (ev_var rfl dz) (ev_tup (ds := [.int (1 + (i : Nat))]) (by show 1 ≤ 1000; decide) (ea1 (ev_var rfl (Dp.mono e4 _ _ dv))))) ?_
      · have := (subs_ok i s hs).1
        have : 100 ≤ sizeLine := by decide
        rw [List.length_map]
        show _ + 1 ≤ _
        omega
      · unfold encI
        rw [List.map_append]
        congr 2
        show [PyData.int _] = [PyData.int _]
        congr 2
        omega
    · refine nx _ _ (same_butM e4) ⟨p2, _, _, rfl, (sm.trans e3).trans e4, ?_⟩
      have : (subsF (i + 1)).map encI = (subsF i).map encI ++ (subsF i).map fun s => encI (s ++ [((i + 1 : Nat) : Int)]) := by
        show (subsF i ++ _).map encI = _
        rw [List.map_append, List.map_map]
        rfl
      rw [this]
      exact pa2
  · obtain ⟨p, a, b, rfl, sm, pa⟩ := p
    have e0 : ((n : Int) - 1).toNat = n - 1 := by omega
    rw [e0] at pa
    have sz := small (n - 1) (by omega)
    refine s_ret (K := K) (d := .list ((sidesF n).map encI)) (EvN.dd (en_lcB (M := noM) (subsF (n - 1)) encI (ei_lst (ev_var rfl pa.dp) (noLAll_map _ _ fun b _ => noL_encI b)) (by simp) (fun i b hb => getD_of (get_map encI hb)) (fun s => s != []) encI (by omega) (fun s _ _ => noL_encI _)
      fun s hs H4 z e4 dz Q q => q _ H4 (Same.refl H4) rfl (et_test (EvD.to (ev_neD (lay_encI s) shaped_nilT (ev_var rfl dz) (ev_tup (ds := []) (by show 0 ≤ 1000; decide) ea_nil)) (by cases s <;> rfl))) fun _ => ev_var rfl dz)) fun v H' e dv => q v H' (sm.trans e) dv
theorem rd_law_cut (vs : List V) (H : Hp) (Q : VK) (E : XK) (h : sp_law_cut K vs H Q E) : t_law_cut K { nx := fun _ H' => Q .non H', rt := Q } (start N_law_cut vs) H := by
  obtain ⟨N, side, hd, ok, q⟩ := h
  obtain ⟨x, y, rfl, dx, dy⟩ := dp2 hd
  have few := ok.few
  refine s_ret (K := K) (d := encF (cutF N.rs side)) ?_ q
  unfold encF cutF
  rw [← nums_ints]
  refine EvN.dd (en_rngB (EvD.to (ev_lenT (ev_rs (ev_var rfl dx))) (by rw [List.length_map])) (by omega) _ fun i hi H2 e2 => ⟨rfl, et_test (K := K) ?_, ev_var rfl (.int _)⟩)
  obtain ⟨r, hr⟩ : ∃ r, N.rs[i]? = some r := ⟨_, List.getElem?_eq_getElem hi⟩
  simp only [hr]
  have hx := Dp.mono e2 _ _ dx
  have hy := Dp.mono e2 _ _ dy
  exact ev_neB (ev_inT (neg := false) (ev_ixT (n := 0) (ev_ixT (ev_rs (ev_var rfl hx)) (ev_var rfl (.int (i : Nat))) (get_map encR hr)) ev_int rfl) (ev_var rfl hy)) (ev_inT (neg := false) (ev_ixT (n := 1) (ev_ixT (ev_rs (ev_var rfl hx)) (ev_var rfl (.int (i : Nat))) (get_map encR hr)) ev_int rfl) (ev_var rfl hy))
theorem filter_range_len {α : Type} (p : α → Bool) : ∀ rs : List α, ((List.range rs.length).filter fun (i : Nat) => match rs[i]? with | some r => p r | none => false).length = (rs.filter p).length
  | [] => rfl
  | r :: rs => by
    rw [List.length_cons, List.range_succ_eq_map, List.filter_cons, List.filter_map, List.filter_cons]
    have ih := filter_range_len p rs
    have e : ((fun (i : Nat) => match (r :: rs)[i]? with | some r => p r | none => false) ∘ Nat.succ) = fun (i : Nat) => match rs[i]? with | some r => p r | none => false := by
      funext i
      rfl
    rw [e]
    show (if p r = true then _ else _ : List Nat).length = _
    by_cases c : p r = true
    · rw [if_pos c, if_pos c, List.length_cons, List.length_cons, List.length_map, ih]
    · rw [if_neg c, if_neg c, List.length_map, ih]
theorem cutF_len (rs : List Rdg) (side : List Int) : (cutF rs side).length = cutN rs fun v => side.contains (v : Int) := by
  unfold cutF cutN
  rw [List.length_map]
  refine Eq.trans ?_ (filter_range_len (fun r : Rdg => side.contains (r.1 : Int) != side.contains (r.2.1 : Int)) rs)
  congr 1
  refine List.filter_congr fun i hi => ?_
  cases rs[i]? <;> rfl
theorem cutN_congr {N : Net} (ok : NetOk N) {S T : Nat → Bool} (h : ∀ v, v < N.n → S v = T v) : cutN N.rs S = cutN N.rs T := by
  unfold cutN
  congr 1
  refine List.filter_congr fun r hr => ?_
  have := ok.ends r hr
  rw [h _ this.1, h _ this.2]
def sideOf (S : Nat → Bool) (m : Nat) : List Int := (((List.range m).map (· + 1)).filter S).map fun (i : Nat) => (i : Int)
theorem sideOf_mem (S : Nat → Bool) : ∀ m, sideOf S m ∈ subsF m
  | 0 => by simp [sideOf, subsF]
  | m + 1 => by
    have ih := sideOf_mem S m
    refine List.mem_append.mpr ?_
    have e : sideOf S (m + 1) = sideOf S m ++ ([m + 1].filter S).map fun (i : Nat) => (i : Int) := by
      unfold sideOf
      rw [List.range_succ, List.map_append, List.filter_append, List.map_append]
      rfl
    rw [e, List.filter_cons]
    by_cases c : S (m + 1) = true
    · rw [if_pos c]
      exact .inr (List.mem_map.mpr ⟨_, ih, rfl⟩)
    · rw [if_neg c]
      exact .inl (by simpa using ih)
theorem sideOf_has (S : Nat → Bool) (m v : Nat) : (sideOf S m).contains (v : Int) = (decide (1 ≤ v ∧ v ≤ m) && S v) := by
  rw [Bool.eq_iff_iff, List.contains_iff_mem]
  unfold sideOf
  simp only [List.mem_map, List.mem_filter, List.mem_range, Bool.and_eq_true, decide_eq_true_eq]
  constructor
  · rintro ⟨i, ⟨⟨j, h1, rfl⟩, h2⟩, h3⟩
    have : j + 1 = v := by omega
    subst this
    exact ⟨by omega, h2⟩
  · rintro ⟨h1, h2⟩
    exact ⟨v, ⟨⟨v - 1, by omega, by omega⟩, h2⟩, rfl⟩
theorem min_sides {N : Net} (ok : NetOk N) {s0 : List Int} (h0 : s0 ∈ sidesF N.n) (hm : ∀ s ∈ sidesF N.n, (cutF N.rs s0).length ≤ (cutF N.rs s).length) : MinCut N (cutF N.rs s0).length := by
  have two := ok.two
  obtain ⟨g1, g2⟩ := List.mem_filter.mp h0
  obtain ⟨_, g3⟩ := subs_ok _ _ g1
  refine ⟨fun S z0 ⟨v, hv, sv⟩ => ?_, ⟨fun v => s0.contains (v : Int), ?_, ?_, (cutF_len _ _).symm⟩⟩
  · have hv0 : v ≠ 0 := fun e => by rw [e, z0] at sv; cases sv
    have e : cutN N.rs S = cutN N.rs fun v => (sideOf S (N.n - 1)).contains (v : Int) := cutN_congr ok fun u hu => by
      rw [sideOf_has]
      by_cases c : u = 0
      · subst c; rw [z0]; rfl
      · rw [decide_eq_true (by omega), Bool.true_and]
    rw [e, ← cutF_len]
    refine hm _ (List.mem_filter.mpr ⟨sideOf_mem S _, ?_⟩)
    have : (sideOf S (N.n - 1)).contains (v : Int) = true := by
      rw [sideOf_has, sv, decide_eq_true (by omega)]
      rfl
    cases hs : sideOf S (N.n - 1) with
    | nil => rw [hs] at this; cases this
    | cons _ _ => rfl
  · show s0.contains ((0 : Nat) : Int) = false
    cases c : s0.contains ((0 : Nat) : Int) with
    | false => rfl
    | true =>
      have := g3 _ (List.contains_iff_mem.mp c)
      omega
  · cases s0 with
    | nil => cases g2
    | cons x s0 =>
      have := g3 x (by simp)
      refine ⟨x.toNat, by omega, ?_⟩
      show (x :: s0).contains ((x.toNat : Nat) : Int) = true
      have e : ((x.toNat : Nat) : Int) = x := by omega
      rw [e]
      simp
theorem er_min {is : List Int} (h : EvD K te σ H (.list (is.map .int))) (h0 : 0 < is.length) : EvR K (tCB (rMin K) (tCons te tNil)) σ H (fun d => ∃ m, d = .int m ∧ m ∈ is ∧ ∀ y ∈ is, m ≤ y) := fun H1 e Q q => h H1 e _ fun x H2 e2 dx => by
  obtain ⟨a, xs, rfl, hs, hd⟩ := dp_lst dx
  obtain rfl := ints_vs hd
  exact ⟨a, is, rfl, hs, h0, fun m h1 h2 => q _ H2 _ ⟨m, rfl, h1, h2⟩ e2 (.int m)⟩
theorem rd_law_strength (vs : List V) (H : Hp) (Q : VK) (E : XK) (h : sp_law_strength K vs H Q E) : t_law_strength K { nx := fun _ H' => Q .non H', rt := Q } (start N_law_strength vs) H := by
  obtain ⟨N, hd, ok, q⟩ := h
  obtain ⟨x, rfl, dx⟩ := dp1 hd
  have five := ok.five
  have two := ok.two
  have hne : 0 < (sidesF N.n).length := by
    have : sideOf (fun _ => true) (N.n - 1) ∈ sidesF N.n := List.mem_filter.mpr ⟨sideOf_mem _ _, by
      have : (sideOf (fun _ => true) (N.n - 1)).contains ((1 : Nat) : Int) = true := by
        rw [sideOf_has, decide_eq_true (by omega)]
        rfl
      cases hs : sideOf (fun _ => true) (N.n - 1) with
      | nil => rw [hs] at this; cases this
      | cons _ _ => rfl⟩
    exact List.length_pos_of_mem this
  have hsz : (sidesF N.n).length ≤ 100 := by
    have h1 := List.length_filter_le (fun s : List Int => s != []) (subsF (N.n - 1))
    rw [subs_len] at h1
    have := Nat.pow_le_pow_right (show 0 < 2 by decide) (show N.n - 1 ≤ 4 by omega)
    unfold sidesF
    omega
  refine q_when (b := decide ((N.n : Int) = 1)) (et_test (ev_eqI (K := K) (ev_nm (ev_var rfl dx)) ev_int)) (fun hb => by have := of_decide_eq_true hb; omega) fun _ H1 e1 => ?_
  refine er_min (K := K) (is := (sidesF N.n).map fun s => ((cutF N.rs s).length : Int)) (EvN.dd (EvN.to (en_lcM (M := noM) (sidesF N.n) encI (ei_lst (ev_cal (ds := [.int (N.n : Int)]) (ea1 (ev_nm (ev_var rfl (Dp.mono e1 _ _ dx)))) fun vs H2 Q e2 dv qq => ⟨N.n, dv, by omega, five, qq⟩) (noLAll_map _ _ fun b _ => noL_encI b)) (by simp) (fun i b hb => getD_of (get_map encI hb)) (fun s => .int ((cutF N.rs s).length : Int)) (by omega) (fun _ _ => rfl)
    fun s hs H2 z e2 dz Q q => tg1 <| q _ H2 (Same.refl H2) rfl (EvD.to (ev_lenL (ev_cal (dz := encF (cutF N.rs s)) (ea2 (ev_var rfl (Dp.mono (e1.trans e2) _ _ dx)) (ev_var rfl dz)) fun vs H3 Q e3 dv qq => ⟨N, s, dv, ok, qq⟩)) (by rw [List.length_map]))) (by rw [List.map_map]; rfl))) (by rw [List.length_map]; exact hne) H1 (Same.refl H1) _ fun v H2 d hP e2 dv => ?_
  obtain ⟨m, rfl, hm1, hm2⟩ := hP
  obtain ⟨s0, hs0, rfl⟩ := List.mem_map.mp hm1
  refine q v H2 _ ⟨_, rfl, min_sides ok hs0 fun s hs => ?_⟩ (e1.trans e2) dv
  have := hm2 _ (List.mem_map.mpr ⟨s, hs, rfl⟩)
  omega
end
end K11
end

/-! ## K11RdH -/
section
set_option maxHeartbeats 4000000
/-! What the readings of the law's defs that draw come to. -/
namespace K11
open PySem PySem.Spec PyProof.Rows L2
section
variable {K : PySem.W.Frag} {M : Addr → Prop} {σ : L2.St} {H H' H0 H1 H2 : Hp} {ta tb tc te tl : TE} {ds es : List PyData} {d : PyData} {D : Ends} {tu tw tz : TS} {t : TT} {B : Bx} {Q : VK} {l p : Addr}
theorem sqL_same {a : Addr} {xs : List V} (e : Same H H') (h : SqL K H a xs) : SqL K H' a xs := sqL_mono e h
theorem BoxAt.mono (e : Same H H') (h : BoxAt K H B) : BoxAt K H' B := by
  obtain ⟨a, h1, h2, h3, h4⟩ := h
  exact ⟨a, e _ _ h1, h2, sqL_mono e h3, h4⟩
theorem BoxAt.at (h : BoxAt K H B) : ∃ zs, H B.b = some (.lst zs) := by
  obtain ⟨a, h1, _⟩ := h
  exact ⟨_, h1⟩
theorem BoxAt.ne (h : BoxAt K H B) (n : H l = none) : l ≠ B.b := fun e => by
  obtain ⟨zs, hz⟩ := h.at
  rw [e, hz] at n
  cases n
theorem BoxAt.keep (h0 : BoxAt K H0 B) (n : H0 l = none) (h : BoxAt K H B) (b : But l H H') : BoxAt K H' B := by
  obtain ⟨a, h1, h2, h3, h4⟩ := h
  have nb := h0.ne n
  refine ⟨a, b _ _ (Ne.symm nb) h1, h2, ?_, h4⟩
  obtain ⟨_, _, _, g3, _⟩ := h0
  rcases g3 with g3 | g3
  · have nd : B.dl ≠ l := fun e => by
      rcases g3 with g3 | ⟨o, g3⟩ <;> (rw [e, n] at g3; cases g3)
    rcases h3 with (h3 | ⟨o, h3⟩) | h3
    · exact .inl (.inl (b _ _ nd h3))
    · exact .inl (.inr ⟨o, b _ _ nd h3⟩)
    · exact .inr h3
  · exact .inr g3
theorem Dp.box {v : V} (h : BoxAt K H B) (b : But B.b H H') (n : noL d = true) (dv : Dp K H v d) : Dp K H' v d := Dp.but b h.at.choose_spec _ _ n dv
theorem LstAt.box (h : BoxAt K H B) (b : But B.b H H') (n : noLAll ds = true) (ne : l ≠ B.b) (la : LstAt K H l ds) : LstAt K H' l ds := la.but ne b h.at.choose_spec n
theorem fresh_but (b : But l H H') (hl : ∃ zs, H' l = some zs) (h : H' p = none) : H p = none := by
  cases e : H p with
  | none => rfl
  | some o =>
    have hne : p ≠ l := fun z => by
      obtain ⟨zs, hz⟩ := hl
      rw [z, hz] at h
      cases h
    rw [b _ _ hne e] at h
    cases h
theorem dpAll_ints (H : Hp) (is : List Int) : DpAll K H (is.map V.int) (is.map .int) := by
  induction is with
  | nil => exact .nil
  | cons a is ih => exact .cons (.int a) ih
theorem box_dp {a : Int} {dl b : Addr} {is : List Int} (h : H b = some (.lst [.ref dl, .int a])) (s : SqL K H dl (is.map V.int)) : Dp K H (.ref b) (.list [.list (is.map .int), .int a]) := .lst (SqL.of h) (.cons (.lst s (dpAll_ints H is)) (.cons (.int a) .nil))
theorem q_setBox {b : Addr} {i : Nat} {r : V} {a v : Int} (hv : σ[i]? = some (some (.ref b))) (hb : H b = some (.lst [r, .int a])) (h : EvD K te σ H (.int v)) (k : ∀ H1, Same H H1 → tz D σ (upd H1 b (.lst [r, .int v]))) : tSeq (tAsg te (gSub (tVar i) (tC (.int 1)) rSetL)) tz D σ H :=
  h H (Same.refl H) _ fun y H1 e1 dy => by
    cases dp_int dy
    exact ⟨_, hv, b, [r, .int a], 1, 1, rfl, rfl, e1 _ _ hb, rfl, k H1 e1⟩
end
section
variable {K : PySem.W.Frag}
theorem rd_law_draw (vs : List V) (H : Hp) (Q : VK) (E : XK) (h : sp_law_draw K vs H Q E) : t_law_draw K { nx := fun _ H' => Q .non H', rt := Q } (start N_law_draw vs) H := by
  obtain ⟨B, m, rfl, ⟨a, h1, h2, h3, h4⟩, hm, q⟩ := h
  refine q_asg (K := K) (d := .int (a : Nat)) (ev_ixL (n := 1) (ev_var rfl (box_dp h1 h3)) ev_int rfl) fun v H1 e1 dv => ?_
  cases dp_int dv
  refine q_setBox (K := K) rfl (e1 _ _ h1) (ev_plus (ev_var rfl (.int _)) ev_int) fun H2 e2 => ?_
  have s2 := e1.trans e2
  obtain ⟨H3, hH3⟩ : ∃ H3, H3 = upd H2 B.b (.lst [.ref B.dl, .int ((a : Int) + 1)]) := ⟨_, rfl⟩
  rw [← hH3]
  have b3 : But B.b H H3 := by rw [hH3]; exact But.upd s2
  have h13 : H3 B.b = some (.lst [.ref B.dl, .int ((a : Int) + 1)]) := by rw [hH3]; exact upd_same
  have h33 : SqL K H3 B.dl (B.is.map V.int) := SqL.butM (M := oneM B.b) (But.butM b3 rfl ⟨_, h1⟩) h2 h3
  have bx : ∀ H4, Same H3 H4 → BoxAt K H4 B := fun H4 e4 => ⟨a + 1, e4 _ _ h13, h2, sqL_mono e4 h33, h4⟩
  have dp3 := box_dp h13 h33
  refine q_when (b := decide ((a : Int) < (B.is.length : Int))) (et_test (EvD.to (ev_lt (K := K) (ev_var rfl (.int _)) (ev_lenL (ev_ixL (n := 0) (ev_var rfl dp3) ev_int rfl))) (by rw [List.length_map]))) (fun hb H4 e4 => ?_) fun hb H4 e4 => ?_
  · have hb := of_decide_eq_true hb
    have dp4 := Dp.mono e4 _ _ dp3
    refine s_ret (K := K) (ev_mod hm (ev_intI (ev_ixL (ev_ixL (n := 0) (ev_var rfl dp4) ev_int rfl) (ev_var rfl (.int (a : Nat))) (get_map .int (getD_some (d := 0) (by omega))))) (ev_var rfl (.int m))) fun v H5 e5 dv => ?_
    cases dp_int dv
    exact q _ H5 (Int.emod_nonneg _ (by omega)) (Int.emod_lt_of_pos _ hm) (b3.trans (same_but (e4.trans e5) _)) (bx H5 (e4.trans e5))
  · refine s_ret (K := K) (ev_mod hm (ev_intI (ev_plus (ev_times (.inr ⟨by decide, by decide⟩) (ev_var rfl (.int (a : Nat))) ev_int) ev_int)) (ev_var rfl (.int m))) fun v H5 e5 dv => ?_
    cases dp_int dv
    exact q _ H5 (Int.emod_nonneg _ (by omega)) (Int.emod_lt_of_pos _ hm) (b3.trans (same_but (e4.trans e5) _)) (bx H5 (e4.trans e5))
end
section
variable {K : PySem.W.Frag} {M : Addr → Prop} {σ : L2.St} {H H' H0 H1 H2 : Hp} {ta tb tc te tl : TE} {ds es : List PyData} {d : PyData} {D : Ends} {tu tw tz : TS} {t : TT} {B : Bx} {Q : VK} {l p : Addr}
theorem c_draw {m : Int} {i : Nat} (hv : σ[i]? = some (some (.ref B.b))) (hb : BoxAt K H B) (ha : EvD K ta σ H (.int m)) (hm : 0 < m) (q : ∀ r H', 0 ≤ r → r < m → But B.b H H' → BoxAt K H' B → Q (.int r) H') :
    tCal (sp_law_draw K) E0 (tCons (tVar i) (tCons ta tNil)) σ H Q := ⟨_, hv, ha H (Same.refl H) _ fun y H1 e1 dy => by
  cases dp_int dy
  exact ⟨B, m, rfl, hb.mono e1, hm, fun r H' h1 h2 b bx => q r H' h1 h2 ((same_but e1 _).trans b) bx⟩⟩
/-- values put to use -/
theorem v_tup (h : Dp K H (.ref p) (.list ds)) (q : ∀ v H', Same H H' → Dp K H' v (.tuple ds) → Q v H') : rTupO K [.ref p] H Q := by
  obtain ⟨_, hv, hh⟩ := ev_tupL (K := K) (σ := [some (.ref p)]) (ev_var (n := 0) rfl h) H (Same.refl H) Q q
  cases hv
  exact hh
theorem v_cat {x y : V} (hz : ds.length + es.length ≤ sizeLine) (hx : Dp K H x (.tuple ds)) (hy : Dp K H y (.tuple es)) (q : ∀ v H', Same H H' → Dp K H' v (.tuple (ds ++ es)) → Q v H') : rCatA K x y H Q := by
  obtain ⟨_, hv, _, hw, hh⟩ := ev_catT (K := K) (σ := [some x, some y]) hz (ev_var (n := 0) rfl hx) (ev_var (n := 1) rfl hy) H (Same.refl H) Q q
  cases hv
  cases hw
  exact hh
theorem v_ixT {x : V} {n : Nat} (hx : Dp K H x (.tuple ds)) (h : ds[n]? = some d) (q : ∀ v, Dp K H v d → Q v H) : rIx K x (.int (n : Int)) H Q := by
  obtain ⟨a, xs, rfl, hs, hd⟩ := dp_tup hx
  obtain ⟨v, hv, dv⟩ := dpAll_get hd h
  exact .inr (.inl ⟨a, xs, (n : Int), v, rfl, rfl, hs, atI_nat hv, q v dv⟩)
theorem v_ixL {x : V} {n : Nat} (hx : Dp K H x (.list ds)) (h : ds[n]? = some d) (q : ∀ v, Dp K H v d → Q v H) : rIx K x (.int (n : Int)) H Q := by
  obtain ⟨a, xs, rfl, hs, hd⟩ := dp_lst hx
  obtain ⟨v, hv, dv⟩ := dpAll_get hd h
  exact .inl ⟨a, xs, (n : Int), v, rfl, rfl, hs, atI_nat hv, q v dv⟩
theorem Dp.listBox {v : V} (h : BoxAt K H B) (b : But B.b H H') (n : noLAll ds = true) (ne : v ≠ .ref B.b) (dv : Dp K H v (.list ds)) : Dp K H' v (.list ds) := by
  obtain ⟨a, xs, rfl, hs, hd⟩ := dp_lst dv
  have bm : ButM (oneM B.b) H H' := But.butM b rfl h.at
  exact .lst (SqL.butM bm (fun e => ne (by rw [e])) hs) (DpAll.but b h.at.choose_spec _ _ n hd)
theorem modn {r : Int} {n : Nat} (hn : 0 < n) : ∃ k : Nat, k < n ∧ r % (n : Int) = (k : Int) := by
  have h1 := Int.emod_nonneg r (show (n : Int) ≠ 0 by omega)
  have h2 := Int.emod_lt_of_pos r (show (0 : Int) < (n : Int) by omega)
  exact ⟨(r % (n : Int)).toNat, by omega, by omega⟩
end
section
variable {K : PySem.W.Frag}
theorem rd_law_pick (vs : List V) (H : Hp) (Q : VK) (E : XK) (h : sp_law_pick K vs H Q E) : t_law_pick K { nx := fun _ H' => Q .non H', rt := Q } (start N_law_pick vs) H := by
  obtain ⟨B, v, ds, rfl, bx, hd, hds, hn, q⟩ := h
  have hlen : 0 < ds.length := List.length_pos_iff.mpr hds
  refine ⟨v, rfl, ?_⟩
  refine c_draw (K := K) (B := B) (m := 900) rfl bx ev_int (by decide) fun r H1 h0 h1 b1 bx1 => ?_
  refine .inl ⟨r, rfl, ?_⟩
  obtain ⟨k, hk, ek⟩ := modn (r := r) hlen
  rcases hd with ⟨hne, hd⟩ | hd
  · have hd1 := Dp.listBox bx b1 hn hne hd
    refine ev_lenL (σ := start N_law_pick [.ref B.b, v]) (ev_var (n := 1) rfl hd1) H1 (Same.refl H1) _ fun y H2 e2 dy => ?_
    cases dp_int dy
    refine ⟨r, (ds.length : Int), rfl, rfl, by show (0 : Int) < _; omega, ?_⟩
    show rIx K v (.int (r % (ds.length : Int))) H2 Q
    rw [ek]
    exact v_ixL (Dp.mono e2 _ _ hd1) (List.getElem?_eq_getElem hk) fun w dw => q _ w H2 (List.getElem_mem hk) (b1.trans (same_but e2 _)) (bx1.mono e2) dw
  · have hd1 := Dp.box bx b1 (by rw [noL_tuple]; exact hn) hd
    refine ev_lenT (σ := start N_law_pick [.ref B.b, v]) (ev_var (n := 1) rfl hd1) H1 (Same.refl H1) _ fun y H2 e2 dy => ?_
    cases dp_int dy
    refine ⟨r, (ds.length : Int), rfl, rfl, by show (0 : Int) < _; omega, ?_⟩
    show rIx K v (.int (r % (ds.length : Int))) H2 Q
    rw [ek]
    exact v_ixT (Dp.mono e2 _ _ hd1) (List.getElem?_eq_getElem hk) fun w dw => q _ w H2 (List.getElem_mem hk) (b1.trans (same_but e2 _)) (bx1.mono e2) dw
end
section
variable {K : PySem.W.Frag} {M : Addr → Prop} {σ : L2.St} {H H' H0 H1 H2 : Hp} {ta tb tc te tl : TE} {ds es : List PyData} {d : PyData} {D : Ends} {tu tw tz : TS} {t : TT} {B : Bx} {Q : VK} {l p : Addr}
theorem c_yes {A C : Hp → Prop} (h : A H) : tYes σ H (fun b H3 => if b = true then A H3 else C H3) := (iteT h : if true = true then A H else C H)
/-- a comprehension that draws -/
theorem c_lc {wi : TI} {gt : TG} {vs : List Nat} (h0 : BoxAt K H B) (PN : Nat → (Nat → PyData) → Prop) (P : Nat → (Nat → PyData) → Nat → PyData → Prop) (hnl : ∀ n item i d, P n item i d → noL d = true)
    (hw : ∀ R : It → Hp → Prop, (∀ n item J H2 G Y, PN n item → n ≤ 1000 → But B.b H H2 → BoxAt K H2 B → Walk J n G Y → (∀ H3, ButM (oneM B.b) H2 H3 → G H3) → (∀ i H3 x H4, i < n → ButM (oneM B.b) H2 H3 → Y i H3 x H4 → Same H3 H4 ∧ Dp K H4 x (item i)) → R J H2) → wi σ H R)
    (ht : ∀ n item i H1 x, PN n item → i < n → But B.b H H1 → BoxAt K H1 B → Dp K H1 x (item i) → ∀ Q : L2.St → Hp → Prop, (∀ σ2, wipe σ2 vs = wipe σ vs → (∀ Q2 : VK, (∀ v H2 d, P n item i d → But B.b H1 H2 → BoxAt K H2 B → Dp K H2 v d → Q2 v H2) → te σ2 H1 Q2) → Q σ2 H1) → gt x (wipe σ vs) H1 Q)
    (q : ∀ n item p H' ds, PN n item → ds.length = n → (∀ (i : Nat) (d : PyData), ds[i]? = some d → P n item i d) → But B.b H H' → BoxAt K H' B → H p = none → LstAt K H' p ds → Q (.ref p) H') : tLc wi gt tYes te vs σ H Q := by
  refine hw _ fun n item J H2 G Y pn hz b2 bx2 wk hG hY D hD => ?_
  have hDb : D ≠ B.b := bx2.ne hD
  have bD : But B.b H2 (upd H2 D (.lst [])) := same_but (same_upd hD) _
  refine lc_it wk (fun i H' => But B.b H2 H' ∧ BoxAt K H' B ∧ (∃ ds, LstAt K H' D ds ∧ ds.length = i ∧ ∀ (j : Nat) (d : PyData), ds[j]? = some d → P n item j d) ∧ i ≤ n) ⟨bD, bx2.mono (same_upd hD), ⟨[], ⟨[], upd_same, .nil⟩, rfl, fun j d h => by simp at h⟩, Nat.zero_le _⟩
    (fun i H' hi p => hG H' (But.butM p.1 rfl bx2.at)) (fun i x H' H'' hi p y => ?_) fun H' p => ?_
  · obtain ⟨p1, pb, ⟨ds, p2, p3, p4⟩, p5⟩ := p
    obtain ⟨e3, dx⟩ := hY i H' x H'' hi (But.butM p1 rfl bx2.at) y
    refine ht n item i H'' x pn hi ((b2.trans p1).trans (same_but e3 _)) (pb.mono e3) dx _ fun σ2 hw ev => ⟨hw, ?_⟩
    refine c_yes ?_
    have noL1 : noLAll ds = true := noLAll_iff.mpr fun d hd => by
      obtain ⟨j, hj⟩ := List.getElem?_of_mem hd
      exact hnl n item j d (p4 j d hj)
    refine ev _ fun v H6 d pd b6 bx6 dv => ?_
    obtain ⟨acc, a1, a2⟩ := (p2.mono e3).box (pb.mono e3) b6 noL1 hDb
    have b26 : But B.b H2 H6 := (p1.trans (same_but e3 _)).trans b6
    have bt : But D H6 (upd H6 D (.lst (acc ++ [v]))) := But.upd (Same.refl H6)
    refine ⟨acc, a1, ?_, fun a o hne ha => ?_, bx2.keep hD bx6 bt, ?_, hi⟩
    · have := dpAll_len a2
      have : 100000 < sizeLine := by decide
      omega
    · rw [upd_ne (ne_of_none ha hD)]
      exact b26 a o hne ha
    · refine ⟨ds ++ [d], ⟨acc ++ [v], upd_same, dpAll_append (DpAll.but bt a1 _ _ noL1 a2) (.cons (Dp.but bt a1 _ _ (hnl n item i d pd) dv) .nil)⟩, by simp [p3], fun j d' hj => ?_⟩
      by_cases hjl : j < ds.length
      · rw [List.getElem?_append_left hjl] at hj
        exact p4 j d' hj
      · rw [List.getElem?_append_right (by omega)] at hj
        have : j = i := by
          have := (List.getElem?_eq_some_iff.mp hj).1
          simp at this
          omega
        subst this
        rw [p3] at hj
        simp at hj
        subst hj
        exact pd
  · obtain ⟨p1, pb, ⟨ds, p2, p3, p4⟩, p5⟩ := p
    exact q n item D H' ds pn p3 p4 (b2.trans p1) pb (fresh_but b2 (by obtain ⟨zs, h⟩ := bx2.at; exact ⟨_, h⟩) hD) p2
end
end K11
end

/-! ## K11RdI -/
section
set_option maxHeartbeats 4000000
/-! What the readings of the law's defs that draw come to, more. -/
namespace K11
open PySem PySem.Spec PyProof.Rows L2
section
variable {K : PySem.W.Frag} {M : Addr → Prop} {σ : L2.St} {H H' H0 H1 H2 : Hp} {ta tb tc te tl : TE} {ds es : List PyData} {d : PyData} {D : Ends} {tu tw tz : TS} {t : TT} {B : Bx} {Q : VK} {l p : Addr}
theorem ints_of : ∀ {ds : List PyData}, (∀ d ∈ ds, ∃ a : Int, d = .int a) → ∃ is : List Int, ds = is.map .int
  | [], _ => ⟨[], rfl⟩
  | d :: ds, h => by
    obtain ⟨a, rfl⟩ := h d (by simp)
    obtain ⟨is, rfl⟩ := ints_of (ds := ds) fun e he => h e (by simp [he])
    exact ⟨a :: is, rfl⟩
theorem but_mut {l p : Addr} (a : But l H0 H) (n : H0 p = none) (b : But p H H') : But l H0 H' := fun c o hc h => b c o (ne_of_none h n) (a c o hc h)
theorem ret_op {r : R2} (h : ta σ H fun x H1 => tb σ H1 fun y H2 => r x y H2 D.rt) : tRet (tOp r ta tb) D σ H := h
theorem q_c {g : TG} (h : te σ H fun x H1 => g x σ H1 (tz D)) : tSeq (tAsg te g) tz D σ H := h
theorem tup_c (h : te σ H fun x H1 => rTupO K [x] H1 Q) : tCB (rTupO K) (tCons te tNil) σ H Q := h
theorem noL_net {N : Net} (h : noLAll N.nm = true) : noL (encNet N) = true := by
  unfold encNet
  rw [noL_tuple]
  simp only [noLAll, noL, h, rs_noL N.rs, Bool.and_self, Bool.true_and]
theorem rd_law_heights (vs : List V) (H : Hp) (Q : VK) (E : XK) (h : sp_law_heights K vs H Q E) : t_law_heights K { nx := fun _ H' => Q .non H', rt := Q } (start N_law_heights vs) H := by
  obtain ⟨B, n, rfl, bx, h1, h5, q⟩ := h
  refine ret_op ?_
  refine (ev_tup (K := K) (ds := [.int 0]) (by show 1 ≤ 1000; decide) (ea1 ev_int)) H (Same.refl H) _ fun x H1 e1 dx => ?_
  refine tup_c ?_
  refine c_lc (K := K) (B := B) (bx.mono e1) (fun n' item => n' = n - 1 ∧ item = fun i => .int (i : Nat)) (fun _ _ i d => ∃ a : Int, d = .int a) (fun _ _ _ d ⟨a, h⟩ => by rw [h]; rfl)
    (fun R r => ei_rng1 (M := oneM B.b) (n := n - 1) (EvD.to (ev_minus (ev_var rfl (.int (n : Nat))) ev_int) (by congr 1; omega)) (by omega) H1 (Same.refl H1) R fun J H2 G Y e2 wk hG hY => r _ _ J H2 G Y ⟨rfl, rfl⟩ (by omega) (same_but e2 _) (bx.mono (e1.trans e2)) wk hG hY)
    (fun n' item i H2 x pn hi b2 bx2 dx Q q => tg1 (q _ rfl fun Q2 q2 => ?_)) fun n' item p H' ds pn hl hP b' bx' hp la => ?_
  · exact c_draw (K := K) (B := B) rfl bx2 ev_int (by decide) fun r H3 _ _ b3 bx3 => ⟨r, 20, rfl, rfl, q2 _ H3 (.int (r - 20)) ⟨_, rfl⟩ b3 bx3 (.int _)⟩
  · obtain ⟨is, rfl⟩ := ints_of fun d hd => by
      obtain ⟨j, hj⟩ := List.getElem?_of_mem hd
      exact hP j d hj
    have hz : is.length = n - 1 := by rw [← pn.1, ← hl, List.length_map]
    refine v_tup la.dp fun y H3 e3 dy => ?_
    have dx3 := Dp.mono e3 _ _ (Dp.box (bx.mono e1) b' rfl dx)
    refine v_cat (ds := [.int 0]) (es := is.map .int) ?_ dx3 dy fun z H4 e4 dz => ?_
    · have : 100 ≤ sizeLine := by decide
      rw [List.length_map]
      show 1 + _ ≤ _
      omega
    · exact q z H4 (0 :: is) (by rw [List.length_cons]; omega) ((same_but e1 _).trans (b'.trans (same_but (e3.trans e4) _))) (bx'.mono (e3.trans e4)) dz
theorem rd_law_some (vs : List V) (H : Hp) (Q : VK) (E : XK) (h : sp_law_some K vs H Q E) : t_law_some K { nx := fun _ H' => Q .non H', rt := Q } (start N_law_some vs) H := by
  obtain ⟨B, m, e, rfl, bx, hm, h13, q⟩ := h
  refine q_asgN (K := K) (ds := []) (en_lst (by show 0 ≤ 1000; decide) ea_nil) fun fl H1 e1 hf0 fa1 => ?_
  have hfb : fl ≠ B.b := bx.ne hf0
  refine q_for (K := K) (M := twoM B.b fl) (n := min e m) (item := fun i => .int (i : Nat)) (ei_rng1 (EvD.to (ev_min2 (ev_var rfl (.int (e : Nat))) (ev_var rfl (.int (m : Nat)))) (by congr 1; split <;> omega)) (by omega)) (fun i σ' H' => ∃ (is : List Nat) (a b : Option V), σ' = [some (.ref B.b), some (.int (m : Nat)), some (.int (e : Nat)), some (.ref fl), a, b] ∧ But B.b H H' ∧ BoxAt K H' B ∧ LstAt K H' fl (is.map encN) ∧ (∀ x ∈ is, x < m) ∧ is.length ≤ i)
    (fun H2 e2 => ⟨[], none, none, rfl, same_but (e1.trans e2) _, bx.mono (e1.trans e2), fa1.mono e2, fun _ h => (by cases h), by simp⟩) (fun i σ' H' H'' v hi p e3 dv Nx nx => ?_) fun σ' H' p => ?_
  · obtain ⟨is, a, b, rfl, b', bx', fa', hmem, hlen⟩ := p
    refine tg1 ?_
    refine c_draw (K := K) (B := B) rfl (bx'.mono e3) (ev_var rfl (.int (m : Nat))) (by omega) fun r H4 h0 h1 b4 bx4 => tg1 ?_
    obtain ⟨r, rfl⟩ : ∃ k : Nat, r = (k : Int) := ⟨r.toNat, by omega⟩
    have bx3 := bx'.mono e3
    have fa4 := (fa'.mono e3).box bx3 b4 (noL_nums is) hfb
    have bm4 : ButM (twoM B.b fl) H'' H4 := But.butM b4 (.inl rfl) bx3.at
    have b14 : But B.b H H4 := (b'.trans (same_but e3 _)).trans b4
    refine s_when (b := !(is.map fun (i : Nat) => (i : Int)).contains (r : Int)) (et_test (EvD.to (ev_inL (K := K) (neg := true) (ev_var rfl (.int _)) (ev_var rfl (by rw [← nums_ints]; exact fa4.dp))) rfl)) (fun hb H5 e5 => ?_) fun hb H5 e5 => ?_
    · refine s_app (K := K) (l := fl) (d := encN r) rfl (fa4.mono e5) (noL_nums is) rfl (ev_var rfl (.int _)) (by simp; omega) fun H6 b6 fa6 => ?_
      refine nx _ _ (bm4.trans ((same_butM e5).trans (But.butM b6 (.inr rfl) (fa4.mono e5).some))) ⟨is ++ [r], _, _, rfl, but_mut (b14.trans (same_but e5 _)) hf0 b6, bx.keep hf0 (bx4.mono e5) b6, ?_, fun x hx => ?_, by rw [List.length_append]; simp; omega⟩
      · rw [List.map_append]
        exact fa6
      · rcases List.mem_append.mp hx with hx | hx
        · exact hmem x hx
        · rw [List.mem_singleton.mp hx]; omega
    · exact nx _ _ (bm4.trans (same_butM e5)) ⟨is, _, _, rfl, b14.trans (same_but e5 _), bx4.mono e5, fa4.mono e5, hmem, by omega⟩
  · obtain ⟨is, a, b, rfl, b', bx', fa', hmem, hlen⟩ := p
    obtain ⟨xs, g1, g2⟩ := id fa'
    rw [nums_ints] at g2
    obtain rfl := ints_vs g2
    refine ⟨_, rfl, fl, is.map fun (i : Nat) => (i : Int), rfl, SqL.of g1, fun ns' p perm sorted hp => ?_⟩
    have hx : ∀ x ∈ ns', ∃ j ∈ is, (j : Int) = x := fun x hx => by
      have := perm.mem_iff.mp hx
      obtain ⟨j, h1, h2⟩ := List.mem_map.mp this
      exact ⟨j, h1, h2⟩
    refine q p _ (ns'.map Int.toNat) (fun i hi => ?_) (by rw [List.length_map, perm.length_eq, List.length_map]; omega) (b'.trans (same_but (same_upd hp) _)) (bx'.mono (same_upd hp)) (fresh_but b' (by obtain ⟨zs, h⟩ := bx'.at; exact ⟨_, h⟩) hp) ⟨_, upd_same, ?_⟩
    · obtain ⟨x, h1, rfl⟩ := List.mem_map.mp hi
      obtain ⟨j, h2, h3⟩ := hx x h1
      have := hmem j h2
      omega
    · have e0 : (ns'.map Int.toNat).map (fun (i : Nat) => PyData.int (i : Int)) = ns'.map PyData.int := by
        rw [List.map_map]
        refine List.map_congr_left fun x h1 => ?_
        obtain ⟨j, h2, h3⟩ := hx x h1
        show PyData.int ((x.toNat : Nat) : Int) = _
        congr 1
        omega
      rw [e0]
      exact dpAll_ints _ ns'
theorem rows_of {m : Nat} : ∀ {ds : List PyData}, (∀ d ∈ ds, ∃ (j : Nat) (v : Int), j < m ∧ d = encRow (j, v)) → ∃ rows : List (Nat × Int), ds = rows.map encRow ∧ ∀ q ∈ rows, q.1 < m
  | [], _ => ⟨[], rfl, fun _ h => by cases h⟩
  | d :: ds, h => by
    obtain ⟨j, v, hj, rfl⟩ := h d (by simp)
    obtain ⟨rows, rfl, hr⟩ := rows_of (ds := ds) fun e he => h e (by simp [he])
    exact ⟨(j, v) :: rows, rfl, fun q hq => by
      rcases List.mem_cons.mp hq with rfl | hq
      · exact hj
      · exact hr q hq⟩
theorem rd_law_lied (vs : List V) (H : Hp) (Q : VK) (E : XK) (h : sp_law_lied K vs H Q E) : t_law_lied K { nx := fun _ H' => Q .non H', rt := Q } (start N_law_lied vs) H := by
  obtain ⟨B, v, N, e, rfl, bx, dv, ok, hrs, q⟩ := h
  have few := ok.few
  refine q_c ?_
  refine c_lc (K := K) (B := B) bx (fun n' item => ∃ is : List Nat, n' = is.length ∧ (∀ i ∈ is, i < N.rs.length) ∧ item = fun i => (is.map encN).getD i .none) (fun _ _ i d => ∃ (j : Nat) (v : Int), j < N.rs.length ∧ d = encRow (j, v)) (fun _ _ _ d ⟨a, b, _, h⟩ => by rw [h]; rfl)
    (fun R r => ?_) (fun n' item i H2 x pn hi b2 bx2 dx Q q => tg1 (q _ rfl fun Q2 q2 => ?_)) fun n' item p H' ds pn hl hP b' bx' hp la => ?_
  · refine ⟨_, rfl, (EvD.to (ev_lenT (K := K) (ev_rs (ev_var rfl dv))) (by rw [List.length_map])) H (Same.refl H) _ fun y H1 e1 dy => ?_⟩
    cases dp_int dy
    refine ⟨_, rfl, B, N.rs.length, e, rfl, bx.mono e1, hrs, few, fun p H' is h1 h2 b' bx' hp la => ?_⟩
    obtain ⟨xs, g1, g2⟩ := id la
    have nm : ¬ oneM B.b p := fun z => by
      obtain ⟨zs, hz⟩ := (bx.mono e1).at
      have z : p = B.b := z
      rw [z, hz] at hp
      cases hp
    have hxl : xs.length = is.length := by rw [dpAll_len g2, List.length_map]
    refine ⟨p, rfl, ⟨xs, SqL.of g1⟩, ?_⟩
    refine r is.length _ _ H' _ _ ⟨is, rfl, h1, rfl⟩ (by omega) ((same_but e1 _).trans b') bx' (by rw [← hxl]; exact walk_list (a := p) (xs := xs)) (fun H3 e3 => SqL.butM e3 nm (SqL.of g1)) fun i H3 x H4 hi e3 y => ?_
    obtain ⟨rfl, hx⟩ := y
    obtain ⟨d, hd1, hd2⟩ := dpAll_get' g2 hx
    have nl : noLAll (is.map fun (i : Nat) => PyData.int (i : Int)) = true := noL_nums is
    have e0 : (is.map encN).getD i .none = d := getD_of hd1
    show Same _ _ ∧ Dp K _ _ ((is.map encN).getD i .none)
    rw [e0]
    exact ⟨Same.refl _, Dp.butM e3 _ _ (noL_mem nl hd1) hd2⟩
  · obtain ⟨is, rfl, hmem, rfl⟩ := pn
    have hj : is[i]? = some is[i] := List.getElem?_eq_getElem hi
    have dx : Dp K H2 x ((is.map encN).getD i .none) := dx
    rw [getD_of (get_map encN hj)] at dx
    cases dp_int dx
    refine ⟨_, rfl, ?_⟩
    refine c_draw (K := K) (B := B) (i := 0) rfl bx2 ev_int (by decide) fun r H3 _ _ b3 bx3 => ⟨1, r, rfl, rfl, ?_⟩
    refine c_draw (K := K) (B := B) (i := 0) rfl bx3 ev_int (by decide) fun r2 H4 g0 g1 b4 bx4 => ⟨2, r2, rfl, rfl, .inl ⟨by decide, by decide⟩, 2 * r2, 1, rfl, rfl, 1 + r, 2 * r2 - 1, rfl, rfl, .inr ⟨by omega, by omega⟩, ?_, fun p hp => ?_⟩
    · show 2 ≤ sizeLine
      decide
    · exact q2 _ _ (encRow (is[i], (1 + r) * (2 * r2 - 1))) ⟨_, _, hmem _ (List.getElem_mem hi), rfl⟩ ((b3.trans b4).trans (same_but (same_upd hp) _)) (bx4.mono (same_upd hp)) (.tup (SqT.of upd_same) (.cons (.int _) (.cons (.int _) .nil)))
  · obtain ⟨rows, rfl, hr⟩ := rows_of fun d hd => by
      obtain ⟨j, hj⟩ := List.getElem?_of_mem hd
      exact hP j d hj
    refine tg1 ⟨_, rfl, _, rfl, v, p, N, rows, rfl, Dp.box bx b' (noL_net ok.nm) dv, la, ok, hr, fun w H2 d hd e2 dw => ?_⟩
    obtain ⟨N', rfl, h1, h2⟩ := hd
    exact q w H2 N' h1 h2 (b'.trans (same_but e2 _)) (bx'.mono e2) dw
end
end K11
end

/-! ## K11RdJ -/
section
set_option maxHeartbeats 4000000
/-! What the readings of _law_pairs and _law_net come to. -/
namespace K11
open PySem PySem.Spec PyProof.Rows L2
section
variable {K : PySem.W.Frag} {M : Addr → Prop} {σ : L2.St} {H H' H0 H1 H2 : Hp} {ta tb tc te tl : TE} {ds es : List PyData} {d : PyData} {D : Ends} {tu tw tz : TS} {t : TT} {B : Bx} {Q : VK} {l p : Addr}
theorem c_pick {i : Nat} (hv : σ[i]? = some (some (.ref B.b))) (hb : BoxAt K H B) (ha : EvN K tl σ H ds) (h0 : ds ≠ []) (hn : noLAll ds = true) (q : ∀ d y H', d ∈ ds → But B.b H H' → BoxAt K H' B → Dp K H' y d → Q y H') :
    tCal (sp_law_pick K) E0 (tCons (tVar i) (tCons tl tNil)) σ H Q := ⟨_, hv, ha H (Same.refl H) _ fun p H1 e1 hp la => ⟨B, .ref p, ds, rfl, hb.mono e1, .inl ⟨fun e => hb.ne hp (by injection e), la.dp⟩, h0, hn, fun d y H' h1 b bx dy => q d y H' h1 ((same_but e1 _).trans b) bx dy⟩⟩
theorem s_ins {i : Nat} {ta : TA} {X : List V → Hp → Prop} (hv : σ[i]? = some (some (.ref l))) (hl : LstAt K H l ds) (h : ∀ Q : List V → Hp → Prop, (∀ vs H1, X vs H1 → Q vs H1) → ta σ H Q)
    (k : ∀ vs H1, X vs H1 → ∃ (k : Nat) (y : V) (d : PyData) (ds : List PyData), vs = [.int (k : Nat), y] ∧ LstAt K H1 l ds ∧ noLAll ds = true ∧ noL d = true ∧ Dp K H1 y d ∧ ds.length ≤ 1000 ∧ k ≤ 1000 ∧ ∀ H2, But l H1 H2 → LstAt K H2 l (ds.take k ++ [d] ++ ds.drop k) → D.nx σ H2) :
    tDrop (tBM K "list" rInsert (tVar i) ta) D σ H := by
  obtain ⟨xs, hx, hdx⟩ := id hl
  refine ⟨_, hv, .inl ⟨rfl, xs, SqL.of hx⟩, ?_⟩
  refine h _ fun vs H1 hX => ?_
  obtain ⟨k, y, d, ds, rfl, ⟨ys, g1, g2⟩, n1, n2, dy, z1, z2, kk⟩ := k vs H1 hX
  have hyl := dpAll_len g2
  refine ⟨l, ys, (k : Int), y, rfl, rfl, g1, ?_, by omega, by omega, ?_⟩
  · have : 1000 < sizeLine := by decide
    omega
  · have e0 : ((k : Nat) : Int).toNat = k := by omega
    rw [e0]
    have bt : But l H1 (upd H1 l (.lst (ys.take k ++ [y] ++ ys.drop k))) := But.upd (Same.refl H1)
    have g3 := DpAll.but bt g1 _ _ n1 g2
    exact kk _ bt ⟨_, upd_same, dpAll_append (dpAll_append (dpAll_take g3 k) (.cons (Dp.but bt g1 _ _ n2 dy) .nil)) (dpAll_drop g3 k)⟩
theorem ins_mem {α : Type} {xs : List α} {k : Nat} {a b : α} (h : b ∈ xs.take k ++ [a] ++ xs.drop k) : b = a ∨ b ∈ xs := by
  simp only [List.mem_append, List.mem_singleton] at h
  rcases h with (h | h) | h
  · exact .inr (List.mem_of_mem_take h)
  · exact .inl h
  · exact .inr (List.mem_of_mem_drop h)
theorem ins_len {α : Type} {xs : List α} {k : Nat} {a : α} : (xs.take k ++ [a] ++ xs.drop k).length = xs.length + 1 := by
  simp
  omega
theorem ins_map {α : Type} (f : α → PyData) {xs : List α} {k : Nat} {a : α} : (xs.take k ++ [a] ++ xs.drop k).map f = (xs.map f).take k ++ [f a] ++ (xs.map f).drop k := by
  simp [List.map_take, List.map_drop]
theorem noL_prs (ps : List (Nat × Nat)) : noLAll (ps.map encPr) = true := noLAll_map _ _ fun _ _ => rfl
theorem mod_ne {r n k : Nat} {r2 : Int} (hk : k < n) (hr : r < n) (h0 : 0 ≤ r2) (h1 : r2 < (n : Int) - 1) (e : ((r : Int) + 1 + r2) % (n : Int) = (k : Int)) : r ≠ k := by
  intro h
  subst h
  by_cases c : (r : Int) + 1 + r2 < (n : Int)
  · rw [Int.emod_eq_of_lt (by omega) c] at e
    omega
  · rw [← Int.sub_emod_right, Int.emod_eq_of_lt (by omega) (by omega)] at e
    omega
/-- pairs.insert(draw(len(pairs) + 1), ..) -/
theorem ins_pair {ps : List (Nat × Nat)} {n : Nat} (h0 : σ[0]? = some (some (.ref B.b))) (h3 : σ[3]? = some (some (.ref l))) (bx0 : BoxAt K H0 B) (hl0 : H0 l = none) (b0 : But B.b H0 H) (bx : BoxAt K H B) (la : LstAt K H l (ps.map encPr)) (hps : ∀ q ∈ ps, q.1 < n ∧ q.2 < n ∧ q.1 ≠ q.2) (hz : ps.length ≤ 20) {tp : TE}
    (hp : ∀ H1, BoxAt K H1 B → But B.b H H1 → ∀ Q : VK, (∀ (p : Nat × Nat) y H2, p.1 < n ∧ p.2 < n ∧ p.1 ≠ p.2 → But B.b H1 H2 → BoxAt K H2 B → Dp K H2 y (encPr p) → Q y H2) → tp σ H1 Q)
    (k : ∀ H3 (ps' : List (Nat × Nat)), ButM (twoM B.b l) H H3 → But B.b H0 H3 → BoxAt K H3 B → LstAt K H3 l (ps'.map encPr) → (∀ q ∈ ps', q.1 < n ∧ q.2 < n ∧ q.1 ≠ q.2) → ps'.length = ps.length + 1 → D.nx σ H3) :
    tDrop (tBM K "list" rInsert (tVar 3) (tCons (tCal (sp_law_draw K) E0 (tCons (tVar 0) (tCons (tOp rPlus (tCB (rLenQ K) (tCons (tVar 3) tNil)) (tC (.int 1))) tNil))) (tCons tp tNil))) D σ H := by
  have hlb := bx0.ne hl0
  refine s_ins (K := K) (X := fun vs H2 => ∃ (kk : Nat) (p : Nat × Nat) (y : V), vs = [.int (kk : Nat), y] ∧ kk ≤ 20 ∧ (p.1 < n ∧ p.2 < n ∧ p.1 ≠ p.2) ∧ But B.b H H2 ∧ BoxAt K H2 B ∧ Dp K H2 y (encPr p)) h3 la (fun Q q => ?_) fun vs H2 hX => ?_
  · refine c_draw (K := K) (B := B) h0 bx (ev_plus (EvD.to (ev_lenL (ev_var h3 la.dp)) (by rw [List.length_map])) ev_int) (by omega) fun r H1 g0 g1 b1 bx1 => ?_
    refine hp H1 bx1 b1 _ fun p y H2 hpn b2 bx2 dy => q _ H2 ⟨r.toNat, p, y, ?_, by omega, hpn, b1.trans b2, bx2, dy⟩
    have : ((r.toNat : Nat) : Int) = r := by omega
    rw [this]
  · obtain ⟨kk, p, y, rfl, hk, hpn, b2, bx2, dy⟩ := hX
    have la2 := la.box bx b2 (noL_prs ps) hlb
    refine ⟨kk, y, encPr p, _, rfl, la2, noL_prs ps, rfl, dy, by rw [List.length_map]; omega, by omega, fun H3 b3 la3 => ?_⟩
    rw [← ins_map] at la3
    refine k H3 _ ((But.butM b2 (.inl rfl) bx.at).trans (But.butM b3 (.inr rfl) la2.some)) (but_mut (b0.trans b2) hl0 b3) (bx0.keep hl0 bx2 b3) la3 (fun q hq => ?_) ins_len
    rcases ins_mem hq with rfl | hq
    · exact hpn
    · exact hps q hq
theorem rd_law_pairs (vs : List V) (H : Hp) (Q : VK) (E : XK) (h : sp_law_pairs K vs H Q E) : t_law_pairs K { nx := fun _ H' => Q .non H', rt := Q } (start N_law_pairs vs) H := by
  obtain ⟨B, n, e, rfl, bx, h2, h5, h9, q⟩ := h
  refine q_asgN (K := K) (ds := []) (en_lst (by show 0 ≤ 1000; decide) ea_nil) fun pl H1 e1 hl0 la1 => ?_
  refine q_for (K := K) (M := twoM B.b pl) (n := ((n : Int) - 1).toNat) (item := fun i => .int (1 + (i : Nat))) (ei_rng2 ev_int (ev_var rfl (.int (n : Nat))) (by omega) (by omega) (by omega) (by omega)) (fun i σ' H' => ∃ (ps : List (Nat × Nat)) (a b c d f : Option V), σ' = [some (.ref B.b), some (.int (n : Nat)), some (.int (e : Nat)), some (.ref pl), a, b, c, d, f] ∧ But B.b H H' ∧ BoxAt K H' B ∧ LstAt K H' pl (ps.map encPr) ∧ (∀ q ∈ ps, q.1 < n ∧ q.2 < n ∧ q.1 ≠ q.2) ∧ ps.length = i)
    (fun H2 e2 => ⟨[], none, none, none, none, none, rfl, same_but (e1.trans e2) _, bx.mono (e1.trans e2), la1.mono e2, fun _ h => (by cases h), rfl⟩) (fun i σ' H' H'' v hi p e3 dv Nx nx => ?_) fun σ' H' p => ?_
  · obtain ⟨ps, a, b, c, d, f, rfl, b', bx', la', hmem, hlen⟩ := p
    cases dp_int dv
    have bx3 := bx'.mono e3
    refine tg1 (q_c ?_)
    refine c_draw (K := K) (B := B) rfl bx3 (ev_var rfl (.int (1 + (i : Int)))) (by omega) fun r H4 g0 g1 b4 bx4 => tg1 ?_
    obtain ⟨r, rfl⟩ : ∃ k : Nat, r = (k : Int) := ⟨r.toNat, by omega⟩
    have la4 := (la'.mono e3).box bx3 b4 (noL_prs ps) (bx.ne hl0)
    have bm4 : ButM (twoM B.b pl) H'' H4 := But.butM b4 (.inl rfl) bx3.at
    refine ins_pair (K := K) (B := B) (l := pl) (n := n) rfl rfl bx hl0 ((b'.trans (same_but e3 _)).trans b4) bx4 la4 hmem (by omega) (fun H5 bx5 b5 Q q => ?_) fun H5 ps' bm5 b5 bx5 la5 hm5 hl5 => nx _ _ (bm4.trans bm5) ⟨ps', _, _, _, _, _, rfl, b5, bx5, la5, hm5, by omega⟩
    refine c_pick (K := K) (B := B) (ds := [encPr (1 + i, r), encPr (r, 1 + i)]) rfl bx5 (en_lst (by show 2 ≤ 1000; decide) (ea2 (ev_tup (by show 2 ≤ 1000; decide) (ea2 (EvD.to (ev_var rfl (.int _)) rfl) (ev_var rfl (.int _)))) (ev_tup (by show 2 ≤ 1000; decide) (ea2 (ev_var rfl (.int _)) (EvD.to (ev_var rfl (.int _)) rfl))))) (by simp) rfl fun d y H6 hd b6 bx6 dy => ?_
    rcases List.mem_cons.mp hd with rfl | hd
    · exact q _ y H6 ⟨by show 1 + i < n; omega, by show r < n; omega, by show 1 + i ≠ r; omega⟩ b6 bx6 dy
    · rw [List.mem_singleton.mp hd] at dy
      exact q _ y H6 ⟨by show r < n; omega, by show 1 + i < n; omega, by show r ≠ 1 + i; omega⟩ b6 bx6 dy
  · obtain ⟨ps, a, b, c, d, f, rfl, b', bx', la', hmem, hlen⟩ := p
    refine q_for (K := K) (M := twoM B.b pl) (n := e) (item := fun i => .int (i : Nat)) (ei_rng1 (ev_var rfl (.int (e : Nat))) (by omega)) (fun i σ' H' => ∃ (ps : List (Nat × Nat)) (a b c d f : Option V), σ' = [some (.ref B.b), some (.int (n : Nat)), some (.int (e : Nat)), some (.ref pl), a, b, c, d, f] ∧ But B.b H H' ∧ BoxAt K H' B ∧ LstAt K H' pl (ps.map encPr) ∧ (∀ q ∈ ps, q.1 < n ∧ q.2 < n ∧ q.1 ≠ q.2) ∧ ps.length = n - 1 + i)
      (fun H2 e2 => ⟨ps, a, b, c, d, f, rfl, b'.trans (same_but e2 _), bx'.mono e2, la'.mono e2, hmem, by omega⟩) (fun i σ' H' H'' v hi p e3 dv Nx nx => ?_) fun σ' H' p => ?_
    · obtain ⟨ps, a, b, c, d, f, rfl, b', bx', la', hmem, hlen⟩ := p
      have bx3 := bx'.mono e3
      refine tg1 (q_c ?_)
      refine c_draw (K := K) (B := B) rfl bx3 (ev_var rfl (.int (n : Nat))) (by omega) fun r H4 g0 g1 b4 bx4 => tg1 ?_
      obtain ⟨r, rfl⟩ : ∃ k : Nat, r = (k : Int) := ⟨r.toNat, by omega⟩
      have la4 := (la'.mono e3).box bx3 b4 (noL_prs ps) (bx.ne hl0)
      have bm4 : ButM (twoM B.b pl) H'' H4 := But.butM b4 (.inl rfl) bx3.at
      refine q_c ?_
      refine ⟨_, rfl, (r : Int), 1, rfl, rfl, ?_⟩
      refine c_draw (K := K) (B := B) (i := 0) rfl bx4 (ev_minus (ev_var rfl (.int (n : Nat))) ev_int) (by omega) fun r2 H5 f0 f1 b5 bx5 => ?_
      refine ⟨(r : Int) + 1, r2, rfl, rfl, .inl ⟨(r : Int) + 1 + r2, rfl, _, rfl, (r : Int) + 1 + r2, (n : Int), rfl, rfl, by show (0 : Int) < _; omega, ?_⟩⟩
      obtain ⟨k, hk, ek⟩ := modn (r := (r : Int) + 1 + r2) (n := n) (by omega)
      show gName 8 (V.int (((r : Int) + 1 + r2) % (n : Int))) _ _ _
      rw [ek]
      refine tg1 ?_
      have la5 := la4.box bx4 b5 (noL_prs ps) (bx.ne hl0)
      have bm5 : ButM (twoM B.b pl) H4 H5 := But.butM b5 (.inl rfl) bx4.at
      refine ins_pair (K := K) (B := B) (l := pl) (n := n) rfl rfl bx hl0 (((b'.trans (same_but e3 _)).trans b4).trans b5) bx5 la5 hmem (by omega) (fun H6 bx6 b6 Q q => ?_) fun H6 ps' bm6 b6 bx6 la6 hm6 hl6 => nx _ _ (bm4.trans (bm5.trans bm6)) ⟨ps', _, _, _, _, _, rfl, b6, bx6, la6, hm6, by omega⟩
      exact (ev_tup (K := K) (ds := [.int (r : Nat), .int (k : Nat)]) (by show 2 ≤ 1000; decide) (ea2 (ev_var rfl (.int _)) (ev_var rfl (.int _)))) H6 (Same.refl H6) _ fun y H7 e7 dy => q (r, k) y H7 ⟨by show r < n; omega, hk, by show r ≠ k; exact mod_ne hk (by omega) f0 f1 ek⟩ (same_but e7 _) (bx6.mono e7) dy
    · obtain ⟨ps, a, b, c, d, f, rfl, b', bx', la', hmem, hlen⟩ := p
      exact ⟨_, rfl, q pl H' ps hmem hlen b' bx' hl0 la'⟩
theorem NetOk.of_ends {N N' : Net} (ok : NetOk N) (h1 : N'.nm = N.nm) (h2 : K11.ends N'.rs = K11.ends N.rs) : NetOk N' := by
  have hl : N'.rs.length = N.rs.length := by
    have := congrArg List.length h2
    unfold K11.ends at this
    simpa using this
  have hn : N'.n = N.n := by unfold Net.n; rw [h1]
  suffices key : ∀ r ∈ N'.rs, (r.1 < N'.n ∧ r.2.1 < N'.n) ∧ r.1 ≠ r.2.1 from ⟨by rw [h1]; exact ok.nm, by rw [hn]; exact ok.two, by rw [hn]; exact ok.five, fun r hr => (key r hr).1, fun r hr => (key r hr).2, by rw [hl]; exact ok.few⟩
  intro r hr
  have : (r.1, r.2.1) ∈ K11.ends N'.rs := List.mem_map.mpr ⟨r, hr, rfl⟩
  rw [h2] at this
  obtain ⟨r0, g1, g2⟩ := List.mem_map.mp this
  injection g2 with k1 k2
  rw [hn, ← k1, ← k2]
  exact ⟨ok.ends r0 g1, ok.ne r0 g1⟩
theorem rd_law_net (vs : List V) (H : Hp) (Q : VK) (E : XK) (h : sp_law_net K vs H Q E) : t_law_net K { nx := fun _ H' => Q .non H', rt := Q } (start N_law_net vs) H := by
  obtain ⟨B, rfl, bx, q⟩ := h
  refine q_c ?_
  refine c_draw (K := K) (B := B) (i := 0) rfl bx (ev_minus (ev_var rfl (.int 5)) ev_int) (by decide) fun r H1 g0 g1 b1 bx1 => ⟨2, r, rfl, rfl, ?_⟩
  show gName 3 (V.int (2 + r)) _ _ _
  obtain ⟨n, hn⟩ : ∃ n : Nat, (n : Int) = 2 + r := ⟨(2 + r).toNat, by omega⟩
  rw [← hn]
  refine tg1 ?_
  have n2 : 2 ≤ n := by omega
  have n5 : n ≤ 5 := by omega
  refine q_c ⟨_, rfl, _, rfl, ?_⟩
  refine c_draw (K := K) (B := B) (i := 0) rfl bx1 (ev_plus (ev_var rfl (.int 9)) ev_int) (by decide) fun r2 H2 f0 f1 b2 bx2 => ?_
  obtain ⟨e, rfl⟩ : ∃ e : Nat, r2 = (e : Int) := ⟨r2.toNat, by omega⟩
  refine ⟨B, n, e, rfl, bx2, n2, n5, by omega, fun p H3 ps hps hpl b3 bx3 hp la3 => tg1 (q_c ⟨_, rfl, _, rfl, _, rfl, ?_⟩)⟩
  refine ⟨B, n, rfl, bx3, by omega, n5, fun v H4 h hl b4 bx4 dv => ?_⟩
  have la4 := la3.box bx3 b4 (noL_prs ps) (bx2.ne hp)
  refine ⟨ps, h, .cons la4.dp (.cons dv .nil), by rw [hl]; exact fun q hq => ⟨(hps q hq).1, (hps q hq).2.1⟩, by omega, by omega, fun w H5 d hd e5 dw => tg1 ?_⟩
  obtain ⟨N, rfl, hNn, hnm, hends⟩ := hd
  have hrl : N.rs.length = ps.length := by
    rw [← hends]
    unfold ends
    rw [List.length_map]
  have ok : NetOk N := by
    suffices key : ∀ r ∈ N.rs, (r.1 < N.n ∧ r.2.1 < N.n) ∧ r.1 ≠ r.2.1 from ⟨hnm, by omega, by omega, fun r hr => (key r hr).1, fun r hr => (key r hr).2, by omega⟩
    intro r hr
    have : (r.1, r.2.1) ∈ ends N.rs := List.mem_map.mpr ⟨r, hr, rfl⟩
    rw [hends] at this
    have := hps _ this
    rw [hNn, hl]
    exact ⟨⟨this.1, this.2.1⟩, this.2.2⟩
  refine ⟨_, rfl, _, rfl, ?_⟩
  refine c_draw (K := K) (B := B) (i := 0) rfl (bx4.mono e5) ev_int (by decide) fun r3 H6 i0 i1 b6 bx6 => ?_
  obtain ⟨e3, rfl⟩ : ∃ e : Nat, r3 = (e : Int) := ⟨r3.toNat, by omega⟩
  refine ⟨B, w, N, e3, rfl, bx6, Dp.box (bx4.mono e5) b6 (noL_net ok.nm) dw, ok, by omega, fun v' H7 N' k1 k2 b7 bx7 dv' => q v' H7 N' (ok.of_ends k1 k2) ?_ bx7 dv'⟩
  exact (((((b1.trans b2).trans b3).trans b4).trans (same_but e5 _)).trans b6).trans b7
end
end K11
end

/-! ## K11Wm -/
section
set_option maxHeartbeats 4000000
/-! The worlds, plain: what both searches give. -/
namespace K11
open PySem PySem.Spec PyProof.Rows L2
def lieOf (h : List Int) (r : Rdg) : Bool := miss h r != 0
theorem lies_len (rs : List Rdg) (h : List Int) : (lies rs h).length = (rs.filter (lieOf h)).length := by
  unfold lies
  rw [List.length_map]
  have e1 : (rs.map (miss h)).filter (fun x => x != 0) = (((rs.map (miss h)).zipIdx.filter fun p => p.1 != 0).map Prod.fst) := by
    conv => lhs; rw [← List.zipIdx_map_fst 0 (rs.map (miss h))]
    rw [List.filter_map]
    rfl
  have e2 := congrArg List.length e1
  rw [List.length_map] at e2
  rw [← e2, List.filter_map, List.length_map]
  rfl
structure Sol (N : Net) (k : Int) (h : List Int) : Prop where
  len : h.length = N.n
  zero : h.getD 0 0 = 0
  few : ((lies N.rs h).length : Int) ≤ k
/-! ### what is known, as a map -/
abbrev Mp := Nat → Option Int
def hbF (φ : Mp) (r : Rdg) : Option (Nat × Int) := hb2 (φ r.1) (φ r.2.1) r
def lkF (φ : Mp) (r : Rdg) : Bool := lk2 (φ r.1) (φ r.2.1) r
def UnderF (φ : Mp) (h : List Int) : Prop := ∀ i v, φ i = some v → h.getD i 0 = v
def badA (φ : Mp) (h : List Int) (r : Rdg) : Bool := match hbF φ r with
  | some p => p.2 != h.getD p.1 0
  | none => false
theorem count_sum {α : Type} (P Q R : α → Bool) : ∀ xs : List α, (∀ r ∈ xs, P r = true → R r = true ∧ Q r = false) → (∀ r ∈ xs, Q r = true → R r = true) → (xs.filter P).length + (xs.filter Q).length ≤ (xs.filter R).length
  | [], _, _ => by simp
  | x :: xs, h1, h2 => by
    have ih := count_sum P Q R xs (fun r hr => h1 r (by simp [hr])) (fun r hr => h2 r (by simp [hr]))
    have g1 := h1 x (by simp)
    have g2 := h2 x (by simp)
    rw [List.filter_cons, List.filter_cons, List.filter_cons]
    cases p : P x <;> cases q : Q x <;> cases r : R x <;> simp_all <;> omega
theorem lk_lie {φ : Mp} {h : List Int} (u : UnderF φ h) {r : Rdg} (e : lkF φ r = true) : lieOf h r = true ∧ badA φ h r = false := by
  unfold lkF at e
  unfold badA hbF lieOf miss
  cases e1 : φ r.1 with
  | none => rw [e1] at e; cases e
  | some x =>
    cases e2 : φ r.2.1 with
    | none => rw [e1, e2] at e; cases e
    | some y =>
      rw [e1, e2] at e
      have e : (y - x != r.2.2) = true := e
      rw [u _ _ e1, u _ _ e2]
      refine ⟨?_, rfl⟩
      simp at e ⊢
      omega
theorem bad_lie {φ : Mp} {h : List Int} (u : UnderF φ h) {r : Rdg} (e : badA φ h r = true) : lieOf h r = true := by
  unfold badA hbF at e
  unfold lieOf miss
  cases e1 : φ r.1 with
  | none =>
    cases e2 : φ r.2.1 with
    | none => rw [e1, e2] at e; cases e
    | some y =>
      rw [e1, e2] at e
      have e : (y - r.2.2 != h.getD r.1 0) = true := e
      rw [u _ _ e2]
      simp at e ⊢
      omega
  | some x =>
    cases e2 : φ r.2.1 with
    | none =>
      rw [e1, e2] at e
      have e : (x + r.2.2 != h.getD r.2.1 0) = true := e
      rw [u _ _ e1]
      simp at e ⊢
      omega
    | some y => rw [e1, e2] at e; cases e
theorem across_len (φ : Mp) : ∀ rs : List Rdg, (rs.filterMap (hbF φ)).length = cutN rs fun v => (φ v).isNone
  | [] => rfl
  | r :: rs => by
    have ih := across_len φ rs
    unfold cutN at ih ⊢
    rw [List.filterMap_cons, List.filter_cons]
    have : (hbF φ r).isSome = ((φ r.1).isNone != (φ r.2.1).isNone) := by
      unfold hbF
      cases φ r.1 <;> cases φ r.2.1 <;> rfl
    rw [← this]
    cases e : hbF φ r with
    | none => simpa using ih
    | some p => simpa using ih
theorem bad_len (φ : Mp) (h : List Int) : ∀ rs : List Rdg, ((rs.filterMap (hbF φ)).filter fun p => p.2 != h.getD p.1 0).length = (rs.filter (badA φ h)).length
  | [] => rfl
  | r :: rs => by
    have ih := bad_len φ h rs
    rw [List.filterMap_cons, List.filter_cons]
    cases e : hbF φ r with
    | none =>
      have hb : badA φ h r = false := by unfold badA; rw [e]
      rw [if_neg (by rw [hb]; decide)]
      exact ih
    | some p =>
      have hb : badA φ h r = (p.2 != h.getD p.1 0) := by unfold badA; rw [e]
      rw [hb]
      show ((p :: rs.filterMap (hbF φ)).filter _).length = _
      rw [List.filter_cons]
      by_cases c : (p.2 != h.getD p.1 0) = true
      · rw [if_pos c, if_pos c, List.length_cons, List.length_cons, ih]
      · rw [if_neg c, if_neg c, ih]
/-- one of the first readings across is kept -/
theorem kept_one {N : Net} {t : Nat} {k : Int} {φ : Mp} {h : List Int} (mc : MinCut N t) (hk : k + 1 ≤ (t : Int)) (sol : Sol N k h) (u : UnderF φ h) (h0 : φ 0 ≠ none) (hv : ∃ v, v < N.n ∧ φ v = none) :
    ((N.rs.filter (lkF φ)).length : Int) ≤ k ∧ ∃ p ∈ (N.rs.filterMap (hbF φ)).take ((k - (N.rs.filter (lkF φ)).length).toNat + 1), p.2 = h.getD p.1 0 := by
  have c1 := count_sum (lkF φ) (badA φ h) (lieOf h) N.rs (fun r _ e => lk_lie u e) (fun r _ e => bad_lie u e)
  have c2 := sol.few
  rw [lies_len] at c2
  refine ⟨by omega, ?_⟩
  have c3 : t ≤ cutN N.rs fun v => (φ v).isNone := mc.le _ (by cases e : φ 0 with | none => exact (h0 e).elim | some _ => rfl) (by
    obtain ⟨v, h1, h2⟩ := hv
    exact ⟨v, h1, by rw [h2]; rfl⟩)
  rw [← across_len] at c3
  refine Classical.byContradiction fun hno => ?_
  have hall : ∀ p ∈ (N.rs.filterMap (hbF φ)).take ((k - (N.rs.filter (lkF φ)).length).toNat + 1), (p.2 != h.getD p.1 0) = true := fun p hp => by
    by_cases e : p.2 = h.getD p.1 0
    · exact (hno ⟨p, hp, e⟩).elim
    · simpa using e
  have s1 := ((List.take_sublist ((k - (N.rs.filter (lkF φ)).length).toNat + 1) (N.rs.filterMap (hbF φ))).filter fun p => p.2 != h.getD p.1 0).length_le
  rw [List.filter_eq_self.mpr hall, bad_len, List.length_take] at s1
  omega
/-! ### how many marks are known -/
def knownF (φ : Mp) (n : Nat) : Nat := ((List.range n).filter fun m => (φ m).isSome).length
theorem known_succ (φ : Mp) (n : Nat) : knownF φ (n + 1) = knownF φ n + if (φ n).isSome = true then 1 else 0 := by
  unfold knownF
  rw [List.range_succ, List.filter_append, List.length_append, List.filter_cons]
  cases (φ n).isSome <;> rfl
theorem known_same {φ ψ : Mp} : ∀ n, (∀ m, m < n → φ m = ψ m) → knownF φ n = knownF ψ n
  | 0, _ => rfl
  | n + 1, h => by rw [known_succ, known_succ, known_same n fun m hm => h m (by omega), h n (by omega)]
theorem known_put {φ ψ : Mp} {m : Nat} {v : Int} (h0 : φ m = none) (h1 : ψ m = some v) (h2 : ∀ i, i ≠ m → ψ i = φ i) : ∀ n, m < n → knownF ψ n = knownF φ n + 1
  | 0, h => by omega
  | n + 1, h => by
    rw [known_succ, known_succ]
    by_cases e : m = n
    · subst e
      rw [h0, h1, known_same m fun i hi => h2 i (by omega)]
      rfl
    · rw [known_put h0 h1 h2 n (by omega), h2 n (fun z => e z.symm)]
      omega
theorem known_full {φ : Mp} {n : Nat} (h : knownF φ n = n) : ∀ m, m < n → (φ m).isSome = true := by
  unfold knownF at h
  have : ((List.range n).filter fun m => (φ m).isSome).length = (List.range n).length := by rw [h, List.length_range]
  intro m hm
  exact List.length_filter_eq_length_iff.mp this m (List.mem_range.mpr hm)
theorem known_gap {φ : Mp} {n : Nat} (h : knownF φ n < n) : ∃ v, v < n ∧ φ v = none := by
  refine Classical.byContradiction fun hno => ?_
  have : ((List.range n).filter fun m => (φ m).isSome).length = (List.range n).length := List.length_filter_eq_length_iff.mpr fun m hm => by
    cases e : φ m with
    | none => exact (hno ⟨m, List.mem_range.mp hm, e⟩).elim
    | some _ => rfl
  rw [List.length_range] at this
  unfold knownF at h
  omega
/-! ### the adding of what is new -/
section
variable {α : Type} [BEq α] [LawfulBEq α]
def addIf (ok : α → Bool) (acc : List α) (x : α) : List α := if (!acc.contains x && ok x) = true then acc ++ [x] else acc
theorem addIf_mem {ok : α → Bool} {x y : α} {acc : List α} : y ∈ addIf ok acc x ↔ y ∈ acc ∨ (y = x ∧ ok x = true) := by
  unfold addIf
  by_cases h : x ∈ acc
  · rw [if_neg (by rw [List.contains_iff_mem.mpr h]; simp)]
    constructor
    · exact .inl
    · rintro (h1 | ⟨rfl, _⟩)
      · exact h1
      · exact h
  · have hc : acc.contains x = false := by simpa using h
    rw [hc]
    cases o : ok x
    · simp
    · simp
theorem addIf_nodup {ok : α → Bool} {x : α} {acc : List α} (h : acc.Nodup) : (addIf ok acc x).Nodup := by
  unfold addIf
  split
  · rename_i c
    have hc : ¬ x ∈ acc := fun z => by rw [List.contains_iff_mem.mpr z] at c; simp at c
    refine List.nodup_append.mpr ⟨h, by simp, fun a ha b hb => ?_⟩
    rw [List.mem_singleton.mp hb]
    intro e
    exact hc (e ▸ ha)
  · exact h
theorem addIf_len {ok : α → Bool} {x : α} {acc : List α} : (addIf ok acc x).length ≤ acc.length + 1 := by
  unfold addIf
  split <;> simp
theorem addAll_mem {ok : α → Bool} {y : α} : ∀ (xs acc : List α), y ∈ xs.foldl (addIf ok) acc ↔ y ∈ acc ∨ (y ∈ xs ∧ ok y = true)
  | [], acc => by simp
  | x :: xs, acc => by
    rw [List.foldl_cons, addAll_mem xs, addIf_mem]
    constructor
    · rintro ((h | ⟨rfl, h⟩) | ⟨h1, h2⟩)
      · exact .inl h
      · exact .inr ⟨by simp, h⟩
      · exact .inr ⟨by simp [h1], h2⟩
    · rintro (h | ⟨h1, h2⟩)
      · exact .inl (.inl h)
      · rcases List.mem_cons.mp h1 with rfl | h1
        · exact .inl (.inr ⟨rfl, h2⟩)
        · exact .inr ⟨h1, h2⟩
theorem addAll_nodup {ok : α → Bool} : ∀ (xs acc : List α), acc.Nodup → (xs.foldl (addIf ok) acc).Nodup
  | [], _, h => h
  | x :: xs, acc, h => addAll_nodup xs _ (addIf_nodup h)
theorem addAll_len {ok : α → Bool} : ∀ (xs acc : List α), (xs.foldl (addIf ok) acc).length ≤ acc.length + xs.length
  | [], _ => by simp
  | x :: xs, acc => by
    rw [List.foldl_cons]
    have h1 := addAll_len (ok := ok) xs (addIf ok acc x)
    have h2 := addIf_len (ok := ok) (x := x) (acc := acc)
    rw [List.length_cons]
    omega
end
/-! ### the program's rows -/
abbrev mp (g : Part) : Mp := fun i => g.getD i none
theorem growF_eq (rs : List Rdg) (k : Int) (g : Part) (found : List Part) (p : Nat × Int) : growF rs k g found p = addIf (fun x => decide ((cnt rs x : Int) ≤ k)) found (g.set p.1 (some p.2)) := rfl
theorem growAll (rs : List Rdg) (k : Int) (g : Part) : ∀ (ps : List (Nat × Int)) (acc : List Part), ps.foldl (growF rs k g) acc = (ps.map fun p => g.set p.1 (some p.2)).foldl (addIf fun x => decide ((cnt rs x : Int) ≤ k)) acc
  | [], _ => rfl
  | p :: ps, acc => by
    rw [List.foldl_cons, List.map_cons, List.foldl_cons, growF_eq, growAll rs k g ps]
theorem addNew_eq (more : List Part) (x : Part) : addNew more x = addIf (fun _ => true) more x := by
  unfold addNew addIf
  cases more.contains x <;> rfl
theorem addNew_fun : addNew = addIf (α := Part) fun _ => true := funext fun a => funext fun b => addNew_eq a b
def pairsF (rs : List Rdg) (k : Int) (g : Part) : List (Nat × Int) := (rs.filterMap (heightBy g)).take ((k - cnt rs g).toNat + 1)
theorem further_mem {rs : List Rdg} {k : Int} {g y : Part} : y ∈ furtherF rs k g ↔ (∃ p ∈ pairsF rs k g, y = g.set p.1 (some p.2)) ∧ (cnt rs y : Int) ≤ k := by
  unfold furtherF pairsF
  rw [growAll, addAll_mem]
  simp only [List.not_mem_nil, false_or, List.mem_map, decide_eq_true_eq]
  constructor
  · rintro ⟨⟨p, h1, h2⟩, h3⟩
    exact ⟨⟨p, h1, h2.symm⟩, h3⟩
  · rintro ⟨⟨p, h1, h2⟩, h3⟩
    exact ⟨⟨p, h1, h2.symm⟩, h3⟩
theorem further_len (rs : List Rdg) (k : Int) (g : Part) : (furtherF rs k g).length ≤ (k - cnt rs g).toNat + 1 := by
  unfold furtherF
  rw [growAll]
  have h := addAll_len (ok := fun x => decide ((cnt rs x : Int) ≤ k)) (((rs.filterMap (heightBy g)).take ((k - cnt rs g).toNat + 1)).map fun p => g.set p.1 (some p.2)) []
  rw [List.length_map, List.length_take] at h
  simp only [List.length_nil] at h
  omega
theorem step_mem {rs : List Rdg} {k : Int} {y : Part} : ∀ (R acc : List Part), y ∈ R.foldl (fun more g => (furtherF rs k g).foldl addNew more) acc ↔ y ∈ acc ∨ ∃ g ∈ R, y ∈ furtherF rs k g
  | [], acc => by simp
  | g :: R, acc => by
    rw [List.foldl_cons, step_mem R, addNew_fun, addAll_mem]
    constructor
    · rintro ((h | ⟨h, _⟩) | ⟨g', h1, h2⟩)
      · exact .inl h
      · exact .inr ⟨g, by simp, h⟩
      · exact .inr ⟨g', by simp [h1], h2⟩
    · rintro (h | ⟨g', h1, h2⟩)
      · exact .inl (.inl h)
      · rcases List.mem_cons.mp h1 with rfl | h1
        · exact .inl (.inr ⟨h2, rfl⟩)
        · exact .inr ⟨g', h1, h2⟩
theorem step_nodup {rs : List Rdg} {k : Int} : ∀ (R acc : List Part), acc.Nodup → (R.foldl (fun more g => (furtherF rs k g).foldl addNew more) acc).Nodup
  | [], _, h => h
  | g :: R, acc, h => step_nodup R _ (by rw [addNew_fun]; exact addAll_nodup _ _ h)
theorem step_len {rs : List Rdg} {k : Int} (hk : k ≤ 3) : ∀ (R acc : List Part), (∀ g ∈ R, (cnt rs g : Int) ≤ k) → (R.foldl (fun more g => (furtherF rs k g).foldl addNew more) acc).length ≤ acc.length + 4 * R.length
  | [], _, _ => by simp
  | g :: R, acc, h => by
    rw [List.foldl_cons]
    have h1 := step_len hk R ((furtherF rs k g).foldl addNew acc) (fun g hg => h g (by simp [hg]))
    have h2 := addAll_len (ok := fun _ : Part => true) (furtherF rs k g) acc
    rw [← addNew_fun] at h2
    have h3 := further_len rs k g
    have h4 := h g (by simp)
    rw [List.length_cons]
    omega
end K11
end

/-! ## K11Wn -/
section
set_option maxHeartbeats 4000000
/-! The worlds, plain: the program's search. -/
namespace K11
open PySem PySem.Spec PyProof.Rows L2
theorem getD_s {α : Type} {xs : List α} {i : Nat} {d : α} (h : i < xs.length) : xs[i]? = some (xs.getD i d) := by
  rw [List.getD_eq_getElem?_getD, List.getElem?_eq_getElem h]
  rfl
theorem cnt_le {rs : List Rdg} {φ : Mp} {h : List Int} (u : UnderF φ h) : (rs.filter (lkF φ)).length ≤ (lies rs h).length := by
  have c1 := count_sum (lkF φ) (badA φ h) (lieOf h) rs (fun r _ e => lk_lie u e) (fun r _ e => bad_lie u e)
  rw [lies_len]
  omega
theorem hb_new {φ : Mp} {r : Rdg} {p : Nat × Int} (h : hbF φ r = some p) : φ p.1 = none ∧ (p.1 = r.1 ∨ p.1 = r.2.1) := by
  unfold hbF at h
  cases e1 : φ r.1 with
  | none =>
    cases e2 : φ r.2.1 with
    | none => rw [e1, e2] at h; cases h
    | some y => rw [e1, e2] at h; cases h; exact ⟨e1, .inl rfl⟩
  | some x =>
    cases e2 : φ r.2.1 with
    | none => rw [e1, e2] at h; cases h; exact ⟨e2, .inr rfl⟩
    | some y => rw [e1, e2] at h; cases h
structure PartOk (N : Net) (k : Int) (s : Nat) (g : Part) : Prop where
  len : g.length = N.n
  zero : mp g 0 = some 0
  known : knownF (mp g) N.n = s + 1
  few : (cnt N.rs g : Int) ≤ k
structure RowsOk (N : Net) (k : Int) (s : Nat) (R : List Part) : Prop where
  nodup : R.Nodup
  each : ∀ g ∈ R, PartOk N k s g
  all : ∀ h, Sol N k h → ∃ g ∈ R, UnderF (mp g) h
  size : R.length ≤ 4 ^ s
theorem mp_set {g : Part} {m : Nat} {v : Int} (hm : m < g.length) (i : Nat) : mp (g.set m (some v)) i = if i = m then some v else mp g i := by
  show (g.set m (some v)).getD i none = if i = m then some v else g.getD i none
  rw [List.getD_eq_getElem?_getD, List.getD_eq_getElem?_getD, List.getElem?_set]
  by_cases e : m = i
  · subst e
    simp [hm]
  · rw [if_neg e, if_neg (fun z => e z.symm)]
theorem under_put {φ ψ : Mp} {h : List Int} {m : Nat} {v : Int} (u : UnderF φ h) (hv : v = h.getD m 0) (e : ∀ i, ψ i = if i = m then some v else φ i) : UnderF ψ h := fun i w hi => by
  rw [e i] at hi
  by_cases c : i = m
  · subst c
    rw [if_pos rfl] at hi
    cases hi
    exact hv.symm
  · rw [if_neg c] at hi
    exact u i w hi
section
variable {N : Net} {k : Int} {t : Nat}
theorem rows_zero (ok : NetOk N) (hk : 0 ≤ k) : RowsOk N k 0 (rowsF N.rs k N.n 0) := by
  have two := ok.two
  have e0 : ∀ i, i ≠ 0 → mp (some 0 :: List.replicate (N.n - 1) none) i = none := fun i hi => by
    obtain ⟨j, rfl⟩ : ∃ j, i = j + 1 := ⟨i - 1, by omega⟩
    show (some 0 :: List.replicate (N.n - 1) none : Part).getD (j + 1) none = none
    rw [List.getD_cons_succ, List.getD_eq_getElem?_getD, List.getElem?_replicate]
    split <;> rfl
  have hc : cnt N.rs (some 0 :: List.replicate (N.n - 1) none) = 0 := by
    unfold cnt
    rw [List.length_eq_zero_iff, List.filter_eq_nil_iff]
    intro r hr
    have hne := ok.ne r hr
    show ¬ lkF (mp (some 0 :: List.replicate (N.n - 1) none)) r = true
    unfold lkF
    by_cases h1 : r.1 = 0
    · rw [e0 r.2.1 (by omega)]
      cases mp (some 0 :: List.replicate (N.n - 1) none) r.1 <;> simp [lk2]
    · rw [e0 r.1 h1]
      simp [lk2]
  refine ⟨by simp [rowsF], fun g hg => ?_, fun h sol => ⟨_, List.mem_singleton.mpr rfl, fun i v hi => ?_⟩, by simp [rowsF]⟩
  · rw [List.mem_singleton.mp hg]
    refine ⟨by simp; omega, rfl, ?_, by rw [hc]; exact hk⟩
    have h1 := known_put (φ := fun _ => none) (ψ := mp (some 0 :: List.replicate (N.n - 1) none)) (m := 0) (v := 0) rfl rfl (fun i hi => e0 i hi) N.n (by omega)
    have h2 : ∀ n, knownF (fun _ => none) n = 0 := fun n => by
      unfold knownF
      rw [List.length_eq_zero_iff, List.filter_eq_nil_iff]
      intro a _
      simp
    rw [h1, h2]
  · by_cases c : i = 0
    · subst c
      cases hi
      exact sol.zero
    · rw [e0 i c] at hi
      cases hi
theorem part_step {s : Nat} {g : Part} {p : Nat × Int} {r : Rdg} (ok : NetOk N) (P : PartOk N k s g) (hr : r ∈ N.rs) (hp : heightBy g r = some p) (hc : (cnt N.rs (g.set p.1 (some p.2)) : Int) ≤ k) : PartOk N k (s + 1) (g.set p.1 (some p.2)) := by
  obtain ⟨h1, h2⟩ := hb_new (φ := mp g) hp
  have hlt : p.1 < N.n := by
    have := ok.ends r hr
    rcases h2 with h2 | h2 <;> omega
  have hlg : p.1 < g.length := by rw [P.len]; exact hlt
  have hne : p.1 ≠ 0 := fun e => by rw [e, P.zero] at h1; cases h1
  refine ⟨by rw [List.length_set]; exact P.len, ?_, ?_, hc⟩
  · rw [mp_set hlg, if_neg (fun e => hne e.symm)]
    exact P.zero
  · rw [known_put (φ := mp g) (m := p.1) (v := p.2) h1 (by rw [mp_set hlg, if_pos rfl]) (fun i hi => by rw [mp_set hlg, if_neg hi]) N.n hlt, P.known]
theorem rows_step {s : Nat} {R : List Part} (ok : NetOk N) (h3 : k ≤ 3) (mc : MinCut N t) (hk : k + 1 ≤ (t : Int)) (hs : s + 1 < N.n) (A : RowsOk N k s R) : RowsOk N k (s + 1) ((stepF N.rs k R).mergeSort leP) := by
  have hp := List.mergeSort_perm (stepF N.rs k R) leP
  have mem : ∀ y, y ∈ (stepF N.rs k R).mergeSort leP ↔ ∃ g ∈ R, y ∈ furtherF N.rs k g := fun y => by
    rw [hp.mem_iff]
    unfold stepF
    rw [step_mem]
    simp
  refine ⟨hp.symm.nodup (step_nodup R [] List.nodup_nil), fun y hy => ?_, fun h sol => ?_, ?_⟩
  · obtain ⟨g, hg, hy⟩ := (mem y).mp hy
    obtain ⟨⟨p, hp, rfl⟩, hc⟩ := further_mem.mp hy
    obtain ⟨r, hr, e⟩ := List.mem_filterMap.mp (List.mem_of_mem_take hp)
    exact part_step ok (A.each g hg) hr e hc
  · obtain ⟨g, hg, u⟩ := A.all h sol
    have P := A.each g hg
    obtain ⟨v, hv1, hv2⟩ := known_gap (φ := mp g) (n := N.n) (by rw [P.known]; exact hs)
    obtain ⟨_, p, hp, hpv⟩ := kept_one mc hk sol u (by rw [P.zero]; simp) ⟨v, hv1, hv2⟩
    obtain ⟨r, hr, e⟩ := List.mem_filterMap.mp (List.mem_of_mem_take hp)
    obtain ⟨h1, h2⟩ := hb_new e
    have hlt : p.1 < g.length := by
      have := ok.ends r hr
      rw [P.len]
      rcases h2 with h2 | h2 <;> omega
    have u2 : UnderF (mp (g.set p.1 (some p.2))) h := under_put u hpv (mp_set hlt)
    have hc : (cnt N.rs (g.set p.1 (some p.2)) : Int) ≤ k := by
      have c1 := cnt_le (rs := N.rs) u2
      have c2 := sol.few
      have : cnt N.rs (g.set p.1 (some p.2)) = (N.rs.filter (lkF (mp (g.set p.1 (some p.2))))).length := rfl
      omega
    exact ⟨_, (mem _).mpr ⟨g, hg, further_mem.mpr ⟨⟨p, hp, rfl⟩, hc⟩⟩, u2⟩
  · rw [hp.length_eq]
    have h1 := step_len (rs := N.rs) h3 R [] fun g hg => (A.each g hg).few
    have h2 := A.size
    unfold stepF
    rw [Nat.pow_succ]
    simp at h1
    omega
theorem rows_ok (ok : NetOk N) (h0 : 0 ≤ k) (h3 : k ≤ 3) (mc : MinCut N t) (hk : k + 1 ≤ (t : Int)) : ∀ s, s + 1 ≤ N.n → RowsOk N k s (rowsF N.rs k N.n s)
  | 0, _ => rows_zero ok h0
  | s + 1, h => rows_step ok h3 mc hk (by omega) (rows_ok ok h0 h3 mc hk s (by omega))
/-! ### the two orders are one -/
def tk (i : Int) : PyData := .tuple [.bool true, .int i]
theorem tk_lt : ∀ a b : List Int, a.length = b.length → PySem.W.rowLt (a.map tk) (b.map tk) = PySem.W.rowLt (a.map .int) (b.map .int)
  | [], [], _ => rfl
  | x :: a, y :: b, h => by
    have ih := tk_lt a b (by simpa using h)
    have e1 : PySem.W.rowLt ((x :: a).map tk) ((y :: b).map tk) = if PyData.eqv (tk x) (tk y) = true then PySem.W.rowLt (a.map tk) (b.map tk) else PySem.W.dataLt (tk x) (tk y) := PySem.W.dataLt_cons (by simp [tk, PySem.W.alike, PySem.W.alikeAll]) _ _
    have e2 : PySem.W.rowLt ((x :: a).map .int) ((y :: b).map .int) = if PyData.eqv (.int x) (.int y) = true then PySem.W.rowLt (a.map .int) (b.map .int) else PySem.W.dataLt (.int x) (.int y) := PySem.W.dataLt_cons (by simp [PySem.W.alike]) _ _
    rw [e1, e2, ih]
    have e3 : PyData.eqv (tk x) (tk y) = PyData.eqv (.int x) (.int y) := by simp [tk, PyData.eqv, PyData.eqvAll]
    rw [e3]
    by_cases c : PyData.eqv (.int x) (.int y) = true
    · rw [if_pos c, if_pos c]
    · rw [if_neg c, if_neg c]
      unfold tk
      rw [PySem.W.dataLt_pair (by simp [PySem.W.alike]) (by simp [PySem.W.alike]), if_pos (by simp [PyData.eqv]), if_neg c]
  | [], _ :: _, h => by simp at h
  | _ :: _, [], h => by simp at h
theorem leP_full {a b : List Int} (h : a.length = b.length) : leP (a.map some) (b.map some) = leI a b := by
  have key : ∀ c : List Int, keyD (encP (c.map some)) = .tuple (c.map tk) := fun c => by
    unfold encP keyD
    simp only
    rw [List.map_map, List.map_map]
    rfl
  unfold leP leI
  rw [PySem.W.dataLe_eq, PySem.W.dataLe_eq]
  show (!PySem.W.dataLt (keyD (encP (b.map some))) (keyD (encP (a.map some)))) = !PySem.W.dataLt (encI b) (encI a)
  rw [key, key]
  unfold encI
  rw [PySem.W.dataLt_tuple, PySem.W.dataLt_tuple]
  congr 1
  exact tk_lt b a h.symm
theorem leP_total : PySem.W.TotalLe leP := PySem.W.sortLe_total (PyProof.Rows.listOrd PyProof.Rows.itemOrd) false fun g : Part => PySem.W.keyToks (keyD (encP g))
theorem leI_total : PySem.W.TotalLe leI := PySem.W.sortLe_total (PyProof.Rows.listOrd PyProof.Rows.itemOrd) false fun g : List Int => PySem.W.keyToks (encI g)
theorem leI_eq (a b : List Int) : leI a b = !decide (b < a) := by
  unfold leI
  rw [PySem.W.dataLe_eq]
  show (!PySem.W.dataLt (encI b) (encI a)) = _
  unfold encI
  rw [PySem.W.dataLt_tuple]
  congr 1
  exact PySem.W.dataLt_ints b a
theorem leI_anti {a b : List Int} (h1 : leI a b = true) (h2 : leI b a = true) : a = b := by
  rw [leI_eq] at h1 h2
  simp only [Bool.not_eq_true', decide_eq_false_iff_not] at h1 h2
  exact List.le_antisymm (List.not_lt.mp h1) (List.not_lt.mp h2)
/-- the lists are the worlds, each once, in order -/
structure Whole (N : Net) (k : Int) (W : List (List Int)) : Prop where
  nodup : W.Nodup
  mem : ∀ h, h ∈ W ↔ Sol N k h
  up : W.Pairwise fun a b => leI a b = true
theorem Whole.uniq {W U : List (List Int)} (a : Whole N k W) (b : Whole N k U) : W = U :=
  List.Perm.eq_of_pairwise (fun x y _ _ h1 h2 => leI_anti h1 h2) a.up b.up ((List.perm_ext_iff_of_nodup a.nodup b.nodup).mpr fun h => by rw [a.mem, b.mem])
theorem full_part {n : Nat} {g : Part} (hl : g.length = n) (hk : knownF (mp g) n = n) : (g.map fun o => o.getD 0).map some = g := by
  rw [List.map_map]
  conv => rhs; rw [← List.map_id g]
  refine List.map_congr_left fun o ho => ?_
  obtain ⟨i, hi⟩ := List.getElem?_of_mem ho
  have hil := (List.getElem?_eq_some_iff.mp hi).1
  have := known_full hk i (by omega)
  have e : mp g i = o := by
    show g.getD i none = o
    rw [List.getD_eq_getElem?_getD, hi]
    rfl
  rw [e] at this
  cases o with
  | none => cases this
  | some v => rfl
theorem lie_full {φ : Mp} {h : List Int} {n : Nat} (hφ : ∀ m, m < n → φ m = some (h.getD m 0)) {r : Rdg} (hr : r.1 < n ∧ r.2.1 < n) : lkF φ r = lieOf h r := by
  unfold lkF lieOf miss
  rw [hφ _ hr.1, hφ _ hr.2]
  show (h.getD r.2.1 0 - h.getD r.1 0 != r.2.2) = _
  rw [Bool.eq_iff_iff]
  simp
  omega
theorem worlds_ok (ok : NetOk N) (h0 : 0 ≤ k) (h3 : k ≤ 3) (mc : MinCut N t) (hk : k + 1 ≤ (t : Int)) : ∃ W, Worlds N k W ∧ Whole N k W := by
  have two := ok.two
  have A := rows_ok ok h0 h3 mc hk (N.n - 1) (by omega)
  have e1 : N.n - 1 + 1 = N.n := by omega
  have hfull : ∀ g ∈ rowsF N.rs k N.n (N.n - 1), (g.map fun o => o.getD 0).map some = g := fun g hg => full_part (A.each g hg).len (by rw [(A.each g hg).known, e1])
  have hR : rowsF N.rs k N.n (N.n - 1) = ((rowsF N.rs k N.n (N.n - 1)).map fun g => g.map fun o => o.getD 0).map fun h => h.map some := by
    rw [List.map_map]
    conv => lhs; rw [← List.map_id (rowsF N.rs k N.n (N.n - 1))]
    exact List.map_congr_left fun g hg => (hfull g hg).symm
  obtain ⟨W, hW⟩ : ∃ W, W = (rowsF N.rs k N.n (N.n - 1)).map fun g => g.map fun o => o.getD 0 := ⟨_, rfl⟩
  rw [← hW] at hR
  have hlen : ∀ h ∈ W, h.length = N.n := fun h hh => by
    rw [hW] at hh
    obtain ⟨g, hg, rfl⟩ := List.mem_map.mp hh
    rw [List.length_map]
    exact (A.each g hg).len
  have hmem : ∀ h, h ∈ W → h.map some ∈ rowsF N.rs k N.n (N.n - 1) := fun h hh => by
    rw [hR]
    exact List.mem_map.mpr ⟨h, hh, rfl⟩
  have inj : ∀ a b : List Int, a.map some = b.map some → a = b := fun a b e => by
    have := congrArg (List.map fun o : Option Int => o.getD 0) e
    rw [List.map_map, List.map_map] at this
    have h2 : ∀ c : List Int, c.map ((fun o : Option Int => o.getD 0) ∘ some) = c := fun c => by
      conv => rhs; rw [← List.map_id c]
      rfl
    rw [h2, h2] at this
    exact this
  have mpf : ∀ (h : List Int) (m : Nat), m < h.length → mp (h.map some) m = some (h.getD m 0) := fun h m hm => by
    show (h.map some).getD m none = _
    rw [List.getD_eq_getElem?_getD, List.getElem?_map, getD_s hm]
    rfl
  refine ⟨W, ⟨hR, hlen⟩, ⟨?_, fun h => ⟨fun hh => ?_, fun sol => ?_⟩, ?_⟩⟩
  · have := A.nodup
    rw [hR] at this
    exact (List.pairwise_map.mp this).imp fun hne e => hne (by rw [e])
  · have P := A.each _ (hmem h hh)
    have hl := hlen h hh
    refine ⟨hl, ?_, ?_⟩
    · have := P.zero
      rw [mpf h 0 (by omega)] at this
      exact Option.some.inj this
    · have := P.few
      rw [lies_len]
      have e : cnt N.rs (h.map some) = (N.rs.filter (lieOf h)).length := by
        unfold cnt
        congr 1
        exact List.filter_congr fun r hr => lie_full (φ := mp (h.map some)) (fun m hm => mpf h m (by omega)) (ok.ends r hr)
      omega
  · obtain ⟨g, hg, u⟩ := A.all h sol
    have hl := (A.each g hg).len
    have : (g.map fun o => o.getD 0) = h := by
      apply List.ext_getElem?
      intro i
      rw [List.getElem?_map]
      by_cases c : i < N.n
      · have hs := known_full (by rw [(A.each g hg).known, e1]) i c
        obtain ⟨v, hv⟩ := Option.isSome_iff_exists.mp hs
        have hv2 : g.getD i none = some v := hv
        rw [getD_s (xs := g) (d := none) (by omega), hv2, getD_s (xs := h) (d := 0) (by rw [sol.len]; exact c), u i v hv]
        rfl
      · rw [List.getElem?_eq_none (by omega), List.getElem?_eq_none (by rw [sol.len]; omega)]
        rfl
    rw [← this, hW]
    exact List.mem_map.mpr ⟨g, hg, rfl⟩
  · have hs : (rowsF N.rs k N.n (N.n - 1)).Pairwise fun a b => leP a b = true := by
      obtain ⟨s, hs⟩ : ∃ s, N.n - 1 = s + 1 := ⟨N.n - 2, by omega⟩
      rw [hs]
      exact PySem.W.sort_pairwise (le := leP) leP_total (stepF N.rs k (rowsF N.rs k N.n s))
    rw [hR] at hs
    refine (List.pairwise_map.mp hs).imp_of_mem fun {a b} ha hb h => ?_
    rw [leP_full (by rw [hlen a ha, hlen b hb])] at h
    exact h
end
end K11
end

/-! ## K11Wr -/
section
set_option maxHeartbeats 4000000
/-! The worlds, plain: the law's search. -/
namespace K11
open PySem PySem.Spec PyProof.Rows L2
theorem rget_app {row : Row} {p : Nat × Int} (h : rget row p.1 = none) (i : Nat) : rget (row ++ [p]) i = if i = p.1 then some p.2 else rget row i := by
  unfold rget at h ⊢
  rw [List.lookup_append]
  by_cases e : i = p.1
  · subst e
    rw [h, if_pos rfl]
    show List.lookup p.1 [p] = _
    obtain ⟨m, v⟩ := p
    simp [List.lookup]
  · rw [if_neg e]
    obtain ⟨m, v⟩ := p
    have : List.lookup i [(m, v)] = none := by
      have e : (i == m) = false := by simpa using (show i ≠ m from e)
      rw [List.lookup_cons, e]
      rfl
    rw [this]
    cases List.lookup i row <;> rfl
theorem fewLie_eq (row : Row) (r : Rdg) : fewLie row r = lkF (rget row) r := by
  unfold fewLie lkF
  cases rget row r.1 with
  | none => cases rget row r.2.1 <;> rfl
  | some x =>
    cases rget row r.2.1 with
    | none => rfl
    | some y =>
      show (r.2.2 - y + x != 0) = (y - x != r.2.2)
      rw [Bool.eq_iff_iff]
      simp
      omega
theorem fewN_eq (rs : List Rdg) (row : Row) : fewN rs row = (rs.filter (lkF (rget row))).length := by
  unfold fewN
  congr 1
  exact List.filter_congr fun r _ => fewLie_eq row r
structure RowOk (N : Net) (k : Int) (s : Nat) (row : Row) : Prop where
  len : row.length = s + 1
  own : ∀ p ∈ row, rget row p.1 = some p.2
  lt : ∀ p ∈ row, p.1 < N.n
  zero : rget row 0 = some 0
  known : knownF (rget row) N.n = s + 1
  few : (fewN N.rs row : Int) ≤ k
def Good (N : Net) (k : Int) (s : Nat) (R : List Row) : Prop := (∀ row ∈ R, RowOk N k s row) ∧ R.Pairwise fun a b => rowEq a b = false
section
variable {N : Net} {k : Int} {t s : Nat}
theorem row_step {row : Row} {p : Nat × Int} {r : Rdg} (ok : NetOk N) (P : RowOk N k s row) (hr : r ∈ N.rs) (hp : growR row r = some p) (hc : (fewN N.rs (row ++ [p]) : Int) ≤ k) : RowOk N k (s + 1) (row ++ [p]) := by
  obtain ⟨h1, h2⟩ := hb_new (φ := rget row) hp
  have hlt : p.1 < N.n := by
    have := ok.ends r hr
    rcases h2 with h2 | h2 <;> omega
  have hne : p.1 ≠ 0 := fun e => by rw [e, P.zero] at h1; cases h1
  refine ⟨by rw [List.length_append, P.len]; rfl, fun q hq => ?_, fun q hq => ?_, ?_, ?_, hc⟩
  · rcases List.mem_append.mp hq with hq | hq
    · rw [rget_app h1, if_neg (fun e => by have := P.own q hq; rw [e, h1] at this; cases this)]
      exact P.own q hq
    · rw [List.mem_singleton.mp hq, rget_app h1, if_pos rfl]
  · rcases List.mem_append.mp hq with hq | hq
    · exact P.lt q hq
    · rw [List.mem_singleton.mp hq]; exact hlt
  · rw [rget_app h1, if_neg (fun e => hne e.symm)]
    exact P.zero
  · rw [known_put (φ := rget row) (m := p.1) (v := p.2) h1 (by rw [rget_app h1, if_pos rfl]) (fun i hi => by rw [rget_app h1, if_neg hi]) N.n hlt, P.known]
theorem lookup_mem {row : Row} {i : Nat} {v : Int} (h : rget row i = some v) : (i, v) ∈ row := by
  unfold rget at h
  induction row with
  | nil => cases h
  | cons q row ih =>
    obtain ⟨m, w⟩ := q
    rw [List.lookup_cons] at h
    cases e : i == m with
    | true =>
      rw [e] at h
      cases h
      rw [beq_iff_eq] at e
      subst e
      simp
    | false =>
      rw [e] at h
      exact List.mem_cons_of_mem _ (ih h)
theorem try_all {row : Row} {r : Rdg} {more : List Row} (ok : NetOk N) (P : RowOk N k s row) (hr : r ∈ N.rs) (G : Good N k (s + 1) more) :
    Good N k (s + 1) (tryR N.rs k row more r) ∧ (∀ q ∈ more, q ∈ tryR N.rs k row more r) ∧ (tryR N.rs k row more r).length ≤ more.length + 1 ∧
    ∀ h p, Sol N k h → UnderF (rget row) h → growR row r = some p → p.2 = h.getD p.1 0 → ∃ q ∈ tryR N.rs k row more r, UnderF (rget q) h := by
  unfold tryR
  cases e : growR row r with
  | none => exact ⟨G, fun q hq => hq, by simp, fun h p _ _ h1 => by cases h1⟩
  | some p =>
    simp only
    obtain ⟨h1, h2⟩ := hb_new (φ := rget row) e
    have under : ∀ h, Sol N k h → UnderF (rget row) h → p.2 = h.getD p.1 0 → UnderF (rget (row ++ [p])) h ∧ (fewN N.rs (row ++ [p]) : Int) ≤ k := fun h sol u hv => by
      have u2 := under_put u hv (rget_app h1)
      refine ⟨u2, ?_⟩
      have c1 := cnt_le (rs := N.rs) u2
      have c2 := sol.few
      rw [fewN_eq]
      omega
    by_cases c : (!more.any (fun q => rowEq q (row ++ [p])) && decide ((fewN N.rs (row ++ [p]) : Int) ≤ k)) = true
    · rw [if_pos c]
      rw [Bool.and_eq_true] at c
      obtain ⟨c1, c2⟩ := c
      have c2 := of_decide_eq_true c2
      refine ⟨⟨fun q hq => ?_, ?_⟩, fun q hq => by simp [hq], by simp, fun h p' sol u h3 hv => ?_⟩
      · rcases List.mem_append.mp hq with hq | hq
        · exact G.1 q hq
        · rw [List.mem_singleton.mp hq]
          exact row_step ok P hr e c2
      · refine List.pairwise_append.mpr ⟨G.2, by simp, fun a ha b hb => ?_⟩
        rw [List.mem_singleton.mp hb]
        have c1 : more.any (fun q => rowEq q (row ++ [p])) = false := by simpa using c1
        rw [List.any_eq_false] at c1
        have := c1 a ha
        simpa using this
      · cases h3
        exact ⟨_, by simp, (under h sol u hv).1⟩
    · rw [if_neg c]
      refine ⟨G, fun q hq => hq, by omega, fun h p' sol u h3 hv => ?_⟩
      cases h3
      obtain ⟨u2, hf⟩ := under h sol u hv
      have : more.any (fun q => rowEq q (row ++ [p])) = true := by
        cases ha : more.any (fun q => rowEq q (row ++ [p])) with
        | true => rfl
        | false => rw [ha, decide_eq_true hf] at c; exact (c rfl).elim
      obtain ⟨q, hq, he⟩ := List.any_eq_true.mp this
      refine ⟨q, hq, fun i v hi => ?_⟩
      unfold rowEq at he
      rw [Bool.and_eq_true, List.all_eq_true] at he
      have := of_decide_eq_true (he.2 _ (lookup_mem hi))
      exact u2 i v this
theorem inner_all {row : Row} (ok : NetOk N) (P : RowOk N k s row) : ∀ (rs : List Rdg) (more : List Row), (∀ r ∈ rs, r ∈ N.rs) → Good N k (s + 1) more →
    Good N k (s + 1) (rs.foldl (tryR N.rs k row) more) ∧ (∀ q ∈ more, q ∈ rs.foldl (tryR N.rs k row) more) ∧ (rs.foldl (tryR N.rs k row) more).length ≤ more.length + rs.length ∧
    ∀ h r p, r ∈ rs → Sol N k h → UnderF (rget row) h → growR row r = some p → p.2 = h.getD p.1 0 → ∃ q ∈ rs.foldl (tryR N.rs k row) more, UnderF (rget q) h
  | [], more, _, G => ⟨G, fun q hq => hq, by simp, fun h r p hr => by cases hr⟩
  | r :: rs, more, hs, G => by
    obtain ⟨a1, a2, a3, a4⟩ := try_all ok P (hs r (by simp)) G
    obtain ⟨b1, b2, b3, b4⟩ := inner_all ok P rs (tryR N.rs k row more r) (fun r hr => hs r (by simp [hr])) a1
    refine ⟨b1, fun q hq => b2 q (a2 q hq), ?_, fun h r' p hr sol u e hv => ?_⟩
    · rw [List.foldl_cons, List.length_cons]
      omega
    · rcases List.mem_cons.mp hr with rfl | hr
      · obtain ⟨q, h1, h2⟩ := a4 h p sol u e hv
        exact ⟨q, b2 q h1, h2⟩
      · exact b4 h r' p hr sol u e hv
theorem outer_all (ok : NetOk N) : ∀ (R more : List Row), (∀ row ∈ R, RowOk N k s row) → Good N k (s + 1) more →
    Good N k (s + 1) (R.foldl (fun more row => N.rs.foldl (tryR N.rs k row) more) more) ∧ (∀ q ∈ more, q ∈ R.foldl (fun more row => N.rs.foldl (tryR N.rs k row) more) more) ∧
    (R.foldl (fun more row => N.rs.foldl (tryR N.rs k row) more) more).length ≤ more.length + 13 * R.length ∧
    ∀ h row r p, row ∈ R → r ∈ N.rs → Sol N k h → UnderF (rget row) h → growR row r = some p → p.2 = h.getD p.1 0 → ∃ q ∈ R.foldl (fun more row => N.rs.foldl (tryR N.rs k row) more) more, UnderF (rget q) h
  | [], more, _, G => ⟨G, fun q hq => hq, by simp, fun h row r p hr => by cases hr⟩
  | row :: R, more, hs, G => by
    have few := ok.few
    obtain ⟨a1, a2, a3, a4⟩ := inner_all ok (hs row (by simp)) N.rs more (fun _ h => h) G
    obtain ⟨b1, b2, b3, b4⟩ := outer_all ok R (N.rs.foldl (tryR N.rs k row) more) (fun r hr => hs r (by simp [hr])) a1
    refine ⟨b1, fun q hq => b2 q (a2 q hq), ?_, fun h row' r p hr hrs sol u e hv => ?_⟩
    · rw [List.foldl_cons, List.length_cons]
      omega
    · rcases List.mem_cons.mp hr with rfl | hr
      · obtain ⟨q, h1, h2⟩ := a4 h r p hrs sol u e hv
        exact ⟨q, b2 q h1, h2⟩
      · exact b4 h row' r p hr hrs sol u e hv
structure LawOk (N : Net) (k : Int) (s : Nat) (R : List Row) : Prop where
  good : Good N k s R
  all : ∀ h, Sol N k h → ∃ row ∈ R, UnderF (rget row) h
  size : R.length ≤ 13 ^ s
theorem law_zero (ok : NetOk N) (hk : 0 ≤ k) : LawOk N k 0 (rowsR N.rs k 0) := by
  have two := ok.two
  have e0 : ∀ i, i ≠ 0 → rget [(0, 0)] i = none := fun i hi => by
    unfold rget
    have e : (i == 0) = false := by simpa using hi
    rw [List.lookup_cons, e]
    rfl
  have hc : fewN N.rs [(0, 0)] = 0 := by
    rw [fewN_eq, List.length_eq_zero_iff, List.filter_eq_nil_iff]
    intro r hr
    have hne := ok.ne r hr
    unfold lkF
    by_cases h1 : r.1 = 0
    · rw [e0 r.2.1 (by omega)]
      cases rget [(0, 0)] r.1 <;> simp [lk2]
    · rw [e0 r.1 h1]
      simp [lk2]
  refine ⟨⟨fun row hrow => ?_, by simp [rowsR]⟩, fun h sol => ⟨_, List.mem_singleton.mpr rfl, fun i v hi => ?_⟩, by simp [rowsR]⟩
  · rw [List.mem_singleton.mp hrow]
    refine ⟨rfl, fun p hp => by rw [List.mem_singleton.mp hp]; rfl, fun p hp => by rw [List.mem_singleton.mp hp]; show 0 < N.n; omega, rfl, ?_, by rw [hc]; exact hk⟩
    have h1 := known_put (φ := fun _ => none) (ψ := rget [(0, 0)]) (m := 0) (v := 0) rfl rfl (fun i hi => e0 i hi) N.n (by omega)
    have h2 : ∀ n, knownF (fun _ => none) n = 0 := fun n => by
      unfold knownF
      rw [List.length_eq_zero_iff, List.filter_eq_nil_iff]
      intro a _
      simp
    rw [h1, h2]
  · by_cases c : i = 0
    · subst c
      cases hi
      exact sol.zero
    · rw [e0 i c] at hi
      cases hi
theorem law_step {R : List Row} (ok : NetOk N) (mc : MinCut N t) (hk : k + 1 ≤ (t : Int)) (hs : s + 1 < N.n) (A : LawOk N k s R) : LawOk N k (s + 1) (stepR N.rs k R) := by
  obtain ⟨b1, _, b3, b4⟩ := outer_all (k := k) (s := s) ok R [] A.good.1 ⟨fun _ h => (by cases h), .nil⟩
  refine ⟨b1, fun h sol => ?_, ?_⟩
  · obtain ⟨row, hrow, u⟩ := A.all h sol
    have P := A.good.1 row hrow
    obtain ⟨v, hv1, hv2⟩ := known_gap (φ := rget row) (n := N.n) (by rw [P.known]; exact hs)
    obtain ⟨_, p, hp, hpv⟩ := kept_one mc hk sol u (by rw [P.zero]; simp) ⟨v, hv1, hv2⟩
    obtain ⟨r, hr, e⟩ := List.mem_filterMap.mp (List.mem_of_mem_take hp)
    exact b4 h row r p hrow hr sol u e hpv
  · have h2 := A.size
    unfold stepR
    rw [Nat.pow_succ]
    simp at b3
    omega
theorem law_rows (ok : NetOk N) (h0 : 0 ≤ k) (mc : MinCut N t) (hk : k + 1 ≤ (t : Int)) : ∀ s, s + 1 ≤ N.n → LawOk N k s (rowsR N.rs k s)
  | 0, _ => law_zero ok h0
  | s + 1, h => law_step ok mc hk (by omega) (law_rows ok h0 mc hk s (by omega))
def fullR (n : Nat) (row : Row) : List Int := (List.range n).map fun m => (rget row m).getD 0
theorem fullR_get {n m : Nat} (row : Row) (h : m < n) : (fullR n row).getD m 0 = (rget row m).getD 0 := by
  unfold fullR
  rw [List.getD_eq_getElem?_getD, List.getElem?_map, List.getElem?_range h]
  rfl
theorem law_ok (ok : NetOk N) (h0 : 0 ≤ k) (mc : MinCut N t) (hk : k + 1 ≤ (t : Int)) : Whole N k (lawWorlds N.rs k N.n) ∧ ∀ row ∈ rowsR N.rs k (N.n - 1), ∀ m, m < N.n → (rget row m).isSome = true := by
  have two := ok.two
  have e1 : N.n - 1 + 1 = N.n := by omega
  have A := law_rows ok h0 mc hk (N.n - 1) (by omega)
  have som : ∀ row ∈ rowsR N.rs k (N.n - 1), ∀ m, m < N.n → (rget row m).isSome = true := fun row hrow => known_full (by rw [(A.good.1 row hrow).known, e1])
  have fulls : ∀ row ∈ rowsR N.rs k (N.n - 1), ∀ m, m < N.n → rget row m = some ((fullR N.n row).getD m 0) := fun row hrow m hm => by
    rw [fullR_get row hm]
    obtain ⟨v, hv⟩ := Option.isSome_iff_exists.mp (som row hrow m hm)
    rw [hv]
    rfl
  have hp : (lawWorlds N.rs k N.n).Perm ((rowsR N.rs k (N.n - 1)).map (fullR N.n)) := List.mergeSort_perm _ _
  refine ⟨⟨hp.symm.nodup ?_, fun h => ?_, PySem.W.sort_pairwise (le := leI) leI_total _⟩, som⟩
  · refine List.pairwise_map.mpr (A.good.2.imp_of_mem fun {a b} ha hb hne e => ?_)
    have hab : ∀ m, m < N.n → rget b m = rget a m := fun m hm => by rw [fulls a ha m hm, fulls b hb m hm, e]
    have Pa := A.good.1 a ha
    have Pb := A.good.1 b hb
    have : rowEq a b = true := by
      unfold rowEq
      rw [Bool.and_eq_true, List.all_eq_true]
      refine ⟨by rw [Pa.len, Pb.len]; simp, fun p hp => decide_eq_true ?_⟩
      rw [hab _ (Pa.lt p hp)]
      exact Pa.own p hp
    rw [this] at hne
    cases hne
  · rw [hp.mem_iff]
    constructor
    · intro hh
      obtain ⟨row, hrow, rfl⟩ := List.mem_map.mp hh
      have P := A.good.1 row hrow
      have hl : (fullR N.n row).length = N.n := by unfold fullR; simp
      refine ⟨hl, ?_, ?_⟩
      · have := fulls row hrow 0 (by omega)
        rw [P.zero] at this
        exact (Option.some.inj this).symm
      · have := P.few
        rw [lies_len]
        rw [fewN_eq] at this
        have e : (N.rs.filter (lkF (rget row))).length = (N.rs.filter (lieOf (fullR N.n row))).length := by
          congr 1
          exact List.filter_congr fun r hr => lie_full (φ := rget row) (fun m hm => fulls row hrow m hm) (ok.ends r hr)
        omega
    · intro sol
      obtain ⟨row, hrow, u⟩ := A.all h sol
      refine List.mem_map.mpr ⟨row, hrow, ?_⟩
      apply List.ext_getElem?
      intro i
      by_cases c : i < N.n
      · have hv := fulls row hrow i c
        rw [getD_s (xs := fullR N.n row) (d := 0) (by unfold fullR; simpa using c), getD_s (xs := h) (d := 0) (by rw [sol.len]; exact c), u i _ hv]
      · rw [List.getElem?_eq_none (by unfold fullR; simp; omega), List.getElem?_eq_none (by rw [sol.len]; omega)]
end
end K11
end

/-! ## K11RdK -/
section
set_option maxHeartbeats 4000000
/-! What the readings of the worlds' defs come to. -/
namespace K11
open PySem PySem.Spec PyProof.Rows L2
section
variable {K : PySem.W.Frag} {M : Addr → Prop} {σ : L2.St} {H H' H0 H1 H2 : Hp} {ta tb tc te tl : TE} {ds es : List PyData} {d dz : PyData} {D : Ends} {tu tw tz : TS} {t : TT} {Q : VK} {l p : Addr}
theorem eqvO (a b : Option Int) : PyData.eqv (encO a) (encO b) = (a == b) := by
  cases a with
  | none => cases b with
    | none => rfl
    | some y => rfl
  | some x => cases b with
    | none => rfl
    | some y =>
      show PyData.eqv (.int x) (.int y) = _
      simp only [PyData.eqv]
      rfl
theorem eqvAllO : ∀ a b : Part, PyData.eqvAll (a.map encO) (b.map encO) = (a == b)
  | [], [] => rfl
  | [], _ :: _ => rfl
  | _ :: _, [] => rfl
  | x :: a, y :: b => by
    rw [List.map_cons, List.map_cons, PyData.eqvAll, eqvO, eqvAllO a b]
    rfl
theorem eqvP (a b : Part) : PyData.eqv (encP a) (encP b) = (a == b) := by
  unfold encP
  rw [PyData.eqv]
  exact eqvAllO a b
theorem any_part (found : List Part) (y : Part) : ((found.map encP).any fun z => PyData.eqv z (encP y)) = found.contains y := by
  rw [List.any_map]
  induction found with
  | nil => rfl
  | cons a f ih =>
    rw [List.any_cons, List.contains_cons, ih]
    congr 1
    show PyData.eqv (encP a) (encP y) = _
    rw [eqvP, Bool.eq_iff_iff, beq_iff_eq, beq_iff_eq]
    exact eq_comm
theorem encO_lay (o : Option Int) : (encO o).canLay0 = true ∧ (encO o).depth = 0 := by cases o <;> exact ⟨rfl, rfl⟩
theorem encP_lay (g : Part) : (encP g).canLay0 = true ∧ (encP g).depth ≤ 1 := by
  unfold encP
  refine ⟨?_, ?_⟩
  · rw [PyData.canLay0]
    exact lay_all fun d hd => by
      obtain ⟨o, _, rfl⟩ := List.mem_map.mp hd
      exact (encO_lay o).1
  · rw [PyData.depth]
    have : PyData.depthAll (g.map encO) ≤ 0 := depth_all fun d hd => by
      obtain ⟨o, _, rfl⟩ := List.mem_map.mp hd
      rw [(encO_lay o).2]
      exact Nat.le_refl _
    omega
theorem shaped_P (g : Part) : SeqAt.shaped (encP g) = true := by
  have h := encP_lay g
  unfold SeqAt.shaped
  rw [h.1, Bool.true_and]
  exact decide_eq_true (by omega)
theorem shaped_Ps (gs : List Part) : SeqAt.shaped (.list (gs.map encP)) = true := shaped_list
  (fun d hd => by obtain ⟨g, _, rfl⟩ := List.mem_map.mp hd; exact (encP_lay g).1) (fun d hd => by obtain ⟨g, _, rfl⟩ := List.mem_map.mp hd; have := (encP_lay g).2; omega)
theorem noL_Ps (gs : List Part) : noLAll (gs.map encP) = true := noLAll_map _ _ fun g _ => noL_encP g
theorem told_some (rs : List Rdg) (g : Part) : ((rs.map (heightBy g)).filter fun o => !isNone (encHB o)).map encHB = (rs.filterMap (heightBy g)).map encRow := by
  induction rs with
  | nil => rfl
  | cons r rs ih =>
    rw [List.map_cons, List.filter_cons, List.filterMap_cons]
    cases e : heightBy g r with
    | none => exact ih
    | some p =>
      show encHB (some p) :: _ = encRow p :: _
      rw [ih]
      rfl
theorem set_enc {g : Part} {m : Nat} {v : Int} (h : m < g.length) : (g.map encO).take m ++ [.int v] ++ (g.map encO).drop (m + 1) = (g.set m (some v)).map encO := by
  rw [List.map_set, List.set_eq_take_append_cons_drop, if_pos (by simpa using h)]
  simp [encO]
theorem rd_further (vs : List V) (H : Hp) (Q : VK) (E : XK) (h : sp_further K vs H Q E) : t_further K { nx := fun _ H' => Q .non H', rt := Q } (start N_further vs) H := by
  obtain ⟨N, k, g, hd, ok, hg, hc, hk3, q⟩ := h
  obtain ⟨x, y, z, rfl, dx, dy, dz⟩ := dp3 hd
  have few := ok.few
  have five := ok.five
  refine q_asg (K := K) (d := .list ((N.rs.map (heightBy g)).map encHB)) (EvN.dd (EvN.to (en_lcM (M := noM) N.rs encR (ei_tup (ev_rs (ev_var rfl dx)) (rs_noL _)) (by simp) (fun i b hb => rs_item hb) (fun r => encHB (heightBy g r)) (by omega) (fun r _ => by cases heightBy g r <;> rfl)
    fun r hr H1 w e1 dw Q q => tg1 <| q _ H1 (Same.refl H1) rfl (ev_cal (ea2 (ev_var rfl dw) (ev_var rfl (Dp.mono e1 _ _ dz))) fun vs H2 Q e2 dv qq => ⟨r, g, dv, by rw [hg]; exact (ok.ends r hr).1, by rw [hg]; exact (ok.ends r hr).2, qq⟩)) (by rw [List.map_map]; rfl))) fun tv H1 e1 dt => ?_
  refine q_asg (K := K) (d := .int (k - (cnt N.rs g : Nat))) (ev_minus (ev_var rfl (Dp.mono e1 _ _ dy)) (ev_cal (ea2 (ev_var rfl (Dp.mono e1 _ _ dx)) (ev_var rfl (Dp.mono e1 _ _ dz))) fun vs H2 Q e2 dv qq => ⟨N, g, dv, ok, hg, qq⟩)) fun lv H2 e2 dl => ?_
  cases dp_int dl
  refine q_asgN (K := K) (ds := []) (en_lst (by show 0 ≤ 1000; decide) ea_nil) fun fl H3 e3 hf2 fa3 => ?_
  have s3 := (e1.trans e2).trans e3
  have hf0 : H fl = none := fresh_back (e1.trans e2) hf2
  have hpairs : (pairsF N.rs k g).length ≤ 4 := by
    unfold pairsF
    rw [List.length_take]
    omega
  have hw : EvN K (tSl (rSlL K) (tLc (iList K (tVar 3)) (gName 7) (tTest (tOp rNotN (tVar 7) (tC .non))) (tVar 7) [7]) tNoPart (tPart (tOp rPlus (tVar 5) (tC (.int 1))))) [some x, some y, some z, some tv, none, some (.int (k - (cnt N.rs g : Nat))), some (.ref fl), none, none] H3 ((pairsF N.rs k g).map encRow) := by
    refine EvN.to (en_slTo (n := (k - cnt N.rs g).toNat + 1) (EvN.dd (EvN.to (en_lcB (M := noM) (N.rs.map (heightBy g)) encHB (ei_lst (ev_var rfl (Dp.mono (e2.trans e3) _ _ dt)) (noLAll_map _ _ fun o _ => by cases o <;> rfl)) (by simp) (fun i b hb => getD_of (get_map encHB hb)) (fun o => !isNone (encHB o)) encHB (by simp; omega) (fun o _ _ => by cases o <;> rfl)
      fun o ho H4 w e4 dw Q q => tg1 <| q _ H4 (Same.refl H4) rfl (et_test (ev_notN (ev_var rfl dw))) fun _ => ev_var rfl dw) (told_some N.rs g))) (EvD.to (ev_plus (ev_var rfl (.int _)) ev_int) (by congr 1; omega))) ?_
    unfold pairsF
    rw [List.map_take]
  refine q_for (K := K) (M := oneM fl) (ei_lstN hw (noLAll_map _ _ fun _ _ => rfl) (fun l hl => by rw [show l = fl from hl]; obtain ⟨zs, hz⟩ := fa3.some; rw [hz]; simp)) (fun i σ' H' => ∃ (a b : Option V), σ' = [some x, some y, some z, some tv, none, some (.int (k - (cnt N.rs g : Nat))), some (.ref fl), a, b] ∧ Same H H' ∧ LstAt K H' fl ((((pairsF N.rs k g).take i).foldl (growF N.rs k g) []).map encP))
    (fun H4 e4 => ⟨none, none, rfl, s3.trans e4, fa3.mono e4⟩) (fun i σ' H4 H5 w hi p e5 dw Nx nx => ?_) fun σ' H4 p => ?_
  · obtain ⟨a, b, rfl, s4, fa4⟩ := p
    have hi : i < (pairsF N.rs k g).length := by simpa using hi
    obtain ⟨pr, hpr⟩ : ∃ pr, (pairsF N.rs k g)[i]? = some pr := ⟨_, List.getElem?_eq_getElem hi⟩
    rw [getD_of (get_map encRow hpr)] at dw
    have hpm : pr.1 < g.length := by
      obtain ⟨r, hr, e⟩ := List.mem_filterMap.mp (List.mem_of_mem_take (List.mem_of_getElem? hpr))
      have h2 := (hb_new (φ := mp g) e).2
      have := ok.ends r hr
      rcases h2 with h2 | h2 <;> omega
    have s5 := s4.trans e5
    have fa5 := fa4.mono e5
    refine tg1 ?_
    generalize hfo : ((pairsF N.rs k g).take i).foldl (growF N.rs k g) [] = found at fa5
    have hfl : found.length ≤ 4 := by
      rw [← hfo, growAll]
      have := addAll_len (ok := fun x => decide ((cnt N.rs x : Int) ≤ k)) (((pairsF N.rs k g).take i).map fun p => g.set p.1 (some p.2)) []
      rw [List.length_map, List.length_take] at this
      simp only [List.length_nil] at this
      omega
    have z100 : 100 ≤ sizeLine := by decide
    have ez : ∀ σ : L2.St, σ[2]? = some (some z) → EvD K (tVar 2) σ H5 (encP g) := fun σ h => ev_var h (Dp.mono s5 _ _ dz)
    refine q_asg (K := K) (d := encP (g.set pr.1 (some pr.2))) (EvD.to (ev_catT (by simp; omega) (ev_catT (by simp; omega) (ev_slTto (n := pr.1) (ez _ rfl) (ev_ixT (n := 0) (ev_var rfl dw) ev_int rfl)) (ev_tup (ds := [.int pr.2]) (by show 1 ≤ 1000; decide) (ea1 (ev_ixT (n := 1) (ev_var rfl dw) ev_int rfl)))) (ev_slTfrom (n := pr.1 + 1) (ez _ rfl) (EvD.to (ev_plus (ev_ixT (n := 0) (ev_var rfl dw) ev_int rfl) ev_int) rfl))) (by unfold encP; rw [← set_enc hpm])) fun v H6 e6 dv => ?_
    have s6 := s5.trans e6
    have fa6 := fa5.mono e6
    have hstep : growF N.rs k g found pr = ((pairsF N.rs k g).take (i + 1)).foldl (growF N.rs k g) [] := by
      rw [take_more hpr, List.foldl_append, hfo]
      rfl
    refine s_when (b := !found.contains (g.set pr.1 (some pr.2)) && decide ((cnt N.rs (g.set pr.1 (some pr.2)) : Int) ≤ k)) (et_and (et_test (EvD.to (ev_notInD (K := K) (shaped_P _) (shaped_Ps found) (ev_var rfl dv) (ev_var rfl fa6.dp)) (by rw [any_part]))) fun _ => et_test (ev_le (K := K) (ev_cal (ea2 (ev_var rfl (Dp.mono s6 _ _ dx)) (ev_var rfl dv)) fun vs H7 Q e7 dv qq => ⟨N, _, dv, ok, by rw [List.length_set]; exact hg, qq⟩) (ev_var rfl (Dp.mono s6 _ _ dy)))) (fun hb H7 e7 => ?_) fun hb H7 e7 => ?_
    · refine s_app (K := K) (l := fl) (d := encP (g.set pr.1 (some pr.2))) rfl (fa6.mono e7) (noL_Ps found) (noL_encP _) (ev_var rfl (Dp.mono e7 _ _ dv)) (by simp; omega) fun H8 b8 fa8 => ?_
      refine nx _ _ ((same_butM (e6.trans e7)).trans (But.butM b8 rfl (fa6.mono e7).some)) ⟨_, _, rfl, But.mut (s6.trans e7) hf0 b8, ?_⟩
      rw [← hstep]
      unfold growF
      rw [if_pos hb, List.map_append]
      exact fa8
    · refine nx _ _ (same_butM (e6.trans e7)) ⟨_, _, rfl, s6.trans e7, ?_⟩
      rw [← hstep]
      unfold growF
      rw [if_neg (by rw [hb]; decide)]
      exact fa6.mono e7
  · obtain ⟨a, b, rfl, s4, fa4⟩ := p
    rw [List.length_map, List.take_length] at fa4
    exact ⟨_, rfl, q fl H4 s4 hf0 fa4⟩
theorem ev_calX {sp : Sp} {E : XK} {ta : TA} (ha : EvA K ta σ H ds) (h : ∀ vs H1 (Q : VK), Same H H1 → DpAll K H1 vs ds → Ret K H1 dz Q → sp vs H1 Q E) : EvD K (tCal sp E ta) σ H dz := fun H1 e Q q =>
  ha H1 e _ fun vs H2 e2 dv => h vs H2 Q (e.trans e2) dv fun v H3 e3 d3 => q v H3 (e2.trans e3) d3
theorem en_cal {sp : Sp} {ta : TA} (ha : EvA K ta σ H ds) (h : ∀ vs H1 (Q : VK), Same H H1 → DpAll K H1 vs ds → RetN K H1 es Q → sp vs H1 Q E0) : EvN K (tCal sp E0 ta) σ H es := fun H1 e Q q =>
  ha H1 e _ fun vs H2 e2 dv => h vs H2 Q (e.trans e2) dv fun p H3 e3 hp d3 => q p H3 (e2.trans e3) (fresh_back e2 hp) d3
theorem d_c (h : te σ H fun _ H1 => tz D σ H1) : tSeq (tDrop te) tz D σ H := h
theorem c_cal {sp : Sp} {E : XK} {ta : TA} (h : ta σ H fun vs H1 => sp vs H1 Q E) : tCal sp E ta σ H Q := h
theorem flat_one (n : Nat) (d : PyData) : (List.replicate n [d]).flatten = List.replicate n d := List.flatten_replicate_singleton
theorem ev_rep1 {n : Nat} (hd : EvD K te σ H d) (hb : EvD K tb σ H (.int (n : Int))) (hz : n ≤ 1000) : EvD K (tOp (rRepA K) (tTup (tCons te tNil)) tb) σ H (.tuple (List.replicate n d)) :=
  ev_op (ev_tup (ds := [d]) (by show 1 ≤ 1000; decide) (ea1 hd)) hb fun x y H1 _ dx dy Q q => by
    obtain ⟨a, xs, rfl, hs, hdx⟩ := dp_tup dx
    cases dp_int dy
    have hl := dpAll_len hdx
    refine ⟨a, (n : Int), xs, rfl, rfl, hs, by omega, by omega, by rw [hl]; show 1 ≤ 1000; decide, fun h => ?_, fun h1 h2 p hp => ?_⟩
    · rcases h with h | h
      · rw [h] at hl
        cases hl
      · have : n = 1 := by omega
        subst this
        exact q _ H1 (Same.refl H1) (.tup hs hdx)
    · have e := same_upd (o := HO.tup (List.replicate ((n : Int)).toNat xs).flatten) hp
      refine q _ _ e (.tup (SqT.of upd_same) ?_)
      have e0 : ((n : Int)).toNat = n := by omega
      have := dpAll_rep (DpAll.mono e _ _ hdx) n
      rw [flat_one] at this
      rw [e0] at this ⊢
      exact this
/-- sorted(xs, key=known_key) -/
theorem en_sortP {gs : List Part} {n : Nat} (h : EvD K te σ H (.list (gs.map encP))) (hl : ∀ g ∈ gs, g.length = n) (h0 : 0 < n) (h5 : n ≤ 5) : EvN K (tSortK K (sp_known_key K) (tCons te tNil)) σ H ((gs.mergeSort leP).map encP) := fun H1 e Q q => h H1 e _ fun x H2 e2 dx => by
  obtain ⟨a, xs, rfl, hs, hd⟩ := dp_lst dx
  have hk : ∀ g : Part, keyD (encP g) = .tuple ((g.map encO).map keyI) := fun g => rfl
  refine ⟨a, xs, gs.map encP, keyD, rfl, hs, hd, ?_, .inl ?_, ?_, ?_, ?_⟩
  · intro d hd d' hd'
    rw [List.map_map] at hd hd'
    obtain ⟨g, _, rfl⟩ := List.mem_map.mp hd
    obtain ⟨g', _, rfl⟩ := List.mem_map.mp hd'
    show PySem.W.alike (keyD (encP g)) (keyD (encP g')) = true
    rw [hk, hk, PySem.W.alike]
    have key : ∀ a b : Part, PySem.W.alikeAll ((a.map encO).map keyI) ((b.map encO).map keyI) = true := by
      intro a
      induction a with
      | nil => intro b; rw [List.map_nil, List.map_nil, PySem.W.alikeAll]
      | cons x a ih =>
        intro b
        cases b with
        | nil => rw [List.map_nil, List.map_nil, List.map_cons, List.map_cons, PySem.W.alikeAll]
        | cons y b =>
          rw [List.map_cons, List.map_cons, List.map_cons, List.map_cons, PySem.W.alikeAll, ih b, Bool.and_true]
          cases x <;> cases y <;> simp [encO, keyI, PySem.W.alike, PySem.W.alikeAll]
    exact key g g'
  · intro d hd
    rw [List.map_map] at hd
    obtain ⟨g, hg, rfl⟩ := List.mem_map.mp hd
    have := hl g hg
    cases g with
    | nil => rw [List.length_nil] at this; omega
    | cons o g => exact ⟨_, _, rfl⟩
  · intro d hd
    obtain ⟨g, _, rfl⟩ := List.mem_map.mp hd
    rw [hk, PyData.depth]
    have : PyData.depthAll ((g.map encO).map keyI) ≤ 1 := depth_all fun d hd => by
      rw [List.map_map] at hd
      obtain ⟨o, _, rfl⟩ := List.mem_map.mp hd
      cases o <;> (show max 0 (max 0 0) + 1 ≤ 1; decide)
    omega
  · intro x d H3 Q' hd e3 dx' q'
    obtain ⟨g, hg, rfl⟩ := List.mem_map.mp hd
    exact ⟨g, .cons dx' .nil, by rw [hl g hg]; exact h5, q'⟩
  · intro ys p H3 e3 hp hy hys
    refine q p H3 (e2.trans e3) (fresh_back e2 hp) ⟨ys, hy, ?_⟩
    have := PySem.W.sort_maps (r := leP) (s := PySem.W.dataLe false keyD) encP (l := gs) fun a _ b _ => rfl
    rw [this]
    exact hys
theorem enc_full (h : List Int) : encP (h.map some) = encI h := by
  unfold encP encI
  rw [List.map_map]
  rfl
theorem enc_fulls (W : List (List Int)) : (W.map fun h => h.map some).map encP = W.map encI := by
  rw [List.map_map]
  exact List.map_congr_left fun h _ => enc_full h
theorem rd_worlds (C : Addr) (vs : List V) (H : Hp) (Q : VK) (E : XK) (h : sp_worlds K C vs H Q E) : t_worlds K C E { nx := fun _ H' => Q .non H', rt := Q } (start N_worlds vs) H := by
  obtain ⟨N, k, t, hd, ok, h0, h3, mc, hbad, hgood⟩ := h
  obtain ⟨x, y, rfl, dx, dy⟩ := dp2 hd
  have two := ok.two
  have five := ok.five
  refine d_c (c_cal ?_)
  refine (ea2 (K := K) (ev_var rfl dx) (ev_var rfl dy)) H (Same.refl H) _ fun vs H1 e1 dv => ⟨N, k, t, dv, ok, mc, fun hb H' e' => hbad hb H' (e1.trans e'), fun hk v H2 e2 _ => ?_⟩
  obtain ⟨W, hW, h200, q⟩ := hgood hk
  have s2 := e1.trans e2
  have RO := rows_ok ok h0 h3 mc hk
  refine q_asgN (K := K) (ds := (rowsF N.rs k N.n 0).map encP) (EvN.to (en_lst (by show 1 ≤ 1000; decide) (ea1 (ev_catT (ds := [.int 0]) ?_ (ev_tup (by show 1 ≤ 1000; decide) (ea1 ev_int)) (ev_rep1 (n := N.n - 1) ev_non (EvD.to (ev_minus (ev_nm (ev_var rfl (Dp.mono s2 _ _ dx))) ev_int) (by congr 1; omega)) (by omega))))) ?_) fun p H3 e3 hp2 pa3 => ?_
  · have : 100 ≤ sizeLine := by decide
    simp
    omega
  · unfold rowsF encP
    simp [encO]
  refine q_for (K := K) (M := noM) (n := N.n - 1) (item := fun i => .int (i : Nat)) (ei_rng1 (EvD.to (ev_minus (ev_nm (ev_var rfl (Dp.mono (s2.trans e3) _ _ dx))) ev_int) (by congr 1; omega)) (by omega)) (fun s σ' H' => ∃ (p : Addr) (a b c d : Option V), σ' = [some x, some y, some (.ref p), a, b, c, d] ∧ Same H H' ∧ LstAt K H' p ((rowsF N.rs k N.n s).map encP))
    (fun H4 e4 => ⟨p, none, none, none, none, rfl, s2.trans (e3.trans e4), pa3.mono e4⟩) (fun s σ' H4 H5 v hs p e5 dv Nx nx => ?_) fun σ' H4 p => ?_
  · obtain ⟨p, a, b, c, d, rfl, s4, pa4⟩ := p
    refine tg1 ?_
    have A := RO s (by omega)
    have pa5 := pa4.mono e5
    refine q_asgN (K := K) (ds := []) (en_lst (by show 0 ≤ 1000; decide) ea_nil) fun ml H6 e6 hm5 ma6 => ?_
    have s6 := (s4.trans e5).trans e6
    have hm0 : H ml = none := fresh_back (s4.trans e5) hm5
    have hmp : ml ≠ p := ne_at hm5 pa5
    obtain ⟨xs, g1, g2⟩ := pa5.mono e6
    have hsz : (rowsF N.rs k N.n s).length ≤ 256 := by
      have := A.size
      have := Nat.pow_le_pow_right (show 0 < 4 by decide) (show s ≤ 4 by omega)
      omega
    refine q_for (K := K) (M := oneM ml) (ei_lstV rfl (SqL.of g1) g2 (noL_Ps _) (fun e => hmp e.symm)) (fun i σ' H' => ∃ (c d : Option V), σ' = [some x, some y, some (.ref p), some v, some (.ref ml), c, d] ∧ Same H H' ∧ Same H5 H' ∧ LstAt K H' ml ((((rowsF N.rs k N.n s).take i).foldl (fun more g => (furtherF N.rs k g).foldl addNew more) []).map encP))
      (fun H7 e7 => ⟨c, d, rfl, s6.trans e7, e6.trans e7, ma6.mono e7⟩) (fun i σ' H7 H8 w hi p' e8 dw Ny ny => ?_) fun σ' H7 p' => ?_
    · obtain ⟨c, d, rfl, s7, f7, ma7⟩ := p'
      have hi : i < (rowsF N.rs k N.n s).length := by simpa using hi
      obtain ⟨g, hg⟩ : ∃ g, (rowsF N.rs k N.n s)[i]? = some g := ⟨_, List.getElem?_eq_getElem hi⟩
      rw [getD_of (get_map encP hg)] at dw
      have P := A.each g (List.mem_of_getElem? hg)
      refine tg1 ?_
      have s8 := s7.trans e8
      have ma8 := ma7.mono e8
      obtain ⟨more, hmore⟩ : ∃ more, ((rowsF N.rs k N.n s).take i).foldl (fun more g => (furtherF N.rs k g).foldl addNew more) [] = more := ⟨_, rfl⟩
      rw [hmore] at ma8
      have hml : more.length ≤ 1024 := by
        rw [← hmore]
        have := step_len (rs := N.rs) h3 ((rowsF N.rs k N.n s).take i) [] fun g hg => (A.each g (List.mem_of_mem_take hg)).few
        rw [List.length_take] at this
        simp only [List.length_nil] at this
        omega
      have hfl : (furtherF N.rs k g).length ≤ 4 := by
        have := further_len N.rs k g
        have := P.few
        omega
      have hstep : (furtherF N.rs k g).foldl addNew more = ((rowsF N.rs k N.n s).take (i + 1)).foldl (fun more g => (furtherF N.rs k g).foldl addNew more) [] := by
        rw [take_more hg, List.foldl_append, hmore]
        rfl
      refine s_for (K := K) (M := oneM ml) (ei_lstN (en_cal (ea3 (ev_var rfl (Dp.mono s8 _ _ dx)) (ev_var rfl (Dp.mono s8 _ _ dy)) (ev_var rfl dw)) fun vs H9 Q e9 dv qq => ⟨N, k, g, dv, ok, P.len, P.few, h3, qq⟩) (noL_Ps _) (fun l hl => by rw [show l = ml from hl]; obtain ⟨zs, hz⟩ := ma8.some; rw [hz]; simp)) (fun j σ' H' => ∃ (d : Option V), σ' = [some x, some y, some (.ref p), some v, some (.ref ml), some w, d] ∧ Same H H' ∧ Same H5 H' ∧ ButM (oneM ml) H8 H' ∧ LstAt K H' ml ((((furtherF N.rs k g).take j).foldl addNew more).map encP))
        (fun H9 e9 => ⟨d, rfl, s8.trans e9, (f7.trans e8).trans e9, same_butM e9, ma8.mono e9⟩) (fun j σ' H9 H10 u hj p9 e10 du Nz nz => ?_) fun σ' H9 p9 => ?_
      · obtain ⟨d, rfl, s9, f9, b9, ma9⟩ := p9
        have hj : j < (furtherF N.rs k g).length := by simpa using hj
        obtain ⟨gr, hgr⟩ : ∃ gr, (furtherF N.rs k g)[j]? = some gr := ⟨_, List.getElem?_eq_getElem hj⟩
        rw [getD_of (get_map encP hgr)] at du
        refine tg1 ?_
        have ma10 := ma9.mono e10
        obtain ⟨mo, hmo⟩ : ∃ mo, ((furtherF N.rs k g).take j).foldl addNew more = mo := ⟨_, rfl⟩
        rw [hmo] at ma10
        have hmol : mo.length ≤ 2000 := by
          rw [← hmo]
          have := addAll_len (ok := fun _ : Part => true) ((furtherF N.rs k g).take j) more
          rw [← addNew_fun, List.length_take] at this
          omega
        have hst : addNew mo gr = ((furtherF N.rs k g).take (j + 1)).foldl addNew more := by
          rw [take_more hgr, List.foldl_append, hmo]
          rfl
        refine s_when (b := !mo.contains gr) (et_test (EvD.to (ev_notInD (K := K) (shaped_P _) (shaped_Ps mo) (ev_var rfl du) (ev_var rfl ma10.dp)) (by rw [any_part]))) (fun hb H11 e11 => ?_) fun hb H11 e11 => ?_
        · refine s_app (K := K) (l := ml) (d := encP gr) rfl (ma10.mono e11) (noL_Ps mo) (noL_encP _) (ev_var rfl (Dp.mono e11 _ _ du)) (by simp; omega) fun H12 b12 ma12 => ?_
          have bm12 := (same_butM (M := oneM ml) e11).trans (But.butM b12 rfl (ma10.mono e11).some)
          refine nz _ _ bm12 ⟨_, rfl, But.mut (s9.trans (e10.trans e11)) hm0 b12, But.mut (f9.trans (e10.trans e11)) hm5 b12, b9.trans ((same_butM e10).trans bm12), ?_⟩
          rw [← hst]
          unfold addNew
          rw [if_neg (by simpa using hb), List.map_append]
          exact ma12
        · refine nz _ _ (same_butM e11) ⟨_, rfl, s9.trans (e10.trans e11), f9.trans (e10.trans e11), b9.trans (same_butM (e10.trans e11)), ?_⟩
          rw [← hst]
          unfold addNew
          rw [if_pos (by simpa using hb)]
          exact ma10.mono e11
      · obtain ⟨d, rfl, s9, f9, b9, ma9⟩ := p9
        rw [List.length_map, List.take_length, hstep] at ma9
        exact ny _ _ b9 ⟨_, _, rfl, s9, f9, ma9⟩
    · obtain ⟨c, d, rfl, s7, f7, ma7⟩ := p'
      rw [List.length_map, List.take_length] at ma7
      have B := RO (s + 1) (by omega)
      refine s_asgN (K := K) (en_sortP (n := N.n) (ev_var rfl ma7.dp) (fun g hg => ?_) (by omega) five) fun p2 H8 e8 hp2 pa8 => nx _ _ (same_butM (f7.trans e8)) ⟨p2, _, _, _, _, rfl, s7.trans e8, pa8⟩
      exact (B.each g ((List.mergeSort_perm _ leP).mem_iff.mpr hg)).len
  · obtain ⟨p, a, b, c, d, rfl, s4, pa4⟩ := p
    rw [hW.eq, enc_fulls] at pa4
    refine q_when (b := decide ((200 : Int) < (W.length : Int))) (et_test (EvD.to (ev_gt (K := K) (ev_lenL (ev_var rfl pa4.dp)) ev_int) (by rw [List.length_map]))) (fun hb => by have := of_decide_eq_true hb; omega) fun _ H5 e5 => ?_
    exact s_ret (K := K) (ev_tupL (ev_var rfl (pa4.mono e5).dp)) fun v H6 e6 dv => q v H6 ((s4.trans e5).trans e6) dv
end
end K11
end

/-! ## K11RdL -/
section
set_option maxHeartbeats 4000000
/-! What the readings of verdicts and the law's tries come to. -/
namespace K11
open PySem PySem.Spec PyProof.Rows L2
section
variable {K : PySem.W.Frag} {M : Addr → Prop} {σ : L2.St} {H H' H0 H1 H2 : Hp} {ta tb tc te tl : TE} {ds es : List PyData} {d dz : PyData} {D : Ends} {tu tw tz : TS} {t : TT} {Q : VK} {l p : Addr}
theorem shaped_rows (ls : List (List Int)) : SeqAt.shaped (.list (ls.map encI)) = true := shaped_list
  (fun d hd => by obtain ⟨g, _, rfl⟩ := List.mem_map.mp hd; have h := lay_encI g; unfold SeqAt.shaped at h; rw [Bool.and_eq_true] at h; exact h.1)
  (fun d hd => by
    obtain ⟨g, _, rfl⟩ := List.mem_map.mp hd
    unfold encI
    rw [PyData.depth]
    have := depth_all (ds := g.map PyData.int) (n := 0) fun d hd => by obtain ⟨i, _, rfl⟩ := List.mem_map.mp hd; exact Nat.le_refl _
    omega)
theorem lc_tup_c {gt : TG} {tt : TT} {vs : List Nat} (h : ∀ Q, tl σ H Q) : tLc (iTup K tl) gt tt te vs σ H Q := h _
theorem rd_verdicts (C : Addr) (vs : List V) (H : Hp) (Q : VK) (E : XK) (h : sp_verdicts K C vs H Q E) : t_verdicts K C E { nx := fun _ H' => Q .non H', rt := Q } (start N_verdicts vs) H := by
  obtain ⟨N, k, t, hd, ok, h0, h3, mc, hbad, hgood⟩ := h
  obtain ⟨x, y, rfl, dx, dy⟩ := dp2 hd
  have few := ok.few
  by_cases hk : k + 1 ≤ (t : Int)
  · obtain ⟨W, hW, h200, q⟩ := hgood hk
    refine q_asg (K := K) (d := .list ((W.map (lies N.rs)).map encI)) (EvN.dd (EvN.to (en_lcM (M := noM) W encI (ei_tup (ev_calX (dz := .tuple (W.map encI)) (ea2 (ev_var rfl dx) (ev_var rfl dy)) fun vs H1 Q e1 dv qq => ⟨N, k, t, dv, ok, h0, h3, mc, fun hb => by omega, fun _ => ⟨W, hW, h200, qq⟩⟩) (noLAll_map _ _ fun b _ => noL_encI b)) (by simp) (fun i b hb => getD_of (get_map encI hb)) (fun h => encI (lies N.rs h)) (by omega) (fun h _ => noL_encI _)
      fun h hh H1 w e1 dw Q q => tg1 <| q _ H1 (Same.refl H1) rfl (ev_cal (ea2 (ev_var rfl (Dp.mono e1 _ _ dx)) (ev_var rfl dw)) fun vs H2 Q e2 dv qq => ⟨N, h, dv, ok, hW.len h hh, qq⟩)) (by rw [List.map_map]; rfl))) fun v H1 e1 dv => ?_
    refine q_when (b := decide (W = [])) (et_test (EvD.to (ev_eqD (K := K) (shaped_rows _) shaped_nil (ev_var rfl dv) (en_lst (ds := []) (by show 0 ≤ 1000; decide) ea_nil).dd) (by rw [eqv_nil]; cases W <;> rfl))) (fun hb H2 e2 => ?_) fun hb H2 e2 => ?_
    · have hb := of_decide_eq_true hb
      refine s_ret (K := K) (d := .tuple ((verdictsF N.rs W).map .str)) (EvD.to (ev_tup (ds := []) (by show 0 ≤ 1000; decide) ea_nil) (by unfold verdictsF; rw [if_pos hb]; rfl)) fun v H3 e3 dv => q v H3 ((e1.trans e2).trans e3) dv
    · have hb := of_decide_eq_false hb
      refine s_ret (K := K) (d := .tuple ((verdictsF N.rs W).map .str)) (ev_tupL (EvN.dd (EvN.to (en_lcM (M := noM) (List.range N.rs.length) encN (ei_rng1 (EvD.to (ev_lenT (ev_rs (ev_var rfl (Dp.mono (e1.trans e2) _ _ dx)))) (by rw [List.length_map])) (by omega)) (by simp) (fun i b h => range_item _ i b h) (fun i => .str (verdictOf (W.map (lies N.rs)) (i : Int))) (by simp; omega) (fun _ _ => rfl)
        fun i hi H3 w e3 dw Q q => tg1 <| q _ H3 (Same.refl H3) rfl (ev_cal (ea2 (ev_var rfl dw) (ev_var rfl (Dp.mono (e2.trans e3) _ _ dv))) fun vs H4 Q e4 dv qq => ⟨(i : Int), W.map (lies N.rs), dv, by rw [List.length_map]; omega, qq⟩)) (by unfold verdictsF; rw [if_neg hb, List.map_map]; rfl)))) fun v H3 e3 dv => q v H3 ((e1.trans e2).trans e3) dv
  · refine q_c (lc_tup_c fun Q => c_cal ?_)
    exact (ea2 (K := K) (ev_var rfl dx) (ev_var rfl dy)) H (Same.refl H) _ fun vs H1 e1 dv => ⟨N, k, t, dv, ok, h0, h3, mc, fun hb H' e' => hbad hb H' (e1.trans e'), fun hg => (hk hg).elim⟩
theorem try_bad {C : Addr} {sp : Sp} {ta : TA} {su : TS} (hx : PySem.W.exmOne K (.ref C) (.ref C) = some true) (ha : EvA K ta σ H ds)
    (h : ∀ vs H1 (Q : VK) (E : XK), Same H H1 → DpAll K H1 vs ds → (∀ H', Same H1 H' → E (.ref C) none H') → sp vs H1 Q E) (k : ∀ H', Same H H' → su D σ H') : tTryBS K C sp ta su D σ H :=
  ha H (Same.refl H) _ fun vs H1 e1 dv => h vs H1 _ _ e1 dv fun H' e' => ⟨true, hx, fun _ _ _ => k H' (e1.trans e'), fun z => by cases z⟩
theorem q_try {C : Addr} {sp : Sp} {ta : TA} {su : TS} (h : tTryBS K C sp ta su { D with nx := tz D } σ H) : tSeq (tTryBS K C sp ta su) tz D σ H := h
theorem rd_law_refused (C : Addr) (hx : PySem.W.exmOne K (.ref C) (.ref C) = some true) (vs : List V) (H : Hp) (Q : VK) (E : XK) (h : sp_law_refused K vs H Q E) : t_law_refused K C { nx := fun _ H' => Q .non H', rt := Q } (start N_law_refused vs) H := by
  obtain ⟨N, k, t, hd, ok, h0, h3, mc, hlt, q⟩ := h
  obtain ⟨x, y, rfl, dx, dy⟩ := dp2 hd
  refine q_asg (K := K) ev_int fun v H1 e1 dv => ?_
  cases dp_int dv
  refine q_try (try_bad (K := K) hx (ea2 (ev_var rfl (Dp.mono e1 _ _ dx)) (ev_var rfl (Dp.mono e1 _ _ dy))) (fun vs H2 Q E e2 dv hE => ⟨N, k, t, dv, ok, h0, h3, mc, fun _ H' e' => hE H' e', fun hg => by omega⟩) fun H2 e2 => ?_)
  refine s_asg (K := K) (ev_plus (ev_var rfl (.int 0)) ev_int) fun v H3 e3 dv => ?_
  cases dp_int dv
  have s3 := (e1.trans e2).trans e3
  refine q_try (try_bad (K := K) hx (ea2 (ev_var rfl (Dp.mono s3 _ _ dx)) (ev_var rfl (Dp.mono s3 _ _ dy))) (fun vs H2 Q E e2 dv hE => ⟨N, k, t, dv, ok, h0, h3, mc, fun _ H' e' => hE H' e', fun hg => by omega⟩) fun H4 e4 => ?_)
  refine s_asg (K := K) (ev_plus (ev_var rfl (.int (0 + 1))) ev_int) fun v H5 e5 dv => ?_
  cases dp_int dv
  exact s_ret (K := K) (d := .bool true) (EvD.to (ev_eqI (ev_var rfl (.int (0 + 1 + 1))) ev_int) rfl) fun v H6 e6 dv => q v H6 ((s3.trans (e4.trans e5)).trans e6) dv
/-! ### dicts of ints -/
theorem valV_enc (row : Row) (m : Nat) : valV (encDict row) (.inl (m : Int)) = (rget row m).map V.int := by
  unfold encDict rget
  induction row with
  | nil => rfl
  | cons p row ih =>
    obtain ⟨a, v⟩ := p
    rw [List.map_cons, List.lookup_cons]
    by_cases e : m = a
    · subst e
      rw [valV_pos (by rfl)]
      simp
    · have e1 : (m == a) = false := by simpa using e
      rw [e1, valV_neg (by intro z; injection z with z; omega)]
      exact ih
theorem ev_dIn {ty : TE} {n m : Nat} {a : Addr} {row : Row} (hy : EvD K ty σ H (.int (m : Int))) (hv : σ[n]? = some (some (.ref a))) (ha : H a = some (.dK (encDict row))) : EvD K (tDIn ty (tVar n)) σ H (.bool (rget row m).isSome) := fun H1 e Q q =>
  hy H1 e _ fun y H2 e2 dy => by
    cases dp_int dy
    refine ⟨_, hv, a, _, rfl, DGet.k (k := .inl (m : Int)) ((e.trans e2) _ _ ha), ?_⟩
    rw [valV_enc, Option.isSome_map]
    exact q _ H2 e2 (.bl _)
theorem ev_dNotIn {ty : TE} {n m : Nat} {a : Addr} {row : Row} (hy : EvD K ty σ H (.int (m : Int))) (hv : σ[n]? = some (some (.ref a))) (ha : H a = some (.dK (encDict row))) : EvD K (tDNotIn ty (tVar n)) σ H (.bool (!(rget row m).isSome)) := fun H1 e Q q =>
  hy H1 e _ fun y H2 e2 dy => by
    cases dp_int dy
    refine ⟨_, hv, a, _, rfl, DGet.k (k := .inl (m : Int)) ((e.trans e2) _ _ ha), ?_⟩
    rw [valV_enc, Option.isSome_map]
    exact q _ H2 e2 (.bl _)
theorem ev_dGet {ty : TE} {n m : Nat} {v : Int} {a : Addr} {row : Row} (hy : EvD K ty σ H (.int (m : Int))) (hv : σ[n]? = some (some (.ref a))) (ha : H a = some (.dK (encDict row))) (hr : rget row m = some v) : EvD K (tDGet (tVar n) ty) σ H (.int v) := fun H1 e Q q =>
  ⟨_, hv, hy H1 e _ fun y H2 e2 dy => by
    cases dp_int dy
    refine ⟨a, .int v, rfl, ?_, q _ H2 e2 (.int v)⟩
    have := DGet.k (k := .inl (m : Int)) ((e.trans e2) _ _ ha)
    rw [valV_enc, hr] at this
    exact this⟩
theorem ev_lenD {n : Nat} {a : Addr} {row : Row} (hv : σ[n]? = some (some (.ref a))) (ha : H a = some (.dK (encDict row))) : EvD K (tCB rLenD (tCons (tVar n) tNil)) σ H (.int (row.length : Int)) := fun H1 e Q q => ⟨_, hv, a, _, rfl, e _ _ ha, by
  have : (encDict row).length = row.length := List.length_map _
  rw [this]
  exact q _ H1 (Same.refl H1) (.int _)⟩
theorem few_len (rs : List Rdg) (row : Row) : ((((rs.filter fun r => (rget row r.1).isSome && (rget row r.2.1).isSome).map fun r => r.2.2 - (rget row r.2.1).getD 0 + (rget row r.1).getD 0)).filter fun x => x != 0).length = fewN rs row := by
  unfold fewN
  rw [List.filter_map, List.length_map, List.filter_filter]
  congr 1
  refine List.filter_congr fun r _ => ?_
  unfold fewLie
  show ((r.2.2 - (rget row r.2.1).getD 0 + (rget row r.1).getD 0 != 0) && ((rget row r.1).isSome && (rget row r.2.1).isSome)) = _
  cases rget row r.1 <;> cases rget row r.2.1 <;> simp [fl2]
theorem rd_law_few (vs : List V) (H : Hp) (Q : VK) (E : XK) (h : sp_law_few K vs H Q E) : t_law_few K { nx := fun _ H' => Q .non H', rt := Q } (start N_law_few vs) H := by
  obtain ⟨x, a, k, N, row, rfl, dx, ok, ha, q⟩ := h
  have few := ok.few
  refine q_asg (K := K) (d := .list (((N.rs.filter fun r => (rget row r.1).isSome && (rget row r.2.1).isSome).map fun r => r.2.2 - (rget row r.2.1).getD 0 + (rget row r.1).getD 0).map .int)) (EvN.dd (EvN.to (en_lcB (M := noM) N.rs encR (ei_tup (ev_rs (ev_var rfl dx)) (rs_noL _)) (by simp) (fun i b hb => rs_item hb) (fun r => (rget row r.1).isSome && (rget row r.2.1).isSome) (fun r => .int (r.2.2 - (rget row r.2.1).getD 0 + (rget row r.1).getD 0)) (by omega) (fun _ _ _ => rfl)
    fun r hr H1 w e1 dw Q q => tg3 dw fun x1 x2 x3 d1 d2 d3 => q _ H1 (Same.refl H1) rfl (et_and (et_B (ev_dIn (ev_var rfl d1) rfl (e1 _ _ ha))) fun _ => et_B (ev_dIn (ev_var rfl d2) rfl (e1 _ _ ha))) fun hb => ?_) (by rw [List.map_map]; rfl))) fun v H1 e1 dv => ?_
  · rw [Bool.and_eq_true] at hb
    obtain ⟨v1, h1⟩ := Option.isSome_iff_exists.mp hb.1
    obtain ⟨v2, h2⟩ := Option.isSome_iff_exists.mp hb.2
    rw [h1, h2]
    exact ev_plus (ev_minus (ev_var rfl d3) (ev_dGet (ev_var rfl d2) rfl (e1 _ _ ha) h2)) (ev_dGet (ev_var rfl d1) rfl (e1 _ _ ha) h1)
  · refine s_ret (K := K) (d := .bool (decide ((fewN N.rs row : Int) ≤ k))) ?_ fun v H' e dv => q v H' (e1.trans e) dv
    have hz : ((N.rs.filter fun r => (rget row r.1).isSome && (rget row r.2.1).isSome).map fun r => r.2.2 - (rget row r.2.1).getD 0 + (rget row r.1).getD 0).length ≤ 13 := by
      rw [List.length_map]
      exact Nat.le_trans (List.length_filter_le _ _) few
    refine EvD.to (ev_le (ev_lenL (EvN.dd (en_lcB (M := noM) _ PyData.int (ei_lst (ev_var rfl dv) (noL_ints _)) (by simp) (fun i b hb => getD_of (get_map .int hb)) (fun x => x != 0) PyData.int (by omega) (fun _ _ _ => rfl)
      fun i hi H2 w e2 dw Q q => tg1 <| q _ H2 (Same.refl H2) rfl (et_test (EvD.to (ev_neI (ev_var rfl dw) ev_int) (by rw [bne, Bool.beq_eq_decide_eq]))) fun _ => ev_var rfl dw))) (ev_var rfl (.int k))) ?_
    rw [List.length_map, few_len]
end
end K11
end

/-! ## K11RdM -/
section
set_option maxHeartbeats 4000000
/-! What the reading of _law_all_worlds comes to. -/
namespace K11
open PySem PySem.Spec PyProof.Rows L2
theorem tryR_all {rs : List Rdg} {k : Int} {row : Row} {more : List Row} {r : Rdg} {P : Row → Prop} (hm : ∀ q ∈ more, P q) (hp : ∀ p, P (row ++ [p])) : ∀ q ∈ tryR rs k row more r, P q := by
  unfold tryR
  cases growR row r with
  | none => exact hm
  | some p =>
    simp only
    split
    · intro q hq
      rcases List.mem_append.mp hq with hq | hq
      · exact hm q hq
      · rw [List.mem_singleton.mp hq]; exact hp p
    · exact hm
theorem tryR_len {rs : List Rdg} {k : Int} {row : Row} {more : List Row} {r : Rdg} : (tryR rs k row more r).length ≤ more.length + 1 := by
  unfold tryR
  cases growR row r with
  | none => simp
  | some p =>
    simp only
    split <;> simp
theorem inner_P {rs : List Rdg} {k : Int} {row : Row} {P : Row → Prop} (hp : ∀ p, P (row ++ [p])) : ∀ (rs' : List Rdg) (more : List Row), (∀ q ∈ more, P q) → (∀ q ∈ rs'.foldl (tryR rs k row) more, P q) ∧ (rs'.foldl (tryR rs k row) more).length ≤ more.length + rs'.length
  | [], more, h => ⟨h, by simp⟩
  | r :: rs', more, h => by
    obtain ⟨a, b⟩ := inner_P hp rs' (tryR rs k row more r) (tryR_all h hp)
    refine ⟨a, ?_⟩
    have := tryR_len (rs := rs) (k := k) (row := row) (more := more) (r := r)
    rw [List.foldl_cons, List.length_cons]
    omega
theorem outer_P {rs : List Rdg} {k : Int} {s : Nat} (few : rs.length ≤ 13) : ∀ (R more : List Row), (∀ q ∈ R, q.length = s + 1) → (∀ q ∈ more, q.length = s + 2) →
    (∀ q ∈ R.foldl (fun more row => rs.foldl (tryR rs k row) more) more, q.length = s + 2) ∧ (R.foldl (fun more row => rs.foldl (tryR rs k row) more) more).length ≤ more.length + 13 * R.length
  | [], more, _, h => ⟨h, by simp⟩
  | row :: R, more, hR, h => by
    obtain ⟨a, b⟩ := inner_P (rs := rs) (k := k) (row := row) (P := fun q => q.length = s + 2) (fun p => by rw [List.length_append, hR row (by simp)]; rfl) rs more h
    obtain ⟨a2, b2⟩ := outer_P (k := k) few R (rs.foldl (tryR rs k row) more) (fun q hq => hR q (by simp [hq])) a
    refine ⟨a2, ?_⟩
    rw [List.foldl_cons, List.length_cons]
    omega
theorem rowsR_P {rs : List Rdg} {k : Int} (few : rs.length ≤ 13) : ∀ s, (∀ q ∈ rowsR rs k s, q.length = s + 1) ∧ (rowsR rs k s).length ≤ 13 ^ s
  | 0 => ⟨fun q hq => by rw [List.mem_singleton.mp hq]; rfl, by simp [rowsR]⟩
  | s + 1 => by
    obtain ⟨a, b⟩ := rowsR_P (k := k) few s
    obtain ⟨a2, b2⟩ := outer_P (k := k) few (rowsR rs k s) [] a (fun _ h => by cases h)
    refine ⟨a2, ?_⟩
    show (stepR rs k (rowsR rs k s)).length ≤ _
    unfold stepR
    rw [Nat.pow_succ]
    simp at b2
    omega
/-- a list of dicts -/
def DsAt (H : Hp) (p : Addr) (rows : List Row) : Prop := ∃ as : List Addr, H p = some (.lst (as.map V.ref)) ∧ PySem.Paired (fun a row => H a = some (.dK (encDict row))) as rows
theorem paired_imp {α β : Type} {F G : α → β → Prop} {as : List α} {bs : List β} (h : PySem.Paired F as bs) (i : ∀ a b, a ∈ as → F a b → G a b) : PySem.Paired G as bs := by
  induction h with
  | nil => exact .nil
  | cons h1 h2 ih => exact .cons (i _ _ (by simp) h1) (ih fun a b ha => i a b (by simp [ha]))
theorem paired_app {α β : Type} {F : α → β → Prop} {as : List α} {bs : List β} (h : PySem.Paired F as bs) {a : α} {b : β} (e : F a b) : PySem.Paired F (as ++ [a]) (bs ++ [b]) := by
  induction h with
  | nil => exact .cons e .nil
  | cons h1 h2 ih => exact .cons h1 ih
theorem paired_len {α β : Type} {F : α → β → Prop} {as : List α} {bs : List β} (h : PySem.Paired F as bs) : as.length = bs.length := by
  induction h with
  | nil => rfl
  | cons h1 h2 ih => rw [List.length_cons, List.length_cons, ih]
theorem paired_get {α β : Type} {F : α → β → Prop} {as : List α} {bs : List β} (h : PySem.Paired F as bs) : ∀ {i : Nat} {a : α}, as[i]? = some a → ∃ b, bs[i]? = some b ∧ F a b := by
  induction h with
  | nil => intro i a h; simp at h
  | cons h1 h2 ih =>
    intro i a h
    cases i with
    | zero =>
      simp at h
      subst h
      exact ⟨_, rfl, h1⟩
    | succ i =>
      simp at h
      exact ih h
theorem paired_mem {α β : Type} {F : α → β → Prop} {as : List α} {bs : List β} (h : PySem.Paired F as bs) {a : α} (ha : a ∈ as) : ∃ b, b ∈ bs ∧ F a b := by
  obtain ⟨i, hi⟩ := List.getElem?_of_mem ha
  obtain ⟨b, h1, h2⟩ := paired_get h hi
  exact ⟨b, List.mem_of_getElem? h1, h2⟩
theorem DsAt.mono {H H' : Hp} {p : Addr} {rows : List Row} (e : Same H H') (h : DsAt H p rows) : DsAt H' p rows := by
  obtain ⟨as, h1, h2⟩ := h
  exact ⟨as, e _ _ h1, paired_imp h2 fun a b _ h => e _ _ h⟩
section
variable {K : PySem.W.Frag} {M : Addr → Prop} {σ : L2.St} {H H' H0 H1 H2 : Hp} {ta tb tc te tl : TE} {ds es : List PyData} {d dz : PyData} {D : Ends} {tu tw tz tb' : TS} {t : TT} {Q : VK} {l p : Addr}
theorem eqDict_enc (a b : Row) : eqDict (encDict a) (encDict b) = rowEq a b := by
  unfold eqDict rowEq
  congr 1
  · unfold encDict
    rw [List.length_map, List.length_map]
  · rw [Bool.eq_iff_iff, List.all_eq_true, List.all_eq_true]
    constructor
    · intro h p hp
      have := of_decide_eq_true (h (.inl (p.1 : Int), V.int p.2) (List.mem_map.mpr ⟨p, hp, rfl⟩))
      rw [valV_enc] at this
      refine decide_eq_true ?_
      cases e : rget b p.1 with
      | none => rw [e] at this; cases this
      | some v =>
        rw [e] at this
        injection this with this
        injection this with this
        rw [this]
    · intro h q hq
      obtain ⟨p, hp, rfl⟩ := List.mem_map.mp hq
      have := of_decide_eq_true (h p hp)
      refine decide_eq_true ?_
      show valV (encDict b) (.inl (p.1 : Int)) = some (V.int p.2)
      rw [valV_enc, this]
      rfl
theorem intD_enc (row : Row) : IntD (encDict row) := fun q hq => by
  obtain ⟨p, _, rfl⟩ := List.mem_map.mp hq
  exact ⟨⟨_, rfl⟩, _, rfl⟩
theorem ev_notInDs {n m : Nat} {a : Addr} {row : Row} {rows : List Row} (hv : σ[n]? = some (some (.ref a))) (hw : σ[m]? = some (some (.ref l))) (ha : H a = some (.dK (encDict row))) (hl : DsAt H l rows) (hn : ∀ as : List Addr, H l = some (.lst (as.map V.ref)) → a ∉ as) :
    EvD K (tOp rNotInDs (tVar n) (tVar m)) σ H (.bool (!rows.any fun q => rowEq q row)) := fun H1 e Q q => ⟨_, hv, _, hw, by
  obtain ⟨as, h1, h2⟩ := hl
  refine ⟨a, l, encDict row, as, rows.map encDict, rfl, rfl, e _ _ h1, e _ _ ha, hn as h1, intD_enc row, ?_, ?_⟩
  · clear h1 hn hw q
    induction h2 with
    | nil => exact .nil
    | cons g1 g2 ih => exact .cons ⟨e _ _ g1, intD_enc _⟩ ih
  · rw [List.any_map]
    have : ((fun e => eqDict e (encDict row)) ∘ encDict) = fun q => rowEq q row := by
      funext z
      exact eqDict_enc z row
    rw [this]
    exact q _ H1 (Same.refl H1) (.bl _)⟩
theorem q_ifP (P : Hp → Prop) {b : Bool} (h : EvT t σ H b) (h1 : b = true → ∀ H1, Same H H1 → ∀ Nx : L2.St → Hp → Prop, (∀ H2, P H2 → Nx σ H2) → tu { D with nx := Nx } σ H1) (h2 : b = false → ∀ H1, Same H H1 → ∀ Nx : L2.St → Hp → Prop, (∀ H2, P H2 → Nx σ H2) → tw { D with nx := Nx } σ H1) (k : ∀ H1, P H1 → tz D σ H1) : tSeq (tIfS t tu tw) tz D σ H :=
  q_if h (fun hb H1 e => h1 hb H1 e _ k) fun hb H1 e => h2 hb H1 e _ k
/-- grown[m] = v, m new -/
theorem s_dput {ty tv : TE} {n : Nat} {g : Addr} {row : Row} {m : Nat} {v : Int} (hv : EvD K tv σ H (.int v)) (hd : σ[n]? = some (some (.ref g))) (hy : EvD K ty σ H (.int (m : Int))) (hg : H g = some (.dK (encDict row))) (hr : rget row m = none) (hz : row.length ≤ 100) (k : ∀ H1, Same H H1 → D.nx σ (upd H1 g (.dK (encDict (row ++ [(m, v)]))))) :
    sDPut (tVar n) ty tv D σ H := hv H (Same.refl H) _ fun w H1 e1 dw => ⟨_, hd, hy H1 e1 _ fun y H2 e2 dy => by
  cases dp_int dw
  cases dp_int dy
  have e := e1.trans e2
  refine ⟨g, _, rfl, .inl ⟨encDict row, .inl (m : Int), e _ _ hg, rfl, ?_, rfl⟩, ?_⟩
  · have : (encDict row).length = row.length := List.length_map _
    have : 100 < sizeLine := by decide
    omega
  · have e0 : putK (encDict row) (.inl (m : Int)) (V.int v) = encDict (row ++ [(m, v)]) := by
      rw [putK_new _ (by rw [valV_enc, hr]; rfl)]
      unfold encDict
      rw [List.map_append]
      rfl
    rw [e0]
    exact k H2 e⟩
/-- for x in xs, by values -/
theorem s_forV {n : Nat} {gt : TG} {xs : List V} (hv : σ[n]? = some (some (.ref p))) (hp : H p = some (.lst xs)) (Pv : Nat → L2.St → Hp → Prop) (h0 : Pv 0 σ H) (hG : ∀ i σ' H', Pv i σ' H' → H' p = some (.lst xs))
    (hs : ∀ i σ' H' x, xs[i]? = some x → Pv i σ' H' → ∀ N : L2.St → Hp → Prop, (∀ σ2 H2, Pv (i + 1) σ2 H2 → N σ2 H2) → gt x σ' H' fun σ2 H2 => tb' { D with nx := N, ct := N, bk := D.nx } σ2 H2)
    (hd : ∀ σ' H', Pv xs.length σ' H' → D.nx σ' H') : tFor (iList K (tVar n)) gt tb' D σ H := by
  refine ⟨_, hv, p, rfl, ⟨xs, SqL.of hp⟩, ?_⟩
  refine for_it (walk_list (a := p) (xs := xs)) Pv h0 (fun i σ' H' _ pp => SqL.of (hG i σ' H' pp)) (fun i x σ' H' H'' hi pp y => ?_) fun σ' H' pp => hd σ' H' pp
  obtain ⟨rfl, hx⟩ := y
  exact hs i σ' _ x hx pp _ fun σ2 H2 p' => p'
/-- [e for x in xs], by values -/
theorem en_lcV {n : Nat} {gt : TG} {vs : List Nat} {xs : List V} (hv : σ[n]? = some (some (.ref p))) (hp : H p = some (.lst xs)) (g : Nat → PyData) (hz : xs.length ≤ 100000) (hn : ∀ i, noL (g i) = true)
    (ht : ∀ i H1 x, xs[i]? = some x → Same H H1 → ∀ Q : L2.St → Hp → Prop, (∀ σ2 H2, Same H1 H2 → wipe σ2 vs = wipe σ vs → EvD K te σ2 H2 (g i) → Q σ2 H2) → gt x (wipe σ vs) H1 Q) :
    EvN K (tLc (iList K (tVar n)) gt tYes te vs) σ H ((List.range xs.length).map g) := fun H1 e Q q => by
  refine ⟨_, hv, p, rfl, ⟨xs, SqL.of (e _ _ hp)⟩, fun D hD => ?_⟩
  refine lc_it (walk_list (K := K) (a := p) (xs := xs)) (fun i H' => Same H1 H' ∧ LstAt K H' D ((List.range i).map g) ∧ i ≤ xs.length) ⟨same_upd hD, ⟨[], upd_same, .nil⟩, Nat.zero_le _⟩ (fun i H' hi pp => SqL.of (pp.1 _ _ (e _ _ hp))) (fun i x H' H'' hi pp y => ?_) fun H' pp => q D H' pp.1 hD pp.2.1
  obtain ⟨rfl, hx⟩ := y
  obtain ⟨p1, p2, p3⟩ := pp
  refine ht i _ x hx (e.trans p1) _ fun σ2 H4 e4 hw ev => ⟨hw, ?_⟩
  refine c_yes ?_
  refine ev H4 (Same.refl H4) _ fun v H6 e6 dv => ?_
  have eA := e4.trans e6
  obtain ⟨acc, a1, a2⟩ := p2.mono eA
  refine ⟨acc, a1, ?_, ?_, ?_, hi⟩
  · have := dpAll_len a2
    rw [List.length_map, List.length_range] at this
    have : 100000 < sizeLine := by decide
    omega
  · intro b o hb
    rw [upd_ne (ne_of_none hb hD)]
    exact (p1.trans eA) b o hb
  · rw [List.range_succ, List.map_append]
    have bt : But D H6 (upd H6 D (.lst (acc ++ [v]))) := But.upd (Same.refl H6)
    refine ⟨acc ++ [v], upd_same, dpAll_append (DpAll.but bt a1 _ _ ?_ a2) (.cons (Dp.but bt a1 _ _ (hn i) dv) .nil)⟩
    exact noLAll_iff.mpr fun d hd => by
      obtain ⟨j, _, rfl⟩ := List.mem_map.mp hd
      exact hn j
/-- sorted(xs), xs rows of ints -/
theorem en_sortI {gs : List (List Int)} (h : EvD K te σ H (.list (gs.map encI))) (h0 : ∀ g ∈ gs, g ≠ []) : EvN K (tCB (rSortD K) (tCons te tNil)) σ H ((gs.mergeSort leI).map encI) := fun H1 e Q q => h H1 e _ fun x H2 e2 dx => by
  obtain ⟨a, xs, rfl, hs, hd⟩ := dp_lst dx
  refine ⟨a, xs, gs.map encI, rfl, hs, hd, ?_, .inl ?_, ?_, fun ys p hp hys => ?_⟩
  · intro d hd d' hd'
    obtain ⟨g, _, rfl⟩ := List.mem_map.mp hd
    obtain ⟨g', _, rfl⟩ := List.mem_map.mp hd'
    unfold encI
    rw [PySem.W.alike]
    exact PySem.W.alike_ints g g'
  · intro d hd
    obtain ⟨g, hg, rfl⟩ := List.mem_map.mp hd
    have := h0 g hg
    cases g with
    | nil => exact (this rfl).elim
    | cons o g => exact ⟨_, _, rfl⟩
  · intro d hd
    obtain ⟨g, _, rfl⟩ := List.mem_map.mp hd
    unfold encI
    rw [PyData.depth]
    have := depth_all (ds := g.map PyData.int) (n := 0) fun d hd => by obtain ⟨i, _, rfl⟩ := List.mem_map.mp hd; exact Nat.le_refl _
    omega
  · refine q p _ (e2.trans (same_upd hp)) (fresh_back e2 hp) ⟨ys, upd_same, DpAll.mono (same_upd hp) _ _ ?_⟩
    have := PySem.W.sort_maps (r := leI) (s := PySem.W.dataLe false id) encI (l := gs) fun a _ b _ => rfl
    rw [this]
    exact hys
theorem ev_few {N : Net} {x : V} {k : Int} {a : Addr} {row : Row} {i j m : Nat} (ok : NetOk N) (h0 : σ[i]? = some (some x)) (h1 : σ[j]? = some (some (.ref a))) (h2 : σ[m]? = some (some (.int k))) (dx : Dp K H x (encNet N)) (ha : H a = some (.dK (encDict row))) :
    EvD K (tCal (sp_law_few K) E0 (tCons (tVar i) (tCons (tVar j) (tCons (tVar m) tNil)))) σ H (.bool (decide ((fewN N.rs row : Int) ≤ k))) := fun H1 e Q q =>
  ⟨_, h0, _, h1, _, h2, x, a, k, N, row, rfl, Dp.mono e _ _ dx, ok, e _ _ ha, q⟩
theorem rd_law_all_worlds (vs : List V) (H : Hp) (Q : VK) (E : XK) (h : sp_law_all_worlds K vs H Q E) : t_law_all_worlds K { nx := fun _ H' => Q .non H', rt := Q } (start N_law_all_worlds vs) H := by
  obtain ⟨N, k, hd, ok, hsome, q⟩ := h
  obtain ⟨x, y, rfl, dx, dy⟩ := dp2 hd
  cases dp_int dy
  have two := ok.two
  have five := ok.five
  have few := ok.few
  refine q_asg (K := K) (ev_nm (ev_var rfl dx)) fun v H1 e1 dv => ?_
  cases dp_int dv
  refine q_c ?_
  intro g0 hg0
  refine ⟨upd_same, [(.inl 0, .int 0)], rfl, by decide, ?_⟩
  obtain ⟨H2, hH2⟩ : ∃ H2, H2 = upd (upd H1 g0 (.dK [])) g0 (.dK (mergeK [] [(.inl 0, .int 0)])) := ⟨_, rfl⟩
  have e2 : Same H1 H2 := fun a o ha => by
    have : a ≠ g0 := ne_of_none ha hg0
    rw [hH2, upd_ne this, upd_ne this]
    exact ha
  have g2 : H2 g0 = some (.dK (encDict [(0, 0)])) := by
    rw [hH2, upd_same]
    rfl
  rw [← hH2]
  refine ⟨by show 1 ≤ sizeLine; decide, fun p hp => tg1 ?_⟩
  have hpg : p ≠ g0 := fun e => by rw [e, g2] at hp; cases hp
  have s3 : Same H (upd H2 p (.lst [.ref g0])) := (e1.trans e2).trans (same_upd hp)
  have pa3 : DsAt (upd H2 p (.lst [.ref g0])) p (rowsR N.rs k 0) := ⟨[g0], upd_same, .cons (by rw [upd_ne (Ne.symm hpg)]; exact g2) .nil⟩
  generalize upd H2 p (.lst [.ref g0]) = H3 at s3 pa3
  refine q_for (K := K) (M := noM) (n := N.n - 1) (item := fun i => .int (i : Nat)) (ei_rng1 (EvD.to (ev_minus (ev_var rfl (.int (N.n : Int))) ev_int) (by congr 1; omega)) (by omega)) (fun s σ' H' => ∃ (p : Addr) (a b c d f g h i j : Option V), σ' = [some x, some (.int k), some (.int (N.n : Nat)), some (.ref p), a, b, c, d, f, g, h, i, j] ∧ Same H H' ∧ DsAt H' p (rowsR N.rs k s))
    (fun H4 e4 => ⟨p, none, none, none, none, none, none, none, none, none, rfl, s3.trans e4, pa3.mono e4⟩) (fun s σ' H4 H5 v hs p e5 dv Nx nx => ?_) fun σ' H4 p => ?_
  · obtain ⟨p, a, b, c, d, f, g, h, i, j, rfl, s4, pa4⟩ := p
    refine tg1 ?_
    obtain ⟨hlen, hsz⟩ := rowsR_P (rs := N.rs) (k := k) few s
    have pa5 := pa4.mono e5
    refine q_asgN (K := K) (ds := []) (en_lst (by show 0 ≤ 1000; decide) ea_nil) fun ml H6 e6 hm5 ma6 => ?_
    have s5 := s4.trans e5
    have hm0 : H ml = none := fresh_back s5 hm5
    obtain ⟨as, g1, g2⟩ := pa5
    have hmp : ml ≠ p := fun e => by rw [e, g1] at hm5; cases hm5
    have hal := paired_len g2
    have hrl : (rowsR N.rs k s).length ≤ 28561 := by
      have := Nat.pow_le_pow_right (show 0 < 13 by decide) (show s ≤ 4 by omega)
      omega
    have mds : DsAt H6 ml [] := by
      obtain ⟨zs, z1, z2⟩ := ma6
      cases z2
      exact ⟨[], z1, .nil⟩
    refine s_forV (K := K) (D := { nx := _, rt := _, bk := _, ct := _ }) (xs := as.map V.ref) rfl (e6 _ _ g1) (fun i σ' H' => ∃ (c d f g h i2 j : Option V), σ' = [some x, some (.int k), some (.int (N.n : Nat)), some (.ref p), some v, some (.ref ml), c, d, f, g, h, i2, j] ∧ Same H5 H' ∧ DsAt H' ml (((rowsR N.rs k s).take i).foldl (fun more row => N.rs.foldl (tryR N.rs k row) more) []))
      ⟨c, d, f, g, h, i, j, rfl, e6, mds⟩ (fun i σ' H' pp => by obtain ⟨_, _, _, _, _, _, _, _, pp, _⟩ := pp; exact pp _ _ g1) (fun i σ' H7 w hw p' Ny ny => ?_) fun σ' H7 p' => ?_
    · obtain ⟨c, d, f, g, h, i2, j, rfl, f7, ma7⟩ := p'
      rw [List.getElem?_map] at hw
      cases ha : as[i]? with
      | none => rw [ha] at hw; cases hw
      | some ra =>
        rw [ha] at hw
        cases hw
        obtain ⟨row, hrow, hra⟩ := paired_get g2 ha
        have hrlen := hlen row (List.mem_of_getElem? hrow)
        obtain ⟨more, hmore⟩ : ∃ more, ((rowsR N.rs k s).take i).foldl (fun more row => N.rs.foldl (tryR N.rs k row) more) [] = more := ⟨_, rfl⟩
        rw [hmore] at ma7
        have hml : more.length ≤ 400000 := by
          rw [← hmore]
          have := (outer_P (k := k) few ((rowsR N.rs k s).take i) [] (fun q hq => hlen q (List.mem_of_mem_take hq)) (fun _ h => by cases h)).2
          rw [List.length_take] at this
          simp only [List.length_nil] at this
          omega
        have hstep : N.rs.foldl (tryR N.rs k row) more = ((rowsR N.rs k s).take (i + 1)).foldl (fun more row => N.rs.foldl (tryR N.rs k row) more) [] := by
          rw [take_more hrow, List.foldl_append, hmore]
          rfl
        refine tg1 ?_
        refine s_for (K := K) (M := oneM ml) (ei_tup (ev_rs (ev_var rfl (Dp.mono (s5.trans f7) _ _ dx))) (rs_noL _)) (fun j σ' H' => ∃ (a7 a8 a9 a10 a11 a12 : Option V), σ' = [some x, some (.int k), some (.int (N.n : Nat)), some (.ref p), some v, some (.ref ml), some (.ref ra), a7, a8, a9, a10, a11, a12] ∧ Same H5 H' ∧ DsAt H' ml ((N.rs.take j).foldl (tryR N.rs k row) more))
          (fun H8 e8 => ⟨d, f, g, h, i2, j, rfl, f7.trans e8, ma7.mono e8⟩) (fun jj σ' H8 H9 w hj p8 e9 dw Nz nz => ?_) fun σ' H8 p8 => ?_
        · obtain ⟨a7, a8, a9, a10, a11, a12, rfl, f8, ma8⟩ := p8
          have hj : jj < N.rs.length := by simpa using hj
          obtain ⟨r, hr⟩ : ∃ r, N.rs[jj]? = some r := ⟨_, List.getElem?_eq_getElem hj⟩
          rw [rs_item hr] at dw
          refine tg3 dw fun x1 x2 x3 d1 d2 d3 => ?_
          cases dp_int d1
          cases dp_int d2
          cases dp_int d3
          have f9 := f8.trans e9
          have ma9 := ma8.mono e9
          have hra9 := f9 _ _ hra
          obtain ⟨mo, hmo⟩ : ∃ mo, (N.rs.take jj).foldl (tryR N.rs k row) more = mo := ⟨_, rfl⟩
          rw [hmo] at ma9
          have hmol : mo.length ≤ 400100 := by
            rw [← hmo]
            have := (inner_P (rs := N.rs) (k := k) (row := row) (P := fun _ => True) (fun _ => trivial) (N.rs.take jj) more (fun _ _ => trivial)).2
            rw [List.length_take] at this
            omega
          have hst : tryR N.rs k row mo r = (N.rs.take (jj + 1)).foldl (tryR N.rs k row) more := by
            rw [take_more hr, List.foldl_append, hmo]
            rfl
          refine q_c ?_
          refine ⟨_, rfl, ra, _, rfl, .inl hra9, fun gr hgr => tg1 ?_⟩
          obtain ⟨H10, hH10⟩ : ∃ H10, H10 = upd H9 gr (.dK (encDict row)) := ⟨_, rfl⟩
          have s10 : Same H9 H10 := by rw [hH10]; exact same_upd hgr
          have hg10 : H10 gr = some (.dK (encDict row)) := by rw [hH10]; exact upd_same
          rw [← hH10]
          have hra10 := s10 _ _ hra9
          obtain ⟨o1, ho1⟩ : ∃ o, rget row r.1 = o := ⟨_, rfl⟩
          obtain ⟨o2, ho2⟩ : ∃ o, rget row r.2.1 = o := ⟨_, rfl⟩
          have hgrow : growR row r = hb2 o1 o2 r := by unfold growR; rw [ho1, ho2]
          have bput : ∀ (H11 : Hp) (o : HO), Same H10 H11 → Same H9 (upd H11 gr o) := fun H11 o e11 => But.mut (s10.trans e11) hgr (But.upd (Same.refl H11))
          obtain ⟨row', hrow'⟩ : ∃ row', row' = (match growR row r with | some p => row ++ [p] | none => row) := ⟨_, rfl⟩
          refine q_ifP (fun H2 => Same H9 H2 ∧ H2 gr = some (.dK (encDict row'))) (b := o1.isSome && !o2.isSome) (et_and (et_B (K := K) (EvD.to (ev_dIn (ev_var rfl (.int (r.1 : Nat))) rfl hra10) (by rw [ho1]))) fun _ => et_B (K := K) (EvD.to (ev_dNotIn (ev_var rfl (.int (r.2.1 : Nat))) rfl hra10) (by rw [ho2]))) (fun hb H11 e11 Na na => ?_) (fun hb H11 e11 Na na => ?_) fun H11 p11 => ?_
          · cases o1 with
            | none => cases hb
            | some v1 =>
              cases o2 with
              | some _ => cases hb
              | none =>
                have hr' : row' = row ++ [(r.2.1, v1 + r.2.2)] := by rw [hrow', hgrow]; rfl
                refine s_dput (K := K) (g := gr) (row := row) (m := r.2.1) (v := v1 + r.2.2) (ev_plus (ev_dGet (ev_var rfl (.int (r.1 : Nat))) rfl (e11 _ _ hra10) ho1) (ev_var rfl (.int _))) rfl (ev_var rfl (.int _)) (e11 _ _ hg10) ho2 (by omega) fun H12 e12 => na _ ⟨bput _ _ (e11.trans e12), ?_⟩
                rw [hr']
                exact upd_same
          · refine s_if (b := o2.isSome && !o1.isSome) (et_and (et_B (K := K) (EvD.to (ev_dIn (ev_var rfl (.int (r.2.1 : Nat))) rfl (e11 _ _ hra10)) (by rw [ho2]))) fun _ => et_B (K := K) (EvD.to (ev_dNotIn (ev_var rfl (.int (r.1 : Nat))) rfl (e11 _ _ hra10)) (by rw [ho1]))) (fun hc H12 e12 => ?_) fun hc H12 e12 => ?_
            · cases o2 with
              | none => cases hc
              | some v2 =>
                cases o1 with
                | some _ => cases hc
                | none =>
                  have hr' : row' = row ++ [(r.1, v2 - r.2.2)] := by rw [hrow', hgrow]; rfl
                  refine s_dput (K := K) (g := gr) (row := row) (m := r.1) (v := v2 - r.2.2) (ev_minus (ev_dGet (ev_var rfl (.int (r.2.1 : Nat))) rfl ((e11.trans e12) _ _ hra10) ho2) (ev_var rfl (.int _))) rfl (ev_var rfl (.int _)) ((e11.trans e12) _ _ hg10) ho1 (by omega) fun H13 e13 => na _ ⟨bput _ _ ((e11.trans e12).trans e13), ?_⟩
                  rw [hr']
                  exact upd_same
            · have hr' : row' = row := by
                rw [hrow', hgrow]
                cases o1 <;> cases o2 <;> first | rfl | (cases hb; done) | (cases hc; done)
              exact na _ ⟨s10.trans (e11.trans e12), by rw [hr']; exact (e11.trans e12) _ _ hg10⟩
          · obtain ⟨s11, hg11⟩ := p11
            have ma11 := ma9.mono s11
            have htry : tryR N.rs k row mo r = if (decide ((row.length : Int) < (row'.length : Int)) && (!(mo.any fun q => rowEq q row') && decide ((fewN N.rs row' : Int) ≤ k))) = true then mo ++ [row'] else mo := by
              unfold tryR
              cases e : growR row r with
              | none =>
                rw [e] at hrow'
                simp only at hrow' ⊢
                rw [if_neg (by rw [hrow']; simp)]
              | some pp =>
                rw [e] at hrow'
                simp only at hrow' ⊢
                have : decide ((row.length : Int) < (row'.length : Int)) = true := decide_eq_true (by rw [hrow', List.length_append]; simp; omega)
                rw [this, Bool.true_and, hrow']
            have hnot : ∀ as' : List Addr, H11 ml = some (.lst (as'.map V.ref)) → gr ∉ as' := fun as' h1 hmem => by
              obtain ⟨as9, z1, z2⟩ := ma9
              have z3 := s11 _ _ z1
              rw [h1] at z3
              have z4 : as'.map V.ref = as9.map V.ref := by injection z3 with z3; injection z3
              have : V.ref gr ∈ as9.map V.ref := by rw [← z4]; exact List.mem_map.mpr ⟨gr, hmem, rfl⟩
              obtain ⟨b, hb1, hb2⟩ := List.mem_map.mp this
              injection hb2 with hb2
              subst hb2
              obtain ⟨_, _, z5⟩ := paired_mem z2 hb1
              rw [hgr] at z5
              cases z5
            have dx11 := Dp.mono ((s5.trans f9).trans s11) _ _ dx
            refine s_when (b := decide ((row.length : Int) < (row'.length : Int)) && (!(mo.any fun q => rowEq q row') && decide ((fewN N.rs row' : Int) ≤ k))) (et_and (et_test (ev_gt (K := K) (ev_lenD rfl hg11) (ev_lenD rfl (s11 _ _ hra9)))) fun _ => et_and (et_test (ev_notInDs (K := K) rfl rfl hg11 ma11 hnot)) fun _ => et_B (ev_few ok rfl rfl rfl dx11 hg11)) (fun hb H12 e12 => ?_) fun hb H12 e12 => ?_
            · rw [if_pos hb] at htry
              obtain ⟨as12, z1, z2⟩ := ma11.mono e12
              have hl12 := paired_len z2
              refine ⟨_, rfl, .inl ⟨rfl, _, SqL.of z1⟩, _, rfl, ml, _, .ref gr, rfl, rfl, z1, ?_, ?_⟩
              · rw [List.length_map]
                have : 1000000 < sizeLine := by decide
                omega
              · have bt : But ml H12 (upd H12 ml (.lst (as12.map V.ref ++ [.ref gr]))) := But.upd (Same.refl H12)
                have hgl : gr ≠ ml := fun e => by rw [e] at hg11; have := e12 _ _ hg11; rw [z1] at this; cases this
                refine nz _ _ ((same_butM (s11.trans e12)).trans (But.butM bt rfl ⟨_, z1⟩)) ⟨_, _, _, _, _, _, rfl, But.mut ((f9.trans s11).trans e12) hm5 bt, ?_⟩
                rw [← hst, htry]
                refine ⟨as12 ++ [gr], by rw [List.map_append]; exact upd_same, paired_app (paired_imp z2 fun b rw' _ hbb => ?_) (bt _ _ hgl (e12 _ _ hg11))⟩
                exact bt _ _ (fun e => by rw [e, z1] at hbb; cases hbb) hbb
            · rw [if_neg (by rw [hb]; decide)] at htry
              refine nz _ _ (same_butM (s11.trans e12)) ⟨_, _, _, _, _, _, rfl, (f9.trans s11).trans e12, ?_⟩
              rw [← hst, htry]
              exact ma11.mono e12
        · obtain ⟨a7, a8, a9, a10, a11, a12, rfl, f8, ma8⟩ := p8
          rw [List.length_map, List.take_length, hstep] at ma8
          exact ny _ _ ⟨_, _, _, _, _, _, _, rfl, f8, ma8⟩
    · obtain ⟨c, d, f, g, h, i2, j, rfl, f7, ma7⟩ := p'
      rw [List.length_map, hal, List.take_length] at ma7
      exact ⟨_, rfl, nx _ _ (same_butM f7) ⟨ml, _, _, _, _, _, _, _, _, _, rfl, s5.trans f7, ma7⟩⟩
  · obtain ⟨p, a, b, c, d, f, g, h, i, j, rfl, s4, pa4⟩ := p
    obtain ⟨as, g1, g2⟩ := pa4
    have hal := paired_len g2
    obtain ⟨hlen, hsz⟩ := rowsR_P (rs := N.rs) (k := k) few (N.n - 1)
    have hrl : (rowsR N.rs k (N.n - 1)).length ≤ 28561 := by
      have := Nat.pow_le_pow_right (show 0 < 13 by decide) (show N.n - 1 ≤ 4 by omega)
      omega
    refine q_asgN (K := K) (ds := ((rowsR N.rs k (N.n - 1)).map (fullR N.n)).map encI) (EvN.to (en_lcV (xs := as.map V.ref) rfl g1 (fun i => encI (fullR N.n ((rowsR N.rs k (N.n - 1)).getD i []))) (by rw [List.length_map]; omega) (fun i => noL_encI _) fun i H5 w hw e5 Q q => tg1 <| q _ H5 (Same.refl H5) rfl ?_) ?_) fun fp H5 e5 hf0 fa5 => ?_
    · rw [List.getElem?_map] at hw
      cases ha : as[i]? with
      | none => rw [ha] at hw; cases hw
      | some ra =>
        rw [ha] at hw
        cases hw
        obtain ⟨row, hrow, hra⟩ := paired_get g2 ha
        have e0 : (rowsR N.rs k (N.n - 1)).getD i [] = row := by rw [List.getD_eq_getElem?_getD, hrow]; rfl
        rw [e0]
        refine ev_tupL (EvN.dd (EvN.to (en_lcM (M := noM) (List.range N.n) encN (ei_rng1 (ev_var rfl (.int (N.n : Nat))) (by omega)) (by simp) (fun i b h => range_item _ i b h) (fun m => .int ((rget row m).getD 0)) (by simp; omega) (fun _ _ => rfl)
          fun m hm H6 u e6 du Q q => tg1 <| q _ H6 (Same.refl H6) rfl ?_) (by unfold fullR; rw [List.map_map]; rfl)))
        obtain ⟨vv, hvv⟩ := Option.isSome_iff_exists.mp (hsome row (List.mem_of_getElem? hrow) m (List.mem_range.mp hm))
        rw [hvv]
        exact ev_dGet (ev_var rfl du) rfl ((e5.trans e6) _ _ hra) hvv
    · rw [List.length_map, hal, List.map_map]
      apply List.ext_getElem?
      intro i
      rw [List.getElem?_map, List.getElem?_map]
      by_cases c : i < (rowsR N.rs k (N.n - 1)).length
      · rw [List.getElem?_range c, getD_some (d := []) c]
        rfl
      · rw [List.getElem?_eq_none (by simpa using c : (List.range (rowsR N.rs k (N.n - 1)).length).length ≤ i), List.getElem?_eq_none (by omega)]
        rfl
    · refine s_ret (K := K) (ev_tupL (EvN.dd (en_sortI (ev_var rfl fa5.dp) fun g hg e => ?_))) fun v H6 e6 dv => q v H6 ((s4.trans e5).trans e6) dv
      obtain ⟨row, _, rfl⟩ := List.mem_map.mp hg
      have h1 : (fullR N.n row).length = N.n := by
        unfold fullR
        rw [List.length_map, List.length_range]
      rw [e] at h1
      simp only [List.length_nil] at h1
      omega
end
end K11
end

/-! ## K11RdN -/
section
set_option maxHeartbeats 4000000
/-! What the reading of law comes to. -/
namespace K11
open PySem PySem.Spec PyProof.Rows L2
section
variable {K : PySem.W.Frag} {M : Addr → Prop} {σ : L2.St} {H H' H0 H1 H2 : Hp} {ta tb tc te tl : TE} {ds es : List PyData} {d dz : PyData} {D : Ends} {tu tw tz : TS} {t t1 t2 : TT} {Q : VK} {l p : Addr} {B : Bx}
theorem q_whenLtR {P : PyData → Prop} {j : Int} (hA : EvR K ta σ H P) (hP : ∀ d, P d → ∃ i : Int, d = .int i) (hB : EvD K tb σ H (.int j)) (h1 : ∀ (i : Int) H1, P (.int i) → Same H H1 → i < j → tu { D with nx := tz D } σ H1) (h2 : ∀ (i : Int) H1, P (.int i) → Same H H1 → ¬ i < j → tz D σ H1) :
    tSeq (tIfS (tTest (tOp rLt ta tb)) tu tNext) tz D σ H := hA H (Same.refl H) _ fun x H1 d pd e1 dx => hB H1 e1 _ fun y H2 e2 dy => by
  obtain ⟨i, rfl⟩ := hP d pd
  cases dp_int dx
  cases dp_int dy
  refine ⟨i, j, rfl, rfl, decide (i < j), rfl, ?_⟩
  by_cases c : i < j
  · rw [decide_eq_true c]
    exact h1 i H2 pd (e1.trans e2) c
  · rw [decide_eq_false c]
    exact h2 i H2 pd (e1.trans e2) c
theorem q_whenAnd {b : Bool} (h : EvT t1 σ H b) (ht : b = true → ∀ H1, Same H H1 → ∀ Q : Bool → Hp → Prop, (∀ b2 H2, But B.b H1 H2 → BoxAt K H2 B → Q b2 H2) → t2 σ H1 Q) (hb : BoxAt K H B)
    (h1 : b = true → ∀ H1, But B.b H H1 → BoxAt K H1 B → tu { D with nx := tz D } σ H1) (h2 : ∀ H1, But B.b H H1 → BoxAt K H1 B → tz D σ H1) : tSeq (tIfS (tAnd t1 t2) tu tNext) tz D σ H := h H (Same.refl H) _ fun H1 e1 => by
  cases b with
  | true =>
    refine iteT ?_
    refine ht rfl H1 e1 _ fun b2 H2 b2' bx2 => ?_
    cases b2 with
    | true => exact h1 rfl H2 ((same_but e1 _).trans b2') bx2
    | false => exact h2 H2 ((same_but e1 _).trans b2') bx2
  | false => exact h2 H1 (same_but e1 _) (hb.mono e1)
theorem eqvAll_refl : ∀ {ds : List PyData}, (∀ d ∈ ds, PyData.eqv d d = true) → PyData.eqvAll ds ds = true
  | [], _ => rfl
  | d :: ds, h => by rw [PyData.eqvAll, h d (by simp), eqvAll_refl fun e he => h e (by simp [he])]; rfl
theorem eqvI_refl (h : List Int) : PyData.eqv (encI h) (encI h) = true := by
  unfold encI
  rw [PyData.eqv]
  exact eqvAll_refl fun d hd => by
    obtain ⟨i, _, rfl⟩ := List.mem_map.mp hd
    simp [PyData.eqv]
theorem eqvIs_refl (W : List (List Int)) : PyData.eqv (.tuple (W.map encI)) (.tuple (W.map encI)) = true := by
  rw [PyData.eqv]
  exact eqvAll_refl fun d hd => by
    obtain ⟨h, _, rfl⟩ := List.mem_map.mp hd
    exact eqvI_refl h
theorem eqvS_refl (ws : List Str) : PyData.eqv (.tuple (ws.map .str)) (.tuple (ws.map .str)) = true := by
  rw [PyData.eqv]
  exact eqvAll_refl fun d hd => by
    obtain ⟨h, _, rfl⟩ := List.mem_map.mp hd
    simp [PyData.eqv]
theorem encI_lay (h : List Int) : (encI h).canLay0 = true ∧ (encI h).depth ≤ 1 := by
  have g := lay_encI h
  unfold SeqAt.shaped at g
  rw [Bool.and_eq_true] at g
  refine ⟨g.1, ?_⟩
  unfold encI
  rw [PyData.depth]
  have := depth_all (ds := h.map PyData.int) (n := 0) fun d hd => by obtain ⟨i, _, rfl⟩ := List.mem_map.mp hd; exact Nat.le_refl _
  omega
theorem shaped_Is (W : List (List Int)) : SeqAt.shaped (.tuple (W.map encI)) = true := shaped_tuple
  (fun d hd => by obtain ⟨g, _, rfl⟩ := List.mem_map.mp hd; exact (encI_lay g).1) (fun d hd => by obtain ⟨g, _, rfl⟩ := List.mem_map.mp hd; have := (encI_lay g).2; omega)
theorem lay_verdict (told : List (List Int)) (i : Int) : (PyData.str (verdictOf told i)).canLay0 = true := by
  unfold verdictOf
  rw [PyData.canLay0]
  unfold PyData.strOk
  rw [← Array.all_toList]
  split
  · decide
  · split <;> decide
theorem mem_verdicts {rs : List Rdg} {W : List (List Int)} {w : Str} (h : w ∈ verdictsF rs W) : ∃ i, w = verdictOf (W.map (lies rs)) i := by
  unfold verdictsF at h
  split at h
  · cases h
  · obtain ⟨i, _, rfl⟩ := List.mem_map.mp h
    exact ⟨_, rfl⟩
theorem shaped_words (rs : List Rdg) (W : List (List Int)) : SeqAt.shaped (.tuple ((verdictsF rs W).map .str)) = true := shaped_tuple
  (fun d hd => by
    obtain ⟨w, hw, rfl⟩ := List.mem_map.mp hd
    obtain ⟨i, rfl⟩ := mem_verdicts hw
    exact lay_verdict _ _) (fun d hd => by obtain ⟨w, _, rfl⟩ := List.mem_map.mp hd; show (0 : Nat) ≤ 40; decide)
theorem ev_repB {b : Bool} (ha : EvD K ta σ H (.tuple ds)) (hb : EvD K tb σ H (.int (if b then 1 else 0))) (hz : ds.length ≤ 1000) : EvD K (tOp (rRepA K) ta tb) σ H (.tuple (if b then ds else [])) :=
  ev_op ha hb fun x y H1 _ dx dy Q q => by
    obtain ⟨a, xs, rfl, hs, hdx⟩ := dp_tup dx
    cases dp_int dy
    have hl := dpAll_len hdx
    cases b with
    | true => exact ⟨a, 1, xs, rfl, rfl, hs, by decide, by decide, by omega, fun _ => q _ H1 (Same.refl H1) (.tup hs hdx), fun _ h => (h rfl).elim⟩
    | false =>
      refine ⟨a, 0, xs, rfl, rfl, hs, by decide, by decide, by omega, fun h => ?_, fun _ _ p hp => ?_⟩
      · rcases h with h | h
        · rw [h] at hl hs
          exact q _ H1 (Same.refl H1) (.tup hs .nil)
        · cases h
      · exact q _ _ (same_upd hp) (.tup (SqT.of upd_same) .nil)
end
section
variable {K : PySem.W.Frag}
theorem told_len (rs : List Rdg) (W : List (List Int)) (i : Int) : ((W.map (lies rs)).filter fun row => row.contains i).length = (W.filter fun h => (lies rs h).contains i).length := by
  rw [List.filter_map, List.length_map]
  rfl
theorem rd_law (C : Addr) (vs : List V) (H : Hp) (Q : VK) (E : XK) (h : sp_law K vs H Q E) : t_law K C { nx := fun _ H' => Q .non H', rt := Q } (start N_law vs) H := by
  obtain ⟨ns, hd, q⟩ := h
  obtain ⟨x, rfl, dx⟩ := dp1 hd
  refine q_c ?_
  refine enr_cal (K := K) (ea3 (ev_var rfl dx) ev_int ev_int) (fun vs H1 Q e1 dv qq => ⟨ns, dv, qq⟩) H (Same.refl H) _ fun dl H1 ds hP e1 hdl la => ?_
  obtain ⟨is, rfl, his⟩ := hP
  refine ⟨by show 2 ≤ sizeLine; decide, fun b hb => tg1 ?_⟩
  obtain ⟨xs, g1, g2⟩ := la
  obtain rfl := ints_vs g2
  have hne : dl ≠ b := fun e => by rw [e, hb] at g1; cases g1
  obtain ⟨H2, hH2⟩ : ∃ H2, H2 = upd H1 b (.lst [.ref dl, .int 0]) := ⟨_, rfl⟩
  obtain ⟨B, hB⟩ : ∃ B : Bx, B = ⟨b, dl, is⟩ := ⟨_, rfl⟩
  have bx2 : BoxAt K H2 B := by
    rw [hB, hH2]
    exact ⟨0, upd_same, hne, SqL.of (by rw [upd_ne hne]; exact g1), by show is.length ≤ 100000; omega⟩
  have hBb : b = B.b := by rw [hB]
  rw [← hH2, hBb]
  clear hH2 hB hBb g2 g1 hb hne
  refine q_c ⟨_, rfl, B, rfl, bx2, fun v2 H3 N ok b3 bx3 dv3 => tg1 (q_c ?_)⟩
  refine c_draw (K := K) (B := B) rfl bx3 ev_int (by decide) fun k H4 h0 h4 b4 bx4 => tg1 ?_
  have h3 : k ≤ 3 := by omega
  have dn := Dp.box bx3 b4 (noL_net ok.nm) dv3
  have few := ok.few
  have five := ok.five
  have two := ok.two
  refine q_whenLtR (K := K) (P := fun d => ∃ t : Nat, d = .int (t : Nat) ∧ MinCut N t) (er_cal (ea1 (ev_var rfl dn)) fun vs H5 Q e5 dv qq => ⟨N, dv, ok, qq⟩) (fun d ⟨t, h, _⟩ => ⟨_, h⟩) (ev_plus (ev_var rfl (.int k)) ev_int) (fun i H5 hi e5 hlt => ?_) fun i H5 hi e5 hlt => ?_
  · obtain ⟨t, ht, mc⟩ := hi
    injection ht with ht
    exact s_ret (K := K) (d := .bool true) (ev_cal (ea2 (ev_var rfl (Dp.mono e5 _ _ dn)) (ev_var rfl (.int k))) fun vs H6 Q e6 dv qq => ⟨N, k, t, dv, ok, h0, h3, mc, by omega, qq⟩) fun v H6 e6 dv => by cases dp_bool dv; exact q H6
  · obtain ⟨t, ht, mc⟩ := hi
    injection ht with ht
    have hk : k + 1 ≤ (t : Int) := by omega
    obtain ⟨W, hW, whole⟩ := worlds_ok ok h0 h3 mc hk
    obtain ⟨lw, som⟩ := law_ok ok h0 mc hk
    have hLW : lawWorlds N.rs k N.n = W := lw.uniq whole
    refine q_asg (K := K) (d := .tuple (W.map encI)) (ev_cal (ea2 (ev_var rfl (Dp.mono e5 _ _ dn)) (ev_var rfl (.int k))) fun vs H6 Q e6 dv qq => ⟨N, k, dv, ok, som, by rw [hLW]; exact qq⟩) fun v4 H6 e6 d4 => ?_
    refine q_when (b := decide ((200 : Int) < (W.length : Int))) (et_test (EvD.to (ev_gt (K := K) (ev_lenT (ev_var rfl d4)) ev_int) (by rw [List.length_map]))) (fun _ H7 e7 => s_ret (K := K) ev_bl fun v H8 _ dv => by cases dp_bool dv; exact q H8) fun hb H7 e7 => ?_
    have h200 : W.length ≤ 200 := by
      have := of_decide_eq_false hb
      omega
    have dn7 := Dp.mono (e5.trans (e6.trans e7)) _ _ dn
    have d47 := Dp.mono e7 _ _ d4
    refine q_when (b := !PyData.eqv (.tuple (W.map encI)) (.tuple (W.map encI))) (et_test (ev_neD (K := K) (shaped_Is W) (shaped_Is W) (ev_calX (ea2 (ev_var rfl dn7) (ev_var rfl (.int k))) fun vs H8 Q e8 dv qq => ⟨N, k, t, dv, ok, h0, h3, mc, fun hb => by omega, fun _ => ⟨W, hW, h200, qq⟩⟩) (ev_var rfl d47))) (fun hb => by rw [eqvIs_refl] at hb; cases hb) fun _ H8 e8 => ?_
    have dn8 := Dp.mono e8 _ _ dn7
    have d48 := Dp.mono e8 _ _ d47
    have bx8 := bx4.mono (e5.trans (e6.trans (e7.trans e8)))
    clear e5 e6 e7 e8 d4 d47 dn7 dn
    refine q_asgN (K := K) (ds := []) (en_lst (by show 0 ≤ 1000; decide) ea_nil) fun wl H9 e9 hw8 wa9 => ?_
    have hlies : ∀ (σ : L2.St) (H10 : Hp) (w : V) (h : List Int), σ[2]? = some (some v2) → σ[8]? = some (some w) → Dp K H10 v2 (encNet N) → Dp K H10 w (encI h) → h.length = N.n → EvD K (tCal (sp_law_lies K) E0 (tCons (tVar 2) (tCons (tVar 8) tNil))) σ H10 (encI (lies N.rs h)) := fun σ H10 w h a2 a8 d2 dw hl =>
      ev_cal (ea2 (ev_var a2 d2) (ev_var a8 dw)) fun vs H11 Q e11 dv qq => ⟨N, h, dv, ok, hl, qq⟩
    refine q_for (K := K) (M := oneM wl) (n := N.rs.length) (item := fun i => .int (i : Nat)) (ei_rng1 (EvD.to (ev_lenT (ev_rs (ev_var rfl (Dp.mono e9 _ _ dn8)))) (by rw [List.length_map])) (by omega)) (fun i σ' H' => ∃ (a b c d : Option V), σ' = [some x, some (.ref B.b), some v2, some (.int k), some v4, some (.ref wl), a, b, none, c, d] ∧ Same H8 H' ∧ LstAt K H' wl (((List.range i).map fun (i : Nat) => verdictOf (W.map (lies N.rs)) (i : Int)).map .str))
      (fun H10 e10 => ⟨none, none, none, none, rfl, e9.trans e10, wa9.mono e10⟩) (fun i σ' H10 H11 v hi p e11 dv Nx nx => ?_) fun σ' H10 p => ?_
    · obtain ⟨a, b, c, d, rfl, s10, wa10⟩ := p
      cases dp_int dv
      refine tg1 ?_
      have s11 := s10.trans e11
      have dn11 := Dp.mono s11 _ _ dn8
      have d411 := Dp.mono s11 _ _ d48
      refine q_asg (K := K) (d := .int ((W.filter fun h => (lies N.rs h).contains (i : Int)).length : Nat)) (EvD.to (ev_lenL (EvN.dd (en_lcB (M := noM) W encI (ei_tup (ev_var rfl d411) (noLAll_map _ _ fun b _ => noL_encI b)) (by simp) (fun i b hb => getD_of (get_map encI hb)) (fun h => (lies N.rs h).contains (i : Int)) encI (by omega) (fun h _ _ => noL_encI h)
        fun h hh H12 w e12 dw Q q => tg1 <| q _ H12 (Same.refl H12) rfl (et_test (ev_inT (neg := false) (ev_var rfl (.int _)) (hlies _ H12 w h rfl rfl (Dp.mono e12 _ _ dn11) dw (hW.len h hh)))) fun _ => ev_var rfl dw))) (by rw [List.length_map])) fun mv H12 e12 dm => ?_
      cases dp_int dm
      refine q_asg (K := K) (d := .str "open") ev_str fun wv H13 e13 dwv => ?_
      cases dp_str dwv
      have s13 := s11.trans (e12.trans e13)
      have wa13 := wa10.mono (e11.trans (e12.trans e13))
      have d413 := Dp.mono s13 _ _ d48
      have rest : ∀ (w : Str) (H14 : Hp), Same H13 H14 → w = verdictOf (W.map (lies N.rs)) (i : Int) → ∀ D : Ends, D.nx = Nx → tDrop (tBM K "list" rAppend (tVar 5) (tCons (tVar 9) tNil)) D [some x, some (.ref B.b), some v2, some (.int k), some v4, some (.ref wl), some (.int (i : Nat)), some (.int ((W.filter fun h => (lies N.rs h).contains (i : Int)).length : Nat)), none, some (.str w), d] H14 := by
        intro w H14 e14 hw D hD
        refine s_app (K := K) (l := wl) (d := .str w) rfl (wa13.mono e14) (noLAll_map _ _ fun _ _ => rfl) rfl (ev_var rfl (.str w)) (by simp; omega) fun H15 b15 wa15 => ?_
        rw [hD]
        refine nx _ _ ((same_butM ((e12.trans e13).trans e14)).trans (But.butM b15 rfl (wa13.mono e14).some)) ⟨_, _, _, _, rfl, But.mut (s13.trans e14) hw8 b15, ?_⟩
        rw [List.range_succ, List.map_append, List.map_append]
        rw [hw] at wa15
        exact wa15
      have htl := told_len N.rs W (i : Int)
      refine q_if (b := decide (((W.filter fun h => (lies N.rs h).contains (i : Int)).length : Int) = 0)) (et_test (ev_eqI (K := K) (ev_var rfl (.int _)) ev_int)) (fun hb H14 e14 => ?_) fun hb H14 e14 => ?_
      · have hb := of_decide_eq_true hb
        refine s_asg (K := K) (d := .str "kept") ev_str fun wv H15 e15 dwv => ?_
        cases dp_str dwv
        exact rest "kept" H15 (e14.trans e15) (by unfold verdictOf; rw [htl, if_pos (by omega)]) _ rfl
      · have hb := of_decide_eq_false hb
        refine s_if (b := decide (((W.filter fun h => (lies N.rs h).contains (i : Int)).length : Int) = (W.length : Int))) (et_test (EvD.to (ev_eqI (K := K) (ev_var rfl (.int _)) (ev_lenT (ev_var rfl (Dp.mono e14 _ _ d413)))) (by rw [List.length_map]))) (fun hc H15 e15 => ?_) fun hc H15 e15 => ?_
        · have hc := of_decide_eq_true hc
          refine s_asg (K := K) (d := .str "lies") ev_str fun wv H16 e16 dwv => ?_
          cases dp_str dwv
          exact rest "lies" H16 (e14.trans (e15.trans e16)) (by unfold verdictOf; rw [htl, if_neg (by omega), if_pos (by rw [List.length_map]; omega)]) _ rfl
        · have hc := of_decide_eq_false hc
          exact rest "open" H15 (e14.trans e15) (by unfold verdictOf; rw [htl, if_neg (by omega), if_neg (by rw [List.length_map]; omega)]) _ rfl
    · obtain ⟨a, b', c, d, rfl, s10, wa10⟩ := p
      have dn10 := Dp.mono s10 _ _ dn8
      have d410 := Dp.mono s10 _ _ d48
      have hv : (if (decide (W ≠ [])) = true then ((List.range N.rs.length).map fun (i : Nat) => verdictOf (W.map (lies N.rs)) (i : Int)).map PyData.str else []) = (verdictsF N.rs W).map .str := by
        unfold verdictsF
        by_cases c : W = []
        · rw [if_neg (by simp [c]), if_pos c]
          rfl
        · rw [if_pos (by simp [c]), if_neg c]
      refine q_when (b := !PyData.eqv (.tuple ((verdictsF N.rs W).map .str)) (.tuple ((verdictsF N.rs W).map .str))) (et_test (ev_neD (K := K) (shaped_words N.rs W) (shaped_words N.rs W) (ev_calX (ea2 (ev_var rfl dn10) (ev_var rfl (.int k))) fun vs H8 Q e8 dv qq => ⟨N, k, t, dv, ok, h0, h3, mc, fun hb => by omega, fun _ => ⟨W, hW, h200, qq⟩⟩)
        (EvD.to (ev_repB (b := decide (W ≠ [])) (ev_tupL (ev_var rfl wa10.dp)) (EvD.to (ev_intB (b := decide (W ≠ [])) (EvD.to (ev_neD (K := K) (shaped_Is W) shaped_nilT (ev_var rfl d410) (ev_tup (ds := []) (by show 0 ≤ 1000; decide) ea_nil)) (by cases W <;> rfl))) rfl) (by simp; omega)) (by rw [hv])))) (fun hb => by rw [eqvS_refl] at hb; cases hb) fun _ H11 e11 => ?_
      have dn11 := Dp.mono e11 _ _ dn10
      have d411 := Dp.mono e11 _ _ d410
      have bx11 := bx8.mono (s10.trans e11)
      refine q_for (K := K) (M := oneM B.b) (n := 4) (item := fun i => .int (i : Nat)) (ei_rng1 ev_int (by decide)) (fun i σ' H' => ∃ (a b c d e f : Option V), σ' = [some x, some (.ref B.b), some v2, some (.int k), some v4, a, b, c, d, e, f] ∧ But B.b H11 H' ∧ BoxAt K H' B)
        (fun H12 e12 => ⟨_, _, _, _, _, _, rfl, same_but e12 _, bx11.mono e12⟩) (fun i σ' H12 H13 v hi p e13 dv Nx nx => ?_) fun σ' H12 p => ?_
      · obtain ⟨a, b, c, d, e, f, rfl, b12, bx12⟩ := p
        refine tg1 ?_
        have b13 := b12.trans (same_but e13 B.b)
        have bx13 := bx12.mono e13
        have dn13 := Dp.box bx11 b13 (noL_net ok.nm) dn11
        have nW : noL (.tuple (W.map encI)) = true := by rw [noL_tuple]; exact noLAll_map _ _ fun b _ => noL_encI b
        have d413 := Dp.box bx11 b13 nW d411
        refine q_c ⟨_, rfl, (ev_nm (K := K) (ev_var rfl dn13)) H13 (Same.refl H13) _ fun y H14 e14 dy => ?_⟩
        cases dp_int dy
        refine ⟨B, N.n, rfl, bx13.mono e14, by omega, five, fun hv H15 h hl b15 bx15 dh => tg1 ?_⟩
        have bA := (same_but e14 B.b).trans b15
        have dn15 := Dp.box bx13 bA (noL_net ok.nm) dn13
        have d415 := Dp.box bx13 bA nW d413
        have bm15 : ButM (oneM B.b) H13 H15 := But.butM bA rfl bx13.at
        have fin : ∀ (hv : V) (h : List Int) (H16 : Hp), h.length = N.n → But B.b H15 H16 → BoxAt K H16 B → Dp K H16 hv (encI h) → ∀ D : Ends, D.nx = Nx → tIfS (tTest (tOp rNe (tCal (sp_is_world K) E0 (tCons (tVar 2) (tCons (tVar 3) (tCons (tVar 8) tNil)))) (tOp rLe (tCB (rLenQ K) (tCons (tCal (sp_law_lies K) E0 (tCons (tVar 2) (tCons (tVar 8) tNil))) tNil)) (tVar 3)))) (tRet (tC (.bl false))) tNext D [some x, some (.ref B.b), some v2, some (.int k), some v4, a, b, c, some hv, e, some v] H16 := by
          intro hv h H16 hl b16 bx16 dh D hD
          have dn16 := Dp.box bx15 b16 (noL_net ok.nm) dn15
          refine s_when (b := decide (((lies N.rs h).length : Int) ≤ k) != decide (((lies N.rs h).length : Int) ≤ k)) (et_test (ev_neB (K := K) (ev_cal (ea3 (ev_var rfl dn16) (ev_var rfl (.int k)) (ev_var rfl dh)) fun vs H17 Q e17 dv qq => ⟨N, k, h, dv, ok, hl, qq⟩) (EvD.to (ev_le (ev_lenT (hlies _ H16 hv h rfl rfl dn16 dh hl)) (ev_var rfl (.int k))) (by rw [List.length_map])))) (fun hb => by simp at hb) fun _ H17 e17 => ?_
          rw [hD]
          refine nx _ _ (bm15.trans ((But.butM (M := oneM B.b) b16 rfl bx15.at).trans (same_butM e17))) ⟨_, _, _, _, _, _, rfl, ((b13.trans bA).trans b16).trans (same_but e17 _), bx16.mono e17⟩
        refine q_whenAnd (K := K) (B := B) (b := decide (W ≠ [])) (et_test (EvD.to (ev_neD (K := K) (shaped_Is W) shaped_nilT (ev_var rfl d415) (ev_tup (ds := []) (by show 0 ≤ 1000; decide) ea_nil)) (by cases W <;> rfl))) (fun _ H16 e16 Q2 q2 => ?_) bx15 (fun hb H16 b16 bx16 => ?_) fun H16 b16 bx16 => fin hv h H16 hl b16 bx16 (Dp.box bx15 b16 (noL_encI h) dh) _ rfl
        · exact c_draw (K := K) (B := B) rfl (bx15.mono e16) ev_int (by decide) fun r H17 _ _ b17 bx17 => ⟨rfl, _, rfl, q2 _ H17 b17 bx17⟩
        · have hb := of_decide_eq_true hb
          have d416 := Dp.box bx15 b16 nW d415
          refine ⟨_, rfl, _, rfl, B, v4, W.map encI, rfl, bx16, .inr d416, by simpa using hb, noLAll_map _ _ fun b _ => noL_encI b, fun dd yy H17 hdd b17 bx17 dyy => tg1 ?_⟩
          obtain ⟨h2, hh2, rfl⟩ := List.mem_map.mp hdd
          exact fin yy h2 H17 (hW.len h2 hh2) (b16.trans b17) bx17 dyy _ rfl
      · obtain ⟨a, b, c, d, e, f, rfl, b12, bx12⟩ := p
        exact s_ret (K := K) ev_bl fun v H13 _ dv => by cases dp_bool dv; exact q H13
end
end K11
end

/-! ## K11Fin -/
section
set_option maxHeartbeats 0
/-! The head's facts, the defs together, the law; printed by genfin.py. -/
namespace K11
open PySem PySem.Spec PyProof.Rows L2
def d_search : He.DefD := ⟨("search", none), "search", "search", defArgs s_search, defBody s_search, defScope s_search, [], []⟩
def d_greatest_flow : He.DefD := ⟨("greatest_flow", none), "greatest_flow", "greatest_flow", defArgs s_greatest_flow, defBody s_greatest_flow, defScope s_greatest_flow, [], []⟩
def d_next_reading : He.DefD := ⟨("next_reading", none), "next_reading", "next_reading", defArgs s_next_reading, defBody s_next_reading, defScope s_next_reading, [], []⟩
def d_ways_of : He.DefD := ⟨("ways_of", none), "ways_of", "ways_of", defArgs s_ways_of, defBody s_ways_of, defScope s_ways_of, [], []⟩
def d_side_of : He.DefD := ⟨("side_of", none), "side_of", "side_of", defArgs s_side_of, defBody s_side_of, defScope s_side_of, [], []⟩
def d_least_cut : He.DefD := ⟨("least_cut", none), "least_cut", "least_cut", defArgs s_least_cut, defBody s_least_cut, defScope s_least_cut, [], []⟩
def d_strength_paper : He.DefD := ⟨("strength_paper", none), "strength_paper", "strength_paper", defArgs s_strength_paper, defBody s_strength_paper, defScope s_strength_paper, [], []⟩
def d_strength : He.DefD := ⟨("strength", none), "strength", "strength", defArgs s_strength, defBody s_strength, defScope s_strength, [], []⟩
def d_miss_of : He.DefD := ⟨("miss_of", none), "miss_of", "miss_of", defArgs s_miss_of, defBody s_miss_of, defScope s_miss_of, [], []⟩
def d_misses : He.DefD := ⟨("misses", none), "misses", "misses", defArgs s_misses, defBody s_misses, defScope s_misses, [], []⟩
def d_lies : He.DefD := ⟨("lies", none), "lies", "lies", defArgs s_lies, defBody s_lies, defScope s_lies, [], []⟩
def d_is_world : He.DefD := ⟨("is_world", none), "is_world", "is_world", defArgs s_is_world, defBody s_is_world, defScope s_is_world, [], []⟩
def d_height_by : He.DefD := ⟨("height_by", none), "height_by", "height_by", defArgs s_height_by, defBody s_height_by, defScope s_height_by, [], []⟩
def d_count_lies : He.DefD := ⟨("count_lies", none), "count_lies", "count_lies", defArgs s_count_lies, defBody s_count_lies, defScope s_count_lies, [], []⟩
def d_further : He.DefD := ⟨("further", none), "further", "further", defArgs s_further, defBody s_further, defScope s_further, [], []⟩
def d_check_worlds : He.DefD := ⟨("check_worlds", none), "check_worlds", "check_worlds", defArgs s_check_worlds, defBody s_check_worlds, defScope s_check_worlds, [], []⟩
def d_worlds : He.DefD := ⟨("worlds", none), "worlds", "worlds", defArgs s_worlds, defBody s_worlds, defScope s_worlds, [], []⟩
def d_known_key : He.DefD := ⟨("known_key", none), "known_key", "known_key", defArgs s_known_key, defBody s_known_key, defScope s_known_key, [], []⟩
def d_verdict_of : He.DefD := ⟨("verdict_of", none), "verdict_of", "verdict_of", defArgs s_verdict_of, defBody s_verdict_of, defScope s_verdict_of, [], []⟩
def d_verdicts : He.DefD := ⟨("verdicts", none), "verdicts", "verdicts", defArgs s_verdicts, defBody s_verdicts, defScope s_verdicts, [], []⟩
def d_law_cell : He.DefD := ⟨("_law_cell", none), "_law_cell", "_law_cell", defArgs s_law_cell, defBody s_law_cell, defScope s_law_cell, [], []⟩
def d_law_digits : He.DefD := ⟨("_law_digits", none), "_law_digits", "_law_digits", defArgs s_law_digits, defBody s_law_digits, defScope s_law_digits, [], []⟩
def d_law_draw : He.DefD := ⟨("_law_draw", none), "_law_draw", "_law_draw", defArgs s_law_draw, defBody s_law_draw, defScope s_law_draw, [], []⟩
def d_law_pick : He.DefD := ⟨("_law_pick", none), "_law_pick", "_law_pick", defArgs s_law_pick, defBody s_law_pick, defScope s_law_pick, [], []⟩
def d_law_pairs : He.DefD := ⟨("_law_pairs", none), "_law_pairs", "_law_pairs", defArgs s_law_pairs, defBody s_law_pairs, defScope s_law_pairs, [], []⟩
def d_law_heights : He.DefD := ⟨("_law_heights", none), "_law_heights", "_law_heights", defArgs s_law_heights, defBody s_law_heights, defScope s_law_heights, [], []⟩
def d_law_names : He.DefD := ⟨("_law_names", none), "_law_names", "_law_names", defArgs s_law_names, defBody s_law_names, defScope s_law_names, [], []⟩
def d_law_kept_net : He.DefD := ⟨("_law_kept_net", none), "_law_kept_net", "_law_kept_net", defArgs s_law_kept_net, defBody s_law_kept_net, defScope s_law_kept_net, [], []⟩
def d_law_changed : He.DefD := ⟨("_law_changed", none), "_law_changed", "_law_changed", defArgs s_law_changed, defBody s_law_changed, defScope s_law_changed, [], []⟩
def d_law_some : He.DefD := ⟨("_law_some", none), "_law_some", "_law_some", defArgs s_law_some, defBody s_law_some, defScope s_law_some, [], []⟩
def d_law_lied : He.DefD := ⟨("_law_lied", none), "_law_lied", "_law_lied", defArgs s_law_lied, defBody s_law_lied, defScope s_law_lied, [], []⟩
def d_law_net : He.DefD := ⟨("_law_net", none), "_law_net", "_law_net", defArgs s_law_net, defBody s_law_net, defScope s_law_net, [], []⟩
def d_law_sides : He.DefD := ⟨("_law_sides", none), "_law_sides", "_law_sides", defArgs s_law_sides, defBody s_law_sides, defScope s_law_sides, [], []⟩
def d_law_cut : He.DefD := ⟨("_law_cut", none), "_law_cut", "_law_cut", defArgs s_law_cut, defBody s_law_cut, defScope s_law_cut, [], []⟩
def d_law_strength : He.DefD := ⟨("_law_strength", none), "_law_strength", "_law_strength", defArgs s_law_strength, defBody s_law_strength, defScope s_law_strength, [], []⟩
def d_law_misses : He.DefD := ⟨("_law_misses", none), "_law_misses", "_law_misses", defArgs s_law_misses, defBody s_law_misses, defScope s_law_misses, [], []⟩
def d_law_lies : He.DefD := ⟨("_law_lies", none), "_law_lies", "_law_lies", defArgs s_law_lies, defBody s_law_lies, defScope s_law_lies, [], []⟩
def d_law_all_worlds : He.DefD := ⟨("_law_all_worlds", none), "_law_all_worlds", "_law_all_worlds", defArgs s_law_all_worlds, defBody s_law_all_worlds, defScope s_law_all_worlds, [], []⟩
def d_law_few : He.DefD := ⟨("_law_few", none), "_law_few", "_law_few", defArgs s_law_few, defBody s_law_few, defScope s_law_few, [], []⟩
def d_law_refused : He.DefD := ⟨("_law_refused", none), "_law_refused", "_law_refused", defArgs s_law_refused, defBody s_law_refused, defScope s_law_refused, [], []⟩
def d_law : He.DefD := ⟨("law", none), "law", "law", defArgs s_law, defBody s_law, defScope s_law, [], []⟩
def fn0 : List He.DefD := [d_search, d_greatest_flow, d_next_reading, d_ways_of, d_side_of, d_least_cut, d_strength_paper, d_strength, d_miss_of, d_misses, d_lies, d_is_world, d_height_by, d_count_lies, d_further, d_check_worlds, d_worlds, d_known_key, d_verdict_of, d_verdicts]
def fn1 : List He.DefD := [d_law_cell, d_law_digits, d_law_draw, d_law_pick, d_law_pairs, d_law_heights, d_law_names, d_law_kept_net, d_law_changed, d_law_some, d_law_lied, d_law_net, d_law_sides, d_law_cut, d_law_strength, d_law_misses, d_law_lies, d_law_all_worlds, d_law_few, d_law_refused]
def fn2 : List He.DefD := [d_law]
def fn : List He.DefD := fn0 ++ fn1 ++ fn2
def fa0 : List He.Fa := [.glo "search", .glo "greatest_flow", .glo "next_reading", .glo "ways_of", .glo "side_of", .glo "least_cut", .glo "strength_paper", .glo "strength", .glo "miss_of", .glo "misses", .glo "lies", .glo "is_world", .glo "height_by", .glo "count_lies", .glo "further", .glo "check_worlds", .glo "worlds", .glo "known_key", .glo "verdict_of", .glo "verdicts"]
def fa1 : List He.Fa := [.glo "_law_cell", .glo "_law_digits", .glo "_law_draw", .glo "_law_pick", .glo "_law_pairs", .glo "_law_heights", .glo "_law_names", .glo "_law_kept_net", .glo "_law_changed", .glo "_law_some", .glo "_law_lied", .glo "_law_net", .glo "_law_sides", .glo "_law_cut", .glo "_law_strength", .glo "_law_misses", .glo "_law_lies", .glo "_law_all_worlds", .glo "_law_few", .glo "_law_refused"]
def fa2 : List He.Fa := [.glo "law", .free "len", .free "enumerate", .free "tuple", .free "list", .free "range", .free "min", .free "int", .free "sorted", .free "dict", .exc "BadState", .exm "BadState" "BadState" true, .glo "BadState", .int "MOST_WORLDS" 200]
def fa : List He.Fa := fa0 ++ fa1 ++ fa2
def loose0 : List PySem.Str := ["search", "greatest_flow", "next_reading", "ways_of", "side_of", "least_cut", "strength_paper", "strength", "LevelError", "BadState", "miss_of", "misses", "lies", "MOST_WORLDS", "is_world", "height_by", "count_lies", "further", "check_worlds", "worlds"]
def loose1 : List PySem.Str := ["known_key", "verdict_of", "verdicts", "_law_cell", "_law_digits", "_law_draw", "_law_pick", "_law_pairs", "_law_heights", "_law_names", "_law_kept_net", "_law_changed", "_law_some", "_law_lied", "_law_net", "_law_sides", "_law_cut", "_law_strength", "_law_misses", "_law_lies"]
def loose2 : List PySem.Str := ["_law_cost", "_law_all_worlds", "_law_few", "_law_refused"]
def loose : List PySem.Str := loose0 ++ loose1 ++ loose2
abbrev R : PySem.W.OpenRow := PySem.W.OpenLaw.row PySem.Challenge.rw_truelevels_k11_all_worlds
abbrev hk : PySem.W.Hook := He.hookD 4 fa fn
def ob (s : PySem.W.SharedT) : He.AlD := He.obsDG 4 fa fn (HandSHeadRun.getT s)
theorem ob_eq (s : PySem.W.SharedT) : ob s = hk.obs s.abs := He.obsDG_eq (HandSHeadRun.getT_eq s)
theorem run (w : World) : HandSHeadRun.RunEq R (PySem.W.view R.prog [49]) hk ob 4000 loose w := by
  intro os
  kernel_rfl
theorem defAt_of {K : PySem.W.Frag} {mg : Str → Option Value} {x : Str} {st : Stmt} {f : Addr} {fd : FuncData} (F : FunD K x x (defArgs st) (defBody st) (defScope st) [] [] f fd) (g : mg x = some (.ref f)) : DefAt K mg x st := by
  obtain ⟨oc, od, dV, kV, doc, pm, an, cdv, ct, osl, e, lk, hc, hd, _⟩ := F.ex
  have h0 : dV = .none := by
    rcases hd with ⟨_, h⟩ | ⟨h, _⟩
    · exact h
    · exact (h rfl).elim
  subst h0
  exact ⟨f, fd, ⟨⟨oc, od, kV, doc, pm, an, cdv, ct, osl, e, lk, hc⟩, F.kp⟩, g⟩
theorem fdAt_ofD {K : PySem.W.Frag} {x : Str} {a : Arguments} {b : List Stmt} {sc : Scope} {f : Addr} {fd : FuncData} (F : FunD K x x a b sc [] [] f fd) : FdAt K f fd := by
  obtain ⟨oc, od, dV, kV, doc, pm, an, cdv, ct, osl, e, lk, hc, hd, _⟩ := F.ex
  exact ⟨oc, od, osl, lk⟩
theorem facts {P : Program} {w : World} {K : PySem.W.Frag} {h : Heap} {mg : Str → Option Value} {f : Addr} (X : K.In h) (G : h.Ns mainGlobals mg) (hfa : mg ("law" : Str) = some (.ref f)) (c : He.SaysD fa fn K) :
    ∃ fd : FuncData, (∀ (s : Shared) (v : Value), BindsTo s fd ⟨[v], []⟩ [("_law_script", v)]) ∧ ∀ base : Heap, FnOk P w K mg base CX0 10 f fd ["_law_script"] (sp_law K) := by
  obtain ⟨_fd0, F0⟩ := c.def_ 0 (d := d_search) rfl
  have D_search : DefAt K mg "search" s_search := defAt_of F0 (He.glo_ok X G (c.fact 0 (f := .glo "search") rfl))
  obtain ⟨_fd1, F1⟩ := c.def_ 1 (d := d_greatest_flow) rfl
  have D_greatest_flow : DefAt K mg "greatest_flow" s_greatest_flow := defAt_of F1 (He.glo_ok X G (c.fact 1 (f := .glo "greatest_flow") rfl))
  obtain ⟨_fd2, F2⟩ := c.def_ 2 (d := d_next_reading) rfl
  have D_next_reading : DefAt K mg "next_reading" s_next_reading := defAt_of F2 (He.glo_ok X G (c.fact 2 (f := .glo "next_reading") rfl))
  obtain ⟨_fd3, F3⟩ := c.def_ 3 (d := d_ways_of) rfl
  have D_ways_of : DefAt K mg "ways_of" s_ways_of := defAt_of F3 (He.glo_ok X G (c.fact 3 (f := .glo "ways_of") rfl))
  obtain ⟨_fd4, F4⟩ := c.def_ 4 (d := d_side_of) rfl
  have D_side_of : DefAt K mg "side_of" s_side_of := defAt_of F4 (He.glo_ok X G (c.fact 4 (f := .glo "side_of") rfl))
  obtain ⟨_fd5, F5⟩ := c.def_ 5 (d := d_least_cut) rfl
  have D_least_cut : DefAt K mg "least_cut" s_least_cut := defAt_of F5 (He.glo_ok X G (c.fact 5 (f := .glo "least_cut") rfl))
  obtain ⟨_fd6, F6⟩ := c.def_ 6 (d := d_strength_paper) rfl
  have D_strength_paper : DefAt K mg "strength_paper" s_strength_paper := defAt_of F6 (He.glo_ok X G (c.fact 6 (f := .glo "strength_paper") rfl))
  obtain ⟨_fd7, F7⟩ := c.def_ 7 (d := d_strength) rfl
  have D_strength : DefAt K mg "strength" s_strength := defAt_of F7 (He.glo_ok X G (c.fact 7 (f := .glo "strength") rfl))
  obtain ⟨_fd8, F8⟩ := c.def_ 8 (d := d_miss_of) rfl
  have D_miss_of : DefAt K mg "miss_of" s_miss_of := defAt_of F8 (He.glo_ok X G (c.fact 8 (f := .glo "miss_of") rfl))
  obtain ⟨_fd9, F9⟩ := c.def_ 9 (d := d_misses) rfl
  have D_misses : DefAt K mg "misses" s_misses := defAt_of F9 (He.glo_ok X G (c.fact 9 (f := .glo "misses") rfl))
  obtain ⟨_fd10, F10⟩ := c.def_ 10 (d := d_lies) rfl
  have D_lies : DefAt K mg "lies" s_lies := defAt_of F10 (He.glo_ok X G (c.fact 10 (f := .glo "lies") rfl))
  obtain ⟨_fd11, F11⟩ := c.def_ 11 (d := d_is_world) rfl
  have D_is_world : DefAt K mg "is_world" s_is_world := defAt_of F11 (He.glo_ok X G (c.fact 11 (f := .glo "is_world") rfl))
  obtain ⟨_fd12, F12⟩ := c.def_ 12 (d := d_height_by) rfl
  have D_height_by : DefAt K mg "height_by" s_height_by := defAt_of F12 (He.glo_ok X G (c.fact 12 (f := .glo "height_by") rfl))
  obtain ⟨_fd13, F13⟩ := c.def_ 13 (d := d_count_lies) rfl
  have D_count_lies : DefAt K mg "count_lies" s_count_lies := defAt_of F13 (He.glo_ok X G (c.fact 13 (f := .glo "count_lies") rfl))
  obtain ⟨_fd14, F14⟩ := c.def_ 14 (d := d_further) rfl
  have D_further : DefAt K mg "further" s_further := defAt_of F14 (He.glo_ok X G (c.fact 14 (f := .glo "further") rfl))
  obtain ⟨_fd15, F15⟩ := c.def_ 15 (d := d_check_worlds) rfl
  have D_check_worlds : DefAt K mg "check_worlds" s_check_worlds := defAt_of F15 (He.glo_ok X G (c.fact 15 (f := .glo "check_worlds") rfl))
  obtain ⟨_fd16, F16⟩ := c.def_ 16 (d := d_worlds) rfl
  have D_worlds : DefAt K mg "worlds" s_worlds := defAt_of F16 (He.glo_ok X G (c.fact 16 (f := .glo "worlds") rfl))
  obtain ⟨_fd17, F17⟩ := c.def_ 17 (d := d_known_key) rfl
  have D_known_key : DefAt K mg "known_key" s_known_key := defAt_of F17 (He.glo_ok X G (c.fact 17 (f := .glo "known_key") rfl))
  obtain ⟨_fd18, F18⟩ := c.def_ 18 (d := d_verdict_of) rfl
  have D_verdict_of : DefAt K mg "verdict_of" s_verdict_of := defAt_of F18 (He.glo_ok X G (c.fact 18 (f := .glo "verdict_of") rfl))
  obtain ⟨_fd19, F19⟩ := c.def_ 19 (d := d_verdicts) rfl
  have D_verdicts : DefAt K mg "verdicts" s_verdicts := defAt_of F19 (He.glo_ok X G (c.fact 19 (f := .glo "verdicts") rfl))
  obtain ⟨_fd20, F20⟩ := c.def_ 20 (d := d_law_cell) rfl
  have D_law_cell : DefAt K mg "_law_cell" s_law_cell := defAt_of F20 (He.glo_ok X G (c.fact 20 (f := .glo "_law_cell") rfl))
  obtain ⟨_fd21, F21⟩ := c.def_ 21 (d := d_law_digits) rfl
  have D_law_digits : DefAt K mg "_law_digits" s_law_digits := defAt_of F21 (He.glo_ok X G (c.fact 21 (f := .glo "_law_digits") rfl))
  obtain ⟨_fd22, F22⟩ := c.def_ 22 (d := d_law_draw) rfl
  have D_law_draw : DefAt K mg "_law_draw" s_law_draw := defAt_of F22 (He.glo_ok X G (c.fact 22 (f := .glo "_law_draw") rfl))
  obtain ⟨_fd23, F23⟩ := c.def_ 23 (d := d_law_pick) rfl
  have D_law_pick : DefAt K mg "_law_pick" s_law_pick := defAt_of F23 (He.glo_ok X G (c.fact 23 (f := .glo "_law_pick") rfl))
  obtain ⟨_fd24, F24⟩ := c.def_ 24 (d := d_law_pairs) rfl
  have D_law_pairs : DefAt K mg "_law_pairs" s_law_pairs := defAt_of F24 (He.glo_ok X G (c.fact 24 (f := .glo "_law_pairs") rfl))
  obtain ⟨_fd25, F25⟩ := c.def_ 25 (d := d_law_heights) rfl
  have D_law_heights : DefAt K mg "_law_heights" s_law_heights := defAt_of F25 (He.glo_ok X G (c.fact 25 (f := .glo "_law_heights") rfl))
  obtain ⟨_fd26, F26⟩ := c.def_ 26 (d := d_law_names) rfl
  have D_law_names : DefAt K mg "_law_names" s_law_names := defAt_of F26 (He.glo_ok X G (c.fact 26 (f := .glo "_law_names") rfl))
  obtain ⟨_fd27, F27⟩ := c.def_ 27 (d := d_law_kept_net) rfl
  have D_law_kept_net : DefAt K mg "_law_kept_net" s_law_kept_net := defAt_of F27 (He.glo_ok X G (c.fact 27 (f := .glo "_law_kept_net") rfl))
  obtain ⟨_fd28, F28⟩ := c.def_ 28 (d := d_law_changed) rfl
  have D_law_changed : DefAt K mg "_law_changed" s_law_changed := defAt_of F28 (He.glo_ok X G (c.fact 28 (f := .glo "_law_changed") rfl))
  obtain ⟨_fd29, F29⟩ := c.def_ 29 (d := d_law_some) rfl
  have D_law_some : DefAt K mg "_law_some" s_law_some := defAt_of F29 (He.glo_ok X G (c.fact 29 (f := .glo "_law_some") rfl))
  obtain ⟨_fd30, F30⟩ := c.def_ 30 (d := d_law_lied) rfl
  have D_law_lied : DefAt K mg "_law_lied" s_law_lied := defAt_of F30 (He.glo_ok X G (c.fact 30 (f := .glo "_law_lied") rfl))
  obtain ⟨_fd31, F31⟩ := c.def_ 31 (d := d_law_net) rfl
  have D_law_net : DefAt K mg "_law_net" s_law_net := defAt_of F31 (He.glo_ok X G (c.fact 31 (f := .glo "_law_net") rfl))
  obtain ⟨_fd32, F32⟩ := c.def_ 32 (d := d_law_sides) rfl
  have D_law_sides : DefAt K mg "_law_sides" s_law_sides := defAt_of F32 (He.glo_ok X G (c.fact 32 (f := .glo "_law_sides") rfl))
  obtain ⟨_fd33, F33⟩ := c.def_ 33 (d := d_law_cut) rfl
  have D_law_cut : DefAt K mg "_law_cut" s_law_cut := defAt_of F33 (He.glo_ok X G (c.fact 33 (f := .glo "_law_cut") rfl))
  obtain ⟨_fd34, F34⟩ := c.def_ 34 (d := d_law_strength) rfl
  have D_law_strength : DefAt K mg "_law_strength" s_law_strength := defAt_of F34 (He.glo_ok X G (c.fact 34 (f := .glo "_law_strength") rfl))
  obtain ⟨_fd35, F35⟩ := c.def_ 35 (d := d_law_misses) rfl
  have D_law_misses : DefAt K mg "_law_misses" s_law_misses := defAt_of F35 (He.glo_ok X G (c.fact 35 (f := .glo "_law_misses") rfl))
  obtain ⟨_fd36, F36⟩ := c.def_ 36 (d := d_law_lies) rfl
  have D_law_lies : DefAt K mg "_law_lies" s_law_lies := defAt_of F36 (He.glo_ok X G (c.fact 36 (f := .glo "_law_lies") rfl))
  obtain ⟨_fd37, F37⟩ := c.def_ 37 (d := d_law_all_worlds) rfl
  have D_law_all_worlds : DefAt K mg "_law_all_worlds" s_law_all_worlds := defAt_of F37 (He.glo_ok X G (c.fact 37 (f := .glo "_law_all_worlds") rfl))
  obtain ⟨_fd38, F38⟩ := c.def_ 38 (d := d_law_few) rfl
  have D_law_few : DefAt K mg "_law_few" s_law_few := defAt_of F38 (He.glo_ok X G (c.fact 38 (f := .glo "_law_few") rfl))
  obtain ⟨_fd39, F39⟩ := c.def_ 39 (d := d_law_refused) rfl
  have D_law_refused : DefAt K mg "_law_refused" s_law_refused := defAt_of F39 (He.glo_ok X G (c.fact 39 (f := .glo "_law_refused") rfl))
  obtain ⟨fdL, F40⟩ := c.def_ 40 (d := d_law) rfl
  have D_law : DefAt K mg "law" s_law := defAt_of F40 (He.glo_ok X G (c.fact 40 (f := .glo "law") rfl))
  have B : Bl mg := ⟨He.free_ok X G (c.fact 41 (f := .free "len") rfl), He.free_ok X G (c.fact 42 (f := .free "enumerate") rfl), He.free_ok X G (c.fact 43 (f := .free "tuple") rfl), He.free_ok X G (c.fact 44 (f := .free "list") rfl), He.free_ok X G (c.fact 45 (f := .free "range") rfl), He.free_ok X G (c.fact 46 (f := .free "min") rfl), He.free_ok X G (c.fact 47 (f := .free "int") rfl), He.free_ok X G (c.fact 48 (f := .free "sorted") rfl), He.free_ok X G (c.fact 49 (f := .free "dict") rfl)⟩
  obtain ⟨x1, x2, x3, x4⟩ := He.exc_ok (c.fact 50 (f := .exc "BadState") rfl)
  have bs : Bs K mg (He.ga K "BadState") := ⟨He.glo_ok X G (c.fact 52 (f := .glo "BadState") rfl), x1, x2, x3, x4, He.exm_ok (c.fact 51 (f := .exm "BadState" "BadState" true) rfl)⟩
  obtain ⟨tMW, hMW⟩ := He.int_ok X G (c.fact 53 (f := .int "MOST_WORLDS" 200) rfl)
  have e := hfa.symm.trans (He.glo_ok X G (c.fact 40 (f := .glo "law") rfl))
  cases e
  have b := FunD.bindsA (ps := ["_law_script"]) F40 fun _ _ _ _ _ _ us hl => match us, hl with | [_], _ => rfl
  refine ⟨fdL, fun s v => b s [v] rfl, fun base => ?_⟩
  have C_law_few := ok_law_few (P := P) (w := w) (base := base) D_law_few B  rd_law_few
  have C_law_all_worlds := ok_law_all_worlds (P := P) (w := w) (base := base) D_law_all_worlds B C_law_few rd_law_all_worlds
  have C_law_cell := ok_law_cell (P := P) (w := w) (base := base) D_law_cell B  rd_law_cell
  have C_law_digits := ok_law_digits (P := P) (w := w) (base := base) D_law_digits B C_law_cell rd_law_digits
  have C_law_draw := ok_law_draw (P := P) (w := w) (base := base) D_law_draw B  rd_law_draw
  have C_law_heights := ok_law_heights (P := P) (w := w) (base := base) D_law_heights B C_law_draw rd_law_heights
  have C_law_misses := ok_law_misses (P := P) (w := w) (base := base) D_law_misses B  rd_law_misses
  have C_law_lies := ok_law_lies (P := P) (w := w) (base := base) D_law_lies B C_law_misses rd_law_lies
  have C_law_names := ok_law_names (P := P) (w := w) (base := base) D_law_names B  rd_law_names
  have C_law_kept_net := ok_law_kept_net (P := P) (w := w) (base := base) D_law_kept_net B C_law_names rd_law_kept_net
  have C_law_changed := ok_law_changed (P := P) (w := w) (base := base) D_law_changed B  rd_law_changed
  have C_law_some := ok_law_some (P := P) (w := w) (base := base) D_law_some B C_law_draw rd_law_some
  have C_law_lied := ok_law_lied (P := P) (w := w) (base := base) D_law_lied B C_law_changed C_law_draw C_law_some rd_law_lied
  have C_law_pick := ok_law_pick (P := P) (w := w) (base := base) D_law_pick B C_law_draw rd_law_pick
  have C_law_pairs := ok_law_pairs (P := P) (w := w) (base := base) D_law_pairs B C_law_draw C_law_pick rd_law_pairs
  have C_law_net := ok_law_net (P := P) (w := w) (base := base) D_law_net B C_law_draw C_law_heights C_law_kept_net C_law_lied C_law_pairs rd_law_net
  have C_miss_of := ok_miss_of (P := P) (w := w) (base := base) D_miss_of B  rd_miss_of
  have C_misses := ok_misses (P := P) (w := w) (base := base) D_misses B C_miss_of rd_misses
  have C_lies := ok_lies (P := P) (w := w) (base := base) D_lies B C_misses rd_lies
  have C_verdict_of := ok_verdict_of (P := P) (w := w) (base := base) D_verdict_of B  rd_verdict_of
  have C_search := ok_search (P := P) (w := w) (base := base) D_search B  rd_search
  have C_greatest_flow := ok_greatest_flow (P := P) (w := w) (base := base) D_greatest_flow B C_search rd_greatest_flow
  have C_side_of := ok_side_of (P := P) (w := w) (base := base) D_side_of B C_search rd_side_of
  have C_next_reading := ok_next_reading (P := P) (w := w) (base := base) D_next_reading B  rd_next_reading
  have C_ways_of := ok_ways_of (P := P) (w := w) (base := base) D_ways_of B C_next_reading rd_ways_of
  have C_least_cut := ok_least_cut (P := P) (w := w) (base := base) D_least_cut B C_greatest_flow C_side_of C_ways_of rd_least_cut
  have C_strength_paper := ok_strength_paper (P := P) (w := w) (base := base) D_strength_paper B C_least_cut rd_strength_paper
  have C_strength := ok_strength (P := P) (w := w) (base := base) D_strength B C_strength_paper rd_strength
  have C_check_worlds := ok_check_worlds (P := P) (w := w) (base := base) D_check_worlds B C_strength bs (rd_check_worlds (He.ga K "BadState"))
  have C_count_lies := ok_count_lies (P := P) (w := w) (base := base) D_count_lies B  rd_count_lies
  have C_height_by := ok_height_by (P := P) (w := w) (base := base) D_height_by B  rd_height_by
  have C_further := ok_further (P := P) (w := w) (base := base) D_further B C_count_lies C_height_by rd_further
  have C_known_key := ok_known_key (P := P) (w := w) (base := base) D_known_key B  rd_known_key
  have C_worlds := ok_worlds (P := P) (w := w) (base := base) D_worlds B C_check_worlds C_further C_known_key bs hMW (rd_worlds (He.ga K "BadState"))
  have C_verdicts := ok_verdicts (P := P) (w := w) (base := base) D_verdicts B C_lies C_verdict_of C_worlds bs (rd_verdicts (He.ga K "BadState"))
  have C_law_refused := ok_law_refused (P := P) (w := w) (base := base) D_law_refused B C_verdicts C_worlds bs (rd_law_refused (He.ga K "BadState") bs.e)
  have C_law_cut := ok_law_cut (P := P) (w := w) (base := base) D_law_cut B  rd_law_cut
  have C_law_sides := ok_law_sides (P := P) (w := w) (base := base) D_law_sides B  rd_law_sides
  have C_law_strength := ok_law_strength (P := P) (w := w) (base := base) D_law_strength B C_law_cut C_law_sides rd_law_strength
  have C_is_world := ok_is_world (P := P) (w := w) (base := base) D_is_world B C_lies rd_is_world
  have C_law := ok_law (P := P) (w := w) (base := base) D_law B C_law_all_worlds C_law_digits C_law_draw C_law_heights C_law_lies C_law_net C_law_pick C_law_refused C_law_strength C_is_world C_verdicts C_worlds bs (rd_law (He.ga K "BadState"))
  obtain ⟨f', fd', G1, g1, _, _, g2⟩ := C_law.ex
  have e1 := g1.symm.trans hfa
  cases e1
  have e2 := g2.one (fdAt_ofD F40)
  subst e2
  exact G1
end K11
open PySem PySem.W PySem.Calls PyProof.Rows
theorem PySem.Challenge.cw_truelevels_k11_all_worlds_holds : PySem.Challenge.rw_truelevels_k11_all_worlds.Holds := by
  w_on; o_law
  refine HandSHeadRun.head_any (r := OpenLaw.row PySem.Challenge.rw_truelevels_k11_all_worlds) (q := view (OpenLaw.row PySem.Challenge.rw_truelevels_k11_all_worlds).prog [49]) (H := K11.hk) (ob := K11.ob) (M := 4000) (loose := K11.loose) (d := HandSHeadRun.topDef (OpenLaw.row PySem.Challenge.rw_truelevels_k11_all_worlds).prog 49) (kwd := []) K11.ob_eq
    (by kernel_rfl) (fun s => by kernel_rfl) K11.run (by kernel_rfl) (by kernel_rfl) (by kernel_rfl) (by rfl) (by first | assumption | decide +kernel) (by decide +kernel) ⟨rfl, rfl, rfl, rfl, rfl, by decide +kernel⟩ ?hw ?hc
  case hw => w_witness2
  case hc =>
    refine L2.walk_ofE (l := PySem.Challenge.rw_truelevels_k11_all_worlds) (n := 63) (k := 10) (x := "_law_script") (CX := L2.CX0) rfl (by decide) (by kernel_rfl) ⟨rfl, by decide, by decide⟩ ?F (fun _ _ _ _ z => z)
    intro w mg fa h Y G hmg0
    obtain ⟨K, KX, c⟩ := Y
    have hmg : mg ("law" : PySem.Str) = some (.ref fa) := by
      have e : (HandSHeadRun.topDef (OpenLaw.row PySem.Challenge.rw_truelevels_k11_all_worlds).prog 49).name = ("law" : PySem.Str) := by kernel_rfl
      rw [← e]
      exact hmg0
    obtain ⟨fd, hb, hF⟩ := K11.facts (P := (PySem.Challenge.rw_truelevels_k11_all_worlds).prog) (w := w) KX G hmg c
    exact ⟨K, fd, K11.sp_law K, KX, hb, fun H a ns hl _ hS => ⟨ns, .cons (.lst hS (K11.dpAll_ints H ns)) .nil, fun _ => rfl⟩, fun base _ _ => hF base⟩
end
