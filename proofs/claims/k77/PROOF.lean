import PyProof.Rows.All
import Wide.All
import OpenK.AllK
import Wide.FinOn
import HandS.List
import HandS.SortInts
import HandS.Iter
import KE.GoesMore
import KE.GoesEnum
import HandS.TupMul
import HandS.ForExc
import HandS.Text
import HandS.Comp
import HandS.Slots
import HandS.CallSlots
import HandS.TupAny
import HandS.Style
import HandS.Star
import HandS.Zip
import HandS.NoneIn
import HandS.IsInst
import HandS.Flow
import HandS.SetFor
import HandS.SlotsOwn
import PyProof.EvalArms
import HandS.HeadHook1
import HandS.HeadHook2
import HandS.HeadEnd
import HandS.Head0
import HandS.Head1
import HandS.Head2
import KE.KStateDown
import PySem.Challenge.RW_allbutts_k77_across_parts_walks_and_far
set_option Elab.async false
set_option linter.all false
section
set_option linter.all false
set_option maxRecDepth 100000
/-! Tup1: sum, min, max of a tuple of ints. -/
namespace L2
open PySem PySem.Spec PyProof.Rows
section
variable {prog : Program} {w : World} {A : Around} {E : Value → Shared → Prop} {s : Shared} {l : Addr} {its : List Value} {ns : List Int} {Q : Value → Shared → Prop} {xs : Array (Int × Tok)}
theorem iterTupI (hl : s.heap.IsTuple l (intItems xs))
    (h : ∀ s₂ : Shared, s₂ = { s with heap := s.heap.push { cls := .type "tuple_iterator", data := .fields #[.ref l, .int 0 0] } } →
      (s₂.heap.IsTupleIter s.heap.objs.size l 0 ∧ s₂.heap.IsTuple l (intItems xs)) → (∀ b ∈ [s.heap.objs.size, l], b < s₂.heap.objs.size) → l ≠ s.heap.objs.size → Q (.ref s.heap.objs.size) s₂) :
    wpAny (model prog w) A (pyIter (.ref l)) Q E s := by
  have hlt : l < s.heap.objs.size := by obtain ⟨_, e, _⟩ := hl; exact Heap.lt_size e
  refine wpAny_pyIter_tuple hl (h _ rfl ⟨⟨_, Heap.get?_push_size _ rfl, rfl, rfl⟩, hl.push _⟩ (fun b hb => ?_) (Nat.ne_of_lt hlt))
  show b < (s.heap.push _).objs.size
  rw [Heap.size_push]
  rcases List.mem_cons.mp hb with rfl | hb
  · exact Nat.lt_succ_self _
  · rcases List.mem_cons.mp hb with rfl | hb
    · exact Nat.lt_succ_of_lt hlt
    · cases hb
theorem oldTup {h' : Heap} {o0 : Obj} (hk : ∀ b o, b ∉ [s.heap.objs.size] → (s.heap.push o0).get? b = some o → h'.get? b = some o) :
    ∀ b o, s.heap.get? b = some o → h'.get? b = some o := fun b o e => by
  refine hk b o (fun hm => ?_) (Heap.get?_push_of_some _ e)
  rcases List.mem_cons.mp hm with e1 | hm
  · exact absurd (e1 ▸ Heap.lt_size e) (Nat.lt_irrefl _)
  · cases hm
theorem sum_rawT (hh : A.handled = none) (hl : s.heap.IsTuple l its.toArray) (hi : IntsAre its ns)
    (h : ∀ h' tk t', (∀ b o, s.heap.get? b = some o → h'.get? b = some o) → Q (.int ns.sum t') { s with heap := h', toks := tk }) : wpAny (model prog w) A (call (.builtin "sum") [.ref l]) Q E s := by
  obtain ⟨xs, e⟩ := hi.allInts.items
  have hn : numsOf (intItems xs).toList = ns := by rw [← e]; exact hi.numsOf
  rw [nums_intItems] at hn
  rw [e] at hl
  refine call_sum_walkG (iterTupI hl fun s₂ e st hfp hlI => ?_)
  subst e
  refine ⟨_, _, _, _, _, _, numAt xs, rfl, Walks.tuple (A := A.in1) hh _ l hlI (intItems xs), st, hfp, (fun _ _ => intItems_at), fun h' tk t' hk => ?_⟩
  have := h h' tk t' (oldTup hk)
  rw [show (intItems xs).size = xs.size by simp [intItems], preSum_eq, List.take_of_length_le (by simp), hn]
  exact this
theorem min_rawT (hh : A.handled = none) (hl : s.heap.IsTuple l its.toArray) (hi : IntsAre its ns) (hne : 0 < ns.length)
    (h : ∀ h' tk M t', (∀ b o, s.heap.get? b = some o → h'.get? b = some o) → M ∈ ns → (∀ a, a ∈ ns → M ≤ a) → Q (.int M t') { s with heap := h', toks := tk }) : wpAny (model prog w) A (call (.builtin "min") [.ref l]) Q E s := by
  obtain ⟨xs, e⟩ := hi.allInts.items
  have hn : numsOf (intItems xs).toList = ns := by rw [← e]; exact hi.numsOf
  rw [nums_intItems] at hn
  subst hn
  rw [e] at hl
  have hsz : 0 < xs.size := by simpa using hne
  refine call_min_walk (iterTupI hl fun s₂ e st hfp hlI => ?_)
  subst e
  refine ⟨_, _, _, _, _, _, _, rfl, Walks.tuple (A := A.in1) hh _ l hlI (intItems xs), st, hfp, by simpa [intItems] using hsz, CmpOf.ints_lt (numAt xs) (fun _ _ => intItems_at), fun v h' tk hP hk => ?_⟩
  rw [show (intItems xs).size = xs.size by simp [intItems]] at hP
  obtain ⟨t, rfl⟩ := intItems_at hP
  obtain ⟨h1, h2⟩ := argBest_lt (numAt xs) (xs.size - 1)
  refine h h' tk _ t (oldTup hk) ?_ fun a ha => ?_
  · rw [numAt_eq]; exact PySem.getD_mem (by rw [List.length_map, Array.length_toList]; omega)
  · obtain ⟨j, hj, rfl⟩ := mem_getD ha
    rw [List.length_map, Array.length_toList] at hj
    rw [← numAt_eq]; exact h2 j (by omega)
theorem max_rawT (hh : A.handled = none) (hl : s.heap.IsTuple l its.toArray) (hi : IntsAre its ns) (hne : 0 < ns.length)
    (h : ∀ h' tk M t', (∀ b o, s.heap.get? b = some o → h'.get? b = some o) → M ∈ ns → (∀ a, a ∈ ns → a ≤ M) → Q (.int M t') { s with heap := h', toks := tk }) : wpAny (model prog w) A (call (.builtin "max") [.ref l]) Q E s := by
  obtain ⟨xs, e⟩ := hi.allInts.items
  have hn : numsOf (intItems xs).toList = ns := by rw [← e]; exact hi.numsOf
  rw [nums_intItems] at hn
  subst hn
  rw [e] at hl
  have hsz : 0 < xs.size := by simpa using hne
  refine call_max_walk (iterTupI hl fun s₂ e st hfp hlI => ?_)
  subst e
  refine ⟨_, _, _, _, _, _, _, rfl, Walks.tuple (A := A.in1) hh _ l hlI (intItems xs), st, hfp, by simpa [intItems] using hsz, CmpOf.ints_gt (numAt xs) (fun _ _ => intItems_at), fun v h' tk hP hk => ?_⟩
  rw [show (intItems xs).size = xs.size by simp [intItems]] at hP
  obtain ⟨t, rfl⟩ := intItems_at hP
  obtain ⟨h1, h2⟩ := argBest_gt (numAt xs) (xs.size - 1)
  refine h h' tk _ t (oldTup hk) ?_ fun a ha => ?_
  · rw [numAt_eq]; exact PySem.getD_mem (by rw [List.length_map, Array.length_toList]; omega)
  · obtain ⟨j, hj, rfl⟩ := mem_getD ha
    rw [List.length_map, Array.length_toList] at hj
    rw [← numAt_eq]; exact h2 j (by omega)
end
section
variable {X : Cx}
def rSumT (K : PySem.W.Frag) : List V → Hp → VK → Prop := fun vs H Q => ∃ (a : Addr) (ns : List Int), vs = [V.ref a] ∧ SqT K H a (ns.map V.int) ∧ Q (.int ns.sum) H
def rMaxT (K : PySem.W.Frag) : List V → Hp → VK → Prop := fun vs H Q => ∃ (a : Addr) (ns : List Int), vs = [V.ref a] ∧ SqT K H a (ns.map V.int) ∧ 0 < ns.length ∧ ∀ m, m ∈ ns → (∀ y, y ∈ ns → y ≤ m) → Q (.int m) H
def rMinT (K : PySem.W.Frag) : List V → Hp → VK → Prop := fun vs H Q => ∃ (a : Addr) (ns : List Int), vs = [V.ref a] ∧ SqT K H a (ns.map V.int) ∧ 0 < ns.length ∧ ∀ m, m ∈ ns → (∀ y, y ∈ ns → m ≤ y) → Q (.int m) H
theorem cr_sumT (hc : X.calm = true) : CallR X (.builtin "sum") (rSumT X.K) := by
  intro pins s σ H vs us Q I r h
  obtain ⟨a, ns, rfl, hs, q⟩ := h
  obtain ⟨its, rv, hl, _⟩ := I.tuple hs
  rw [Vals.ref1 r]
  exact sum_rawT (I.ok.hd hc) hl rv.ints fun h' tk t' hk => ⟨.int _, H, I.kept hk, ⟨_, rfl⟩, q⟩
theorem cr_maxT (hc : X.calm = true) : CallR X (.builtin "max") (rMaxT X.K) := by
  intro pins s σ H vs us Q I r h
  obtain ⟨a, ns, rfl, hs, hne, q⟩ := h
  obtain ⟨its, rv, hl, _⟩ := I.tuple hs
  rw [Vals.ref1 r]
  exact max_rawT (I.ok.hd hc) hl rv.ints hne fun h' tk m t' hk h1 h2 => ⟨.int _, H, I.kept hk, ⟨_, rfl⟩, q m h1 h2⟩
theorem cr_minT (hc : X.calm = true) : CallR X (.builtin "min") (rMinT X.K) := by
  intro pins s σ H vs us Q I r h
  obtain ⟨a, ns, rfl, hs, hne, q⟩ := h
  obtain ⟨its, rv, hl, _⟩ := I.tuple hs
  rw [Vals.ref1 r]
  exact min_rawT (I.ok.hd hc) hl rv.ints hne fun h' tk m t' hk h1 h2 => ⟨.int _, H, I.kept hk, ⟨_, rfl⟩, q m h1 h2⟩
end
end L2

end
section
set_option linter.all false
set_option maxRecDepth 100000
/-! Tup2: enumerate over a tuple. -/
namespace PySem
open Sem (wp)
open Builtin Builtin.Str
theorem meets_enumT (l : Addr) (items : Array Value) (n : Nat) (dct : Option Addr) (sl : Array (Option Value)) :
    Meets (Builtin.«enumerate.__new__» ⟨[.type "enumerate", .ref l], []⟩) (fun _ R s => s.heap.get? l = some { cls := .type "tuple", dict := dct, data := .seq items n, slots := sl } ∧
      R (.ok (.ret (.ref (s.heap.push { cls := .type "tuple_iterator", data := .fields #[.ref l, .int 0 0] }).objs.size)))
        { s with heap := (s.heap.push { cls := .type "tuple_iterator", data := .fields #[.ref l, .int 0 0] }).push { cls := .type "enumerate", data := .fields #[.none, .bool false, .ref s.heap.objs.size, rawInt 0, .none, .none] } }) :=
  .of_wp fun prog w A R s h => by
    obtain ⟨hp, g, d, tk, os⟩ := s; obtain ⟨hl, h⟩ := h
    have hsub := sub_enumerate
    have hL : Heap.IsTuple (Shared.heap ⟨hp, g, d, tk, os⟩) l items := ⟨_, hl, rfl, n, rfl⟩
    wp_walk using wpAny_loadPart' hl
    refine wpAny_stack_any fun st => wpAny_pure ?_
    split
    · rename_i c _ _ _ _ _
      cases (c == Value.type "enumerate")
      · wp_walk using wpAny_loadPart' hl, wpAny_pyIter_tuple hL
        exact ⟨_, rfl, h⟩
      · wp_walk using wpAny_loadPart' hl, wpAny_pyIter_tuple hL
        exact ⟨_, rfl, h⟩
    · wp_walk using wpAny_loadPart' hl, wpAny_pyIter_tuple hL
      exact ⟨_, rfl, h⟩
section
variable {prog : Program} {w : World} {A : Around} {E : Value → Shared → Prop} {s : Shared}
theorem call_enumerate_tup {l : Addr} {items : Array Value} {Q : Value → Shared → Prop} (hL : s.heap.IsTuple l items)
    (h : ∀ h', IsEnum h' (s.heap.objs.size + 1) s.heap.objs.size 0 .none → h'.IsTupleIter s.heap.objs.size l 0 → h'.objs.size = s.heap.objs.size + 2 →
      (∀ b o, s.heap.get? b = some o → h'.get? b = some o) → Q (.ref (s.heap.objs.size + 1)) { s with heap := h' }) :
    wpAny (model prog w) A (call (.type "enumerate") [.ref l]) Q E s := by
  obtain ⟨⟨c, dct, dt, sl⟩, hl, hc, n, hd⟩ := hL
  replace hc : c = .type "tuple" := hc
  replace hd : dt = .seq items n := hd
  subst hc hd
  refine callType_new F.called_enumerate (by decide) (F.typeCall_enumerate_1 _) (F.newCall_enumerate_1 _) (fun obj => F.args_object_init_2 obj _) F.entry_enumerate_new
    (meets_enumT l items n dct sl) ⟨hl, ?_⟩
  have hz : (s.heap.push { cls := .type "tuple_iterator", data := .fields #[.ref l, .int 0 0] }).objs.size = s.heap.objs.size + 1 := Heap.size_push ..
  show _ ∧ _
  rw [hz]
  have he : IsEnum ((s.heap.push { cls := .type "tuple_iterator", data := .fields #[.ref l, .int 0 0] }).push
      { cls := .type "enumerate", data := .fields #[.none, .bool false, .ref s.heap.objs.size, rawInt 0, .none, .none] }) (s.heap.objs.size + 1) s.heap.objs.size 0 .none := by
    have := Heap.get?_push_size (s.heap.push { cls := .type "tuple_iterator", data := .fields #[.ref l, .int 0 0] })
      (o := { cls := .type "enumerate", data := .fields #[.none, .bool false, .ref s.heap.objs.size, rawInt 0, .none, .none] }) rfl
    rw [hz] at this; exact this
  refine ⟨⟨_, he, rfl⟩, h _ he ⟨_, Heap.get?_push_of_some _ (Heap.get?_push_size _ rfl), rfl, rfl⟩ (by rw [Heap.size_push, hz]) fun b o x => Heap.get?_push_of_some _ (Heap.get?_push_of_some _ x)⟩
theorem enum_endT {e it : Addr} {i : Int} {old : Value} {Q : Option Value → Shared → Prop} (he : IsEnum s.heap e it i old)
    (done : ∀ (Q : Value → Shared → Prop) (E : Value → Shared → Prop), (∀ h' e, Heap.ExtBut it s.heap h' → (∃ o, h'.get? e = some o ∧ o.cls = .type "StopIteration") → E (.ref e) { s with heap := h' }) → wpAny (model prog w) A.in1 (Builtin.SmallTypes.nextOf (.ref it)) Q E s)
    (hQ : ∀ h', Heap.ExtBut it s.heap h' → Q none { s with heap := h' }) : wpAny (model prog w) A (pyNext (.ref e)) Q E s := by
  have hT : s.TypeIs (.ref e) "enumerate" := ⟨_, he, rfl⟩
  unfold pyNext
  refine wpAny_bind (wpAny_attempt (wpAny_callSpecial?_slot (name := Str.ofString "__next__") hT F.slot_enumerate_next
    (wpAny_call_entry F.slot_enumerate_next hT F.entry_enumerate_next ?_ (F.args_enumerate_next_1 _))))
  show wpAny _ _ (field (.ref e) 2 >>= _) _ _ _
  refine wpAny_bind (wpAny_field he rfl (x := .ref it) rfl ?_)
  refine wpAny_bind (done _ _ fun h' x he' hx' => ?_)
  obtain ⟨o, ho, hc⟩ := hx'
  refine wpAny_bind (wpAny_isInstance (T := "StopIteration") (b := true) ⟨o, ho, hc⟩ isSubtype_stop ?_)
  exact wpAny_pure (hQ _ he')
end
end PySem
namespace L2
open PySem PySem.Spec PyProof.Rows
/-- the tuple at a, each item in a new pair -/
def IteT (K : PySem.W.Frag) (a : Addr) : It :=
  ⟨fun i H => ∃ (xs : List V) (x : V), SqT K H a xs ∧ xs[i]? = some x, fun i H v H' => ∃ T x, v = .ref T ∧ H T = none ∧ H' = upd H T (.tup [.int (i : Nat), x]) ∧ ∀ xs, SqT K H a xs → xs[i]? = some x, fun i H => ∃ xs : List V, SqT K H a xs ∧ xs.length ≤ i⟩
theorem turn_enumT {P : Program} {w : World} {K : PySem.W.Frag} {elts : List Expr} {kk : Nat} {tpos : Pos} (a e it : Addr) :
    Turn P w K (.Tuple elts kk tpos) (IteT K a) [e, it] e (fun i h => (∃ old, IsEnum h e it ((i : Nat) : Int) old) ∧ h.IsTupleIter it a i ∧ e ≠ it) where
  mem := by simp
  obj := fun i h st b hb => by
    obtain ⟨⟨old, he⟩, ⟨o, ho, hc, hd⟩, _⟩ := st
    have e' : b = e ∨ b = it := by simpa using hb
    rcases e' with z | z
    · rw [z]; exact ⟨_, he, fun v q => nomatch q⟩
    · rw [z]; exact ⟨o, ho, fun v q => by rw [hd] at q; cases q⟩
  keep := fun i h h' st k => let ⟨⟨old, he⟩, hi, hne⟩ := st; ⟨⟨old, k e (by simp) _ he⟩, hi.at fun o q => k it (by simp) o q, hne⟩
  item := by
    intro X hP hw hK hc i pins s σ H E I hf st hg
    subst hP hw hK
    obtain ⟨⟨old, he⟩, hit, hne⟩ := st
    obtain ⟨xs, x, hq, hx⟩ := hg
    obtain ⟨its, rv, p, hz⟩ := I.tuple hq
    obtain ⟨u, hu, ru⟩ := rv.get hx
    have hel : e < s.heap.objs.size := Heap.lt_size he
    have hil : it < s.heap.objs.size := by obtain ⟨_, q, _⟩ := hit; exact Heap.lt_size q
    have hnt : a ≠ it := fun z => by
      obtain ⟨o, q1, q2, _⟩ := hit
      obtain ⟨o', q3, q4, _⟩ := p
      rw [z, q1] at q3
      cases q3
      rw [q2] at q4
      exact absurd q4 (by decide)
    have hnt2 : a ≠ e := fun z => by
      obtain ⟨o', q3, q4, _⟩ := p
      rw [z, he] at q3
      cases q3
      exact absurd (show Value.type "enumerate" = Value.type "tuple" from q4) (by decide)
    have hiz : i < its.toArray.size := by
      have := (List.getElem?_eq_some_iff.mp hx).1
      rw [List.size_toArray, ← rv.length]; exact this
    refine wpAny_pyNext_enum_itemD (Draws.tuple (A := X.A.in1) (I.ok.hd hc) it a hnt its.toArray) he ⟨hit, p⟩ hiz hne (by simp [hne, Ne.symm hnt2]) fun u' h' tk hu' ho st' hT hsz hk => ?_
    have eu : u' = u := by
      have hu' : its.toArray[i]? = some u' := hu'
      rw [show its.toArray[i]? = its[i]? by simp, hu] at hu'
      exact (Option.some.inj hu').symm
    subst eu
    refine ⟨_, rfl, wpAny_letOwnedTupleGo_enum (s := { s with heap := h', toks := tk + 1 }) ho fun h'' he' sb => ?_⟩
    have hT2 : h''.get? s.heap.objs.size = some { cls := .type "tuple", data := .seq #[.int i tk, u'] } := (sb.2 _ (Nat.ne_of_gt hel)).trans hT
    have new : ObjOk X.prog X.w (upd H s.heap.objs.size (.tup [.int (i : Nat), x])) h'' s.heap.objs.size (.tup [.int (i : Nat), x]) :=
      ⟨by show 2 ≤ sizeLine; decide, [.int i tk, u'], .cons ⟨_, rfl⟩ (.cons ru .nil), ⟨_, hT2, rfl, _, rfl⟩⟩
    have I1 : Inv X pins σ (upd H s.heap.objs.size (.tup [.int (i : Nat), x])) { s with heap := h'', toks := tk + 1 } :=
      I.turnedNew (ch := [e, it]) (fun b ob hb q => (sb.2 b (fun z => hb (by simp [z]))).trans (hk b ob (fun z => hb (by simp [z])) (fun z => hb (by simp [z])) q)) hf (Nat.le_refl _) new
    refine ⟨.ref s.heap.objs.size, _, I1, rfl, ⟨_, x, rfl, I.hok.fresh (Nat.le_refl _), rfl, fun ys hy => by rw [I.tuple_inj hy hq]; exact hx⟩, ⟨⟨u', ?_⟩, st'.1.at fun o q => (sb.2 it (Ne.symm hne)).trans q, hne⟩, fun b hb => ?_⟩
    · have e1 : ((i + 1 : Nat) : Int) = (i : Int) + 1 := by omega
      rw [e1]; exact he'
    · have hb' : b < s.heap.objs.size := by
        have e' : b = e ∨ b = it := by simpa using hb
        rcases e' with z | z
        · rw [z]; exact hel
        · rw [z]; exact hil
      rw [upd_ne (Nat.ne_of_lt hb')]
      exact (hf b hb).1
  done := by
    intro X hP hw hK hc i pins s σ H E I hf st hg
    subst hP hw hK
    obtain ⟨⟨old, he⟩, hit, hne⟩ := st
    obtain ⟨xs, hq, hx⟩ := hg
    obtain ⟨its, rv, p, hz⟩ := I.tuple hq
    obtain ⟨f0, f1, f2, f3, f4, f5⟩ := hf it (by simp)
    have hl := rv.length
    have hnt : a ≠ it := fun z => by
      obtain ⟨o, q1, q2, _⟩ := hit
      obtain ⟨o', q3, q4, _⟩ := p
      rw [z, q1] at q3
      cases q3
      rw [q2] at q4
      exact absurd q4 (by decide)
    refine enum_endT he (fun Q E hE => wpAny_nextOf_tuple_end (I.ok.hd hc) hit p (by simp; omega) hE) fun h' eb => ⟨rfl, I.turned (t' := s.toks) (fun b o hb q => eb b o hb q) f0 f1 f3 f4 f5⟩
  self := fun A i s Q E st h => let ⟨⟨_, he⟩, _⟩ := st; wpAny_pyIter_enum he h
def iEnumA (K : PySem.W.Frag) (ta : TA) : TI := fun σ H R => ta σ H fun vs H1 => ∃ a xs, vs = [.ref a] ∧ ((SqL K H1 a xs ∧ R (Ite K a) H1) ∨ (SqT K H1 a xs ∧ R (IteT K a) H1))
theorem pi_enumA {X : Cx} {e : Expr} {ta : TA} {p pos tpos : Pos} {elts : List Expr} {kk : Nat} (hg : Gl X "enumerate") (hm : X.mg "enumerate" = none) (ha : PA X [e] ta) (hs : starEach [e] X.env = [(false, eval e X.env)]) :
    PI X (.Tuple elts kk tpos) (.Call (.Name "enumerate" p) [e] [] pos) (iEnumA X.K ta) := by
  refine ⟨fun pins s σ H R I h => ?_⟩
  refine Call_ (ld_blt I hg hm boot_enumerate (PyProof.Rows.callWith_type1 (thn (ha.run pos pins s σ H _ I h) fun us s1 ⟨vs, H1, I1, r1, q1⟩ => ?_) hs rfl))
  obtain ⟨a, xs, ex, q⟩ := q1
  subst ex
  cases r1 with
  | cons r rr =>
    cases rr
    cases r
    have fp : ∀ b ∈ [s1.heap.objs.size + 1, s1.heap.objs.size], FpOk X pins H1 b := fun b hb => by
      have e' : b = s1.heap.objs.size + 1 ∨ b = s1.heap.objs.size := by simpa using hb
      have hle : s1.heap.objs.size ≤ b := by
        rcases e' with z | z
        · rw [z]; exact Nat.le_add_right _ _
        · rw [z]; exact Nat.le_refl _
      exact I1.fpOk hle (I1.hok.fresh hle)
    rcases q with ⟨hq, q⟩ | ⟨hq, q⟩
    · obtain ⟨its, rv, p', hz⟩ := I1.list hq
      refine call_enumerate_list p'.isList fun h' he hit hsz hk => wpAny_pyIter_enum he ?_
      have I2 : Inv X pins σ H1 { s1 with heap := h' } := I1.kept (t' := s1.toks) hk
      exact ⟨s1.heap.objs.size + 1, [s1.heap.objs.size + 1, s1.heap.objs.size], _, _, H1, rfl, I2, turn_enum a (s1.heap.objs.size + 1) s1.heap.objs.size, ⟨⟨.none, he⟩, hit, Nat.succ_ne_self _⟩, fp, q⟩
    · obtain ⟨its, rv, p', hz⟩ := I1.tuple hq
      refine call_enumerate_tup p' fun h' he hit hsz hk => wpAny_pyIter_enum he ?_
      have I2 : Inv X pins σ H1 { s1 with heap := h' } := I1.kept (t' := s1.toks) hk
      exact ⟨s1.heap.objs.size + 1, [s1.heap.objs.size + 1, s1.heap.objs.size], _, _, H1, rfl, I2, turn_enumT a (s1.heap.objs.size + 1) s1.heap.objs.size, ⟨⟨.none, he⟩, hit, Nat.succ_ne_self _⟩, fp, q⟩
end L2

end
section
set_option Elab.async false
set_option linter.all false
set_option maxRecDepth 100000
set_option maxHeartbeats 4000000
/-! Tup3: tuple * int, all factors. -/
namespace L2
open PySem PySem.Spec PyProof.Rows
theorem tuple_mulE (l : Addr) (items : Array Value) (n : Nat) (dd : Option Addr) (sl : Array (Option Value)) (x : Int) (u : Tok) (c0 : (decide (x < -(2 ^ 63)) || decide (x ≥ 2 ^ 63)) = false) (c1 : (items.isEmpty || x == 1) = true) :
    Meets (Builtin.«tuple.__mul__» ⟨[.ref l, .int x u], []⟩) (fun _ R s => s.heap.get? l = some { cls := .type "tuple", dict := dd, data := .seq items n, slots := sl } ∧
      R (.ok (.ret (Value.ref l))) s) :=
  .of_wp fun prog w A R s h => by
    obtain ⟨hp, g, d, tk, os⟩ := s
    obtain ⟨hl, h⟩ := h
    have f1 := AutoSeq1.idx_int
    wp_walk using wpAny_loadPart' hl
    refine wpAny_ite_false (decide_eq_false (by rw [c0]; exact Bool.false_ne_true)) ?_
    wp_walk using wpAny_loadPart' hl
    exact ⟨_, rfl, h⟩
theorem tuple_mulZ (l : Addr) (items : Array Value) (n : Nat) (dd : Option Addr) (sl : Array (Option Value)) (x : Int) (u : Tok) (c0 : (decide (x < -(2 ^ 63)) || decide (x ≥ 2 ^ 63)) = false) (c1 : (items.isEmpty || x == 1) = false) (c2 : (decide (x ≤ 0) || items.isEmpty) = true) :
    Meets (Builtin.«tuple.__mul__» ⟨[.ref l, .int x u], []⟩) (fun _ R s => s.heap.get? l = some { cls := .type "tuple", dict := dd, data := .seq items n, slots := sl } ∧
      R (.ok (.ret (Value.ref s.heap.objs.size))) { s with heap := s.heap.push { cls := Value.type "tuple", data := Data.seq #[] }, toks := s.toks }) :=
  .of_wp fun prog w A R s h => by
    obtain ⟨hp, g, d, tk, os⟩ := s
    obtain ⟨hl, h⟩ := h
    have f1 := AutoSeq1.idx_int
    wp_walk using wpAny_loadPart' hl
    refine wpAny_ite_false (decide_eq_false (by rw [c0]; exact Bool.false_ne_true)) ?_
    wp_walk using wpAny_loadPart' hl
    exact ⟨_, rfl, h⟩
def rRepE (K : PySem.W.Frag) : R2 := fun x y H Q => ∃ l k xs, x = .ref l ∧ y = .int k ∧ SqT K H l xs ∧ (xs = [] ∨ k = 1) ∧ -1000000 ≤ k ∧ k ≤ 1000000 ∧ Q (.ref l) H
def rRepZ (K : PySem.W.Frag) : R2 := fun x y H Q => ∃ l k xs, x = .ref l ∧ y = .int k ∧ SqT K H l xs ∧ xs ≠ [] ∧ k ≤ 0 ∧ -1000000 ≤ k ∧ ∀ p, H p = none → Q (.ref p) (upd H p (.tup []))
section
variable {X : Cx}
theorem op_repE : OpR X (binaryOp .Mult) (rRepE X.K) := by
  intro pins s σ H x y v u Q I rx ry h
  obtain ⟨l, k, xs, rfl, rfl, hT, hne, h1, h2, q⟩ := h
  cases rx
  obtain ⟨t, rfl⟩ := ry
  obtain ⟨its, r, ⟨⟨cls, dd, data, sl⟩, ho, hc, n, hd⟩, hs⟩ := I.tuple hT
  simp only at hc hd
  subst hc hd
  have hle : its.length = xs.length := r.length.symm
  have c0 : (decide (k < -(2 ^ 63)) || decide (k ≥ 2 ^ 63)) = false := by
    rw [decide_eq_false (by omega), decide_eq_false (by omega)] <;> rfl
  have c1 : (its.toArray.isEmpty || k == 1) = true := by
    rcases hne with e | e
    · have : its = [] := by rw [e] at hle; exact List.eq_nil_of_length_eq_zero hle
      subst this; rfl
    · subst e; simp
  refine wpAny_binaryOp_repeat_ref (T := "tuple") (U := "int") (by decide) ⟨_, ho, rfl⟩ (fun s' => typeIs_int s' k t) noFill_tuple_mul F.fills_int_mul F.slot_int_rmul repeat_tuple F.slot_int_index.lookup
    (call_meets F.slot_int_rmul (typeIs_int s k t) F.entry_int_rmul (F.args_int_rmul_2 _ _) (int_rmul_tuple k t l its.toArray n dd sl)
      ⟨ho, rfl, ⟨_, ho, rfl⟩, call_meets F.slot_tuple_mul ⟨_, ho, rfl⟩ F.entry_tuple_mul (F.args_tuple_mul_2 _ _) (tuple_mulE l its.toArray n dd sl k t c0 c1) ⟨ho, ?_⟩⟩)
  exact ⟨.ref l, _, I, rfl, q⟩
theorem op_repZ : OpR X (binaryOp .Mult) (rRepZ X.K) := by
  intro pins s σ H x y v u Q I rx ry h
  obtain ⟨l, k, xs, rfl, rfl, hT, hne, h1, h2, q⟩ := h
  cases rx
  obtain ⟨t, rfl⟩ := ry
  obtain ⟨its, r, ⟨⟨cls, dd, data, sl⟩, ho, hc, n, hd⟩, hs⟩ := I.tuple hT
  simp only at hc hd
  subst hc hd
  have hle : its.length = xs.length := r.length.symm
  have hn : its ≠ [] := fun e => hne (by
    rw [e] at hle
    exact List.eq_nil_of_length_eq_zero hle.symm)
  have hi : its.toArray.isEmpty = false := by
    cases its with
    | nil => exact absurd rfl hn
    | cons a b => rfl
  have c0 : (decide (k < -(2 ^ 63)) || decide (k ≥ 2 ^ 63)) = false := by
    rw [decide_eq_false (by omega), decide_eq_false (by omega)] <;> rfl
  have c1 : (its.toArray.isEmpty || k == 1) = false := by
    rw [hi, Bool.false_or]
    exact beq_eq_false_iff_ne.mpr (by omega)
  have c2 : (decide (k ≤ 0) || its.toArray.isEmpty) = true := by
    rw [decide_eq_true h1]; rfl
  refine wpAny_binaryOp_repeat_ref (T := "tuple") (U := "int") (by decide) ⟨_, ho, rfl⟩ (fun s' => typeIs_int s' k t) noFill_tuple_mul F.fills_int_mul F.slot_int_rmul repeat_tuple F.slot_int_index.lookup
    (call_meets F.slot_int_rmul (typeIs_int s k t) F.entry_int_rmul (F.args_int_rmul_2 _ _) (int_rmul_tuple k t l its.toArray n dd sl)
      ⟨ho, rfl, ⟨_, ho, rfl⟩, call_meets F.slot_tuple_mul ⟨_, ho, rfl⟩ F.entry_tuple_mul (F.args_tuple_mul_2 _ _) (tuple_mulZ l its.toArray n dd sl k t c0 c1 c2) ⟨ho, ?_⟩⟩)
  refine ⟨.ref s.heap.objs.size, _, I.laid (t' := s.toks) (o := .tup []) (fun b ob q => Heap.get?_push_of_some _ q) (Nat.le_refl _) ?_, rfl, q _ (I.hok.fresh (Nat.le_refl _))⟩
  exact ⟨by decide, [], .nil, IsTup.new _ _⟩
end
end L2

end
section
set_option linter.all false
/-! Ev: pure data, an own small language (E, S), its evaluator. -/
namespace Ev
open PySem

/-- values: data all through; own: a fresh or a slot's own list; pk: what stands in a slot, only looked at; frz: the script; cell: a list in the store -/
inductive D where
  | non | bl (b : Bool) | int (i : Int) | str (x : Str)
  | tup (xs : List D) | lst (xs : List D)
  | own (xs : List D) | pk (i : Nat) | frz (xs : List D) | cell (n : Nat)
  | ins (c : Nat) (vs : List D)
  deriving Inhabited

inductive Bop where | add | sub | mul | fdiv | mod | pow
  deriving DecidableEq, Inhabited
inductive Cop where | eq | ne | lt | le | gt | ge | isn | notn | inn | nin
  deriving DecidableEq, Inhabited
inductive Bi where
  | len | sum | max1 | min1 | max2 | min2 | abs | toInt | toStr | toTup | toLst | sorted | sortset | all | any
  deriving DecidableEq, Inhabited
inductive Bm where | index
  deriving DecidableEq, Inhabited
inductive Mu where | append | extend | remove | pop
  deriving DecidableEq, Inhabited
/-- what isinstance is asked for -/
inductive Ty where | int | bool | str | list | tuple | own (c : Nat)
  deriving DecidableEq, Inhabited

mutual
inductive E where
  | var (i : Nat) | pk (i : Nat) | ref (i : Nat)
  | lit (d : D) | glob (x : Str) (d : D)
  | nil | cons (a b : E) | star (a b : E)
  | tup (a : E) | lst (a : E)
  | bin (o : Bop) (a b : E) | neg (a : E) | not (a : E)
  | cmp (o : Cop) (a b : E) | chain (o p : Cop) (a b c : E)
  | and (a b : E) | or (a b : E) | orL (a b : E) | ite (c a b : E)
  | idx (a b : E) | slice (a lo hi : E) | rev (a : E) | no | bad
  | call (f : Nat) (a : E) | attr (a : E) (f : Str)
  | bi (f : Bi) (a : E) | bm (f : Bm) (o a : E) | isi (a : E) (k : List Ty)
  | comp (ow : List Nat) (t : T) (it c e : E)
  | comp2 (ow : List Nat) (t : T) (it c : E) (ow2 : List Nat) (t2 : T) (it2 c2 e : E)
  | rng (a : E) | zip (a : E) | enum (a : E)
/-- targets -/
inductive T where
  | nm (i : Nat) | tp (a : T) | nil | cons (a b : T) | ix (i : Nat) (b : E)
end
instance : Inhabited E := ⟨.no⟩
instance : Inhabited T := ⟨.nil⟩

inductive S where
  | skip | no | seq (a b : S) | asg (t : T) (e : E) | ex (e : E) | ret (e : E) | ite (c : E) (a b : S)
  | for (t : T) (it : E) (b : S) | while (c : E) (b : S) | brk | cont
  | par (is : List Nat) (a : E)
  | raise (c : Nat) (a : E) | mut (m : Mu) (i : Nat) (a : E)
  deriving Inhabited

abbrev Env := List (Option D)
abbrev Store := List (List D)

inductive Out (α : Type) where
  | ok (a : α) (en : Env) (st : Store)
  | exc (c : Nat) (vs : List D) (en : Env) (st : Store)
  | bad
/-- a call's end -/
inductive OutF where
  | ok (d : D) (st : Store)
  | exc (c : Nat) (vs : List D) (st : Store)
  | bad
def Out.bind {α β : Type} : Out α → (α → Env → Store → Out β) → Out β
  | .ok a en st, f => f a en st
  | .exc c vs en st, _ => .exc c vs en st
  | .bad, _ => .bad
/-- a value, or nothing is said -/
def Out.of {α : Type} (o : Option α) (en : Env) (st : Store) : Out α := match o with
  | some a => .ok a en st
  | none => .bad

def lim : Nat := 16777216
/-- lists, as they may be read -/
def D.seqL : D → Option (List D)
  | .lst xs => some xs | .own xs => some xs | .frz xs => some xs
  | _ => none
def D.seqT : D → Option (List D)
  | .tup xs => some xs
  | _ => none
def D.seq (d : D) : Option (List D) := match d.seqL with
  | some xs => some xs
  | none => d.seqT
/-- what may be given to a def: a fresh list is then one's own no more -/
def D.arg : D → Option D
  | .own xs => some (.lst xs)
  | .pk _ => none
  | d => some d
/-- what may be an item of other data -/
def D.item : D → Option D
  | .own xs => some (.lst xs)
  | .pk _ => none | .frz _ => none | .cell _ => none
  | d => some d
def asInts : List D → Option (List Int)
  | [] => some []
  | .int i :: r => (asInts r).map (i :: ·)
  | _ :: _ => none
def asBools : List D → Option (List Bool)
  | [] => some []
  | .bl i :: r => (asBools r).map (i :: ·)
  | _ :: _ => none
@[simp] theorem asInts_map : ∀ xs : List Int, asInts (xs.map D.int) = some xs
  | [] => rfl
  | x :: r => by simp [asInts, asInts_map r]
@[simp] theorem asBools_map : ∀ xs : List Bool, asBools (xs.map D.bl) = some xs
  | [] => rfl
  | x :: r => by simp [asBools, asBools_map r]

def chk {α : Type} (c : Bool) (a : α) : Option α := if c then some a else none

def mulOk (i j : Int) : Bool := (decide (-(2 ^ 64) < i) && decide (i < 2 ^ 64)) || (decide (-(2 ^ 64) < j) && decide (j < 2 ^ 64))
def repOk (n : Nat) (k : Int) : Bool := decide (-(2 ^ 63) ≤ k) && decide (k < 2 ^ 63) && decide (n * k.toNat ≤ lim)
def addL (a b : D) : Option D := match a, b with
  | .frz _, _ => none
  | _, .frz _ => none
  | a, b => match a.seqL, b.seqL with
    | some xs, some ys => chk (decide (xs.length + ys.length ≤ lim)) (.own (xs ++ ys))
    | _, _ => none
def mulL (a : D) (k : Int) : Option D := match a with
  | .frz _ => none
  | .tup xs => chk (decide (-1000 ≤ k) && decide (k ≤ 1000) && decide (xs.length ≤ 1000)) (.tup (List.replicate k.toNat xs).flatten)
  | a => match a.seqL with
    | some xs => chk (repOk xs.length k) (.own (List.replicate k.toNat xs).flatten)
    | none => none
def binop : Bop → D → D → Option D
  | .add, .int i, .int j => some (.int (i + j))
  | .add, .str x, .str y => chk (decide (x.length + y.length ≤ lim)) (.str (x ++ y))
  | .add, .tup xs, .tup ys => chk (decide (xs.length + ys.length ≤ lim)) (.tup (xs ++ ys))
  | .add, a, b => addL a b
  | .sub, .int i, .int j => some (.int (i - j))
  | .mul, .int i, .int j => chk (mulOk i j) (.int (i * j))
  | .mul, a, .int k => mulL a k
  | .fdiv, .int i, .int j => chk (decide (j ≠ 0) && decide (j.natAbs < 1073741824)) (.int (i.fdiv j))
  | .mod, .int i, .int j => chk (decide (j ≠ 0)) (.int (i.fmod j))
  | .pow, .int i, .int j => chk (decide (0 ≤ j) && decide (j ≤ 1000000) && decide (i.natAbs < 2 ^ 64)) (.int (i ^ j.toNat))
  | _, _, _ => none

mutual
def D.py : D → Option PyData
  | .non => some .none
  | .bl b => some (.bool b)
  | .int i => some (.int i)
  | .str x => some (.str x)
  | .tup xs => (pys xs).map .tuple
  | .lst xs => (pys xs).map .list
  | .own xs => (pys xs).map .list
  | .pk _ => none
  | .frz xs => (pys xs).map .list
  | .cell _ => none
  | .ins _ _ => none
def pys : List D → Option (List PyData)
  | [] => some []
  | d :: r => match d.py, pys r with
    | some a, some b => some (a :: b)
    | _, _ => none
end
def scalar : D → Bool
  | .non => true | .bl _ => true | .int _ => true | .str _ => true
  | _ => false
def eqS : D → D → Option Bool
  | .non, .non => some true
  | .int i, .int j => some (decide (i = j))
  | .bl i, .bl j => some (decide (i = j))
  | .str i, .str j => some (decide (i = j))
  | .non, .int _ => some false
  | .int _, .non => some false
  | .non, .bl _ => some false
  | .bl _, .non => some false
  | .non, .str _ => some false
  | .str _, .non => some false
  | .int _, .str _ => some false
  | .str _, .int _ => some false
  | .bl _, .str _ => some false
  | .str _, .bl _ => some false
  | _, _ => none
def eqD (a b : D) : Option Bool := match eqS a b with
  | some r => some r
  | none => match a.py, b.py with
    | some x, some y => chk (SeqAt.shaped x && SeqAt.shaped y) (PyData.eqv x y)
    | _, _ => none
/-- x in xs, items flat -/
def inL (x : D) : List D → Option Bool
  | [] => some false
  | y :: r => match eqS y x, inL x r with
    | some b, some c => some (b || c)
    | _, _ => none
def isN : D → Option Bool
  | .non => some true
  | .pk _ => none
  | .cell _ => none
  | _ => some false
def cmpop : Cop → D → D → Option Bool
  | .eq, a, b => eqD a b
  | .ne, a, b => (eqD a b).map (!·)
  | .lt, .int i, .int j => some (decide (i < j))
  | .le, .int i, .int j => some (decide (i ≤ j))
  | .gt, .int i, .int j => some (decide (j < i))
  | .ge, .int i, .int j => some (decide (j ≤ i))
  | .isn, a, .non => isN a
  | .notn, a, .non => (isN a).map (!·)
  | .inn, a, b => (match b.seq with
    | some xs => if scalar a then inL a xs else none
    | none => none)
  | .nin, a, b => (match b.seq with
    | some xs => if scalar a then (inL a xs).map (!·) else none
    | none => none)
  | _, _, _ => none

def sIx (n : Nat) (d : Int) (o : Option Int) : Int := match o with
  | none => d
  | some i => if i < 0 then max 0 (i + n) else min i n
/-- the bounds of a slice: as asInts or none -/
def part : D → Option (Option Int)
  | .int i => some (some i)
  | .non => some none
  | _ => none
def cut (xs : List D) (lo hi : Option Int) : List D := (xs.drop (HT.sIx xs.length 0 lo)).take (HT.sIx xs.length xs.length hi - HT.sIx xs.length 0 lo)
def sliceD (a : D) (lo hi : Option Int) : Option D := match a with
  | .tup xs => some (.tup (cut xs lo hi))
  | .str x => chk (decide (x.length ≤ lim)) (.str (L2.cutS x lo hi))
  | a => (match a.seqL with
    | some xs => some (.own (cut xs lo hi))
    | none => none)
def idxD (a b : D) : Option D := match b with
  | .int i => (match a with
    | .str x => (match L2.atI x.cps.toList i with
      | some c => chk (decide (x.length ≤ lim)) (.str ⟨#[c]⟩)
      | none => none)
    | a => (match a.seq with
      | some xs => L2.atI xs i
      | none => none))
  | _ => none
def revD (a : D) : Option D := match a.seqL with
  | some xs => some (.own xs.reverse)
  | none => none

def listMax : List Int → Option Int
  | [] => none
  | x :: r => some (r.foldl max x)
def listMin : List Int → Option Int
  | [] => none
  | x :: r => some (r.foldl min x)
def sortI (xs : List Int) : List Int := xs.mergeSort (fun a b => decide (a ≤ b))
def dedupI (xs : List Int) : List Int := sortI xs.eraseDups

def bi1 : Bi → D → Option D
  | .len, .str x => chk (decide (x.length ≤ lim)) (.int x.length)
  | .len, d => d.seq.map fun xs => .int xs.length
  | .sum, d => (match d.seq with
    | some xs => (asInts xs).map fun is => .int is.sum
    | none => none)
  | .max1, d => (match d.seq with
    | some xs => (match asInts xs with
      | some is => (listMax is).map .int
      | none => none)
    | none => none)
  | .min1, d => (match d.seq with
    | some xs => (match asInts xs with
      | some is => (listMin is).map .int
      | none => none)
    | none => none)
  | .abs, .int i => some (.int (if i < 0 then -i else i))
  | .toInt, .int i => some (.int i)
  | .toInt, .bl b => some (.int (if b then 1 else 0))
  | .toTup, d => d.seq.map .tup
  | .toLst, d => d.seq.map .own
  | .sorted, d => (match d.seqL with
    | some xs => (asInts xs).map fun is => .own ((sortI is).map .int)
    | none => none)
  | .sortset, d => (match d.seq with
    | some xs => (asInts xs).map fun is => .own ((dedupI is).map .int)
    | none => none)
  | .all, d => (match d.seqL with
    | some xs => (asBools xs).map fun is => .bl (is.all id)
    | none => none)
  | .any, d => (match d.seqL with
    | some xs => (asBools xs).map fun is => .bl (is.any id)
    | none => none)
  | _, _ => none
def bi2 : Bi → D → D → Option D
  | .max2, .int i, .int j => some (.int (if j > i then j else i))
  | .min2, .int i, .int j => some (.int (if j < i then j else i))
  | _, _, _ => none
def bi (f : Bi) : List D → Option D
  | [x] => bi1 f x
  | [x, y] => bi2 f x y
  | _ => none
def idxOf (x : Int) : List Int → Nat → Option Nat
  | [], _ => none
  | y :: r, k => if y = x then some k else idxOf x r (k + 1)
def bm : Bm → D → List D → Option D
  | .index, d, [.int i] => (match d.seqL with
    | some xs => (match asInts xs with
      | some is => (idxOf i is 0).map fun (k : Nat) => .int (k : Int)
      | none => none)
    | none => none)
  | _, _, _ => none
def isTy : D → Ty → Option Bool
  | .non, .own _ => none
  | .non, _ => some false
  | .int _, .int => some true
  | .int _, .own _ => none
  | .int _, _ => some false
  | .bl _, .int => some true
  | .bl _, .bool => some true
  | .bl _, .own _ => none
  | .bl _, _ => some false
  | .str _, .str => some true
  | .str _, .own _ => none
  | .str _, _ => some false
  | .tup _, .tuple => some true
  | .tup _, .own _ => none
  | .tup _, _ => some false
  | .lst _, .list => some true
  | .lst _, .own _ => none
  | .lst _, _ => some false
  | .own _, .list => some true
  | .own _, .own _ => none
  | .own _, _ => some false
  | .frz _, .list => some true
  | .frz _, .own _ => none
  | .frz _, _ => some false
  | _, _ => none
def isTys (d : D) : List Ty → Option Bool
  | [] => some false
  | k :: r => match isTy d k, isTys d r with
    | some b, some c => some (b || c)
    | _, _ => none

/-- the values of a range -/
def rng (lo : Int) (n : Nat) (c : Int) : List D := (List.range n).map fun (k : Nat) => .int (lo + (k : Int) * c)
def rngOk (i : Int) : Bool := decide (-(2 ^ 62) ≤ i) && decide (i < 2 ^ 62)
def zipD : List D → List D → List D
  | x :: xs, y :: ys => .tup [x, y] :: zipD xs ys
  | _, _ => []
def enumD : Nat → List D → List D
  | _, [] => []
  | k, x :: xs => .tup [.int k, x] :: enumD (k + 1) xs

def getS (en : Env) (i : Nat) : Option D := match en[i]? with
  | some (some d) => some d
  | _ => none
def setS (en : Env) (i : Nat) (d : D) : Env := en.set i (some d)
/-- a name is read: a list of one's own is so no more -/
def readV (i : Nat) (en : Env) (st : Store) : Out D := match getS en i with
  | some (.own xs) => .ok (.lst xs) (setS en i (.lst xs)) st
  | some (.cell _) => .bad
  | some d => .ok d en st
  | none => .bad
def peekV (i : Nat) (en : Env) (st : Store) : Out D := match getS en i with
  | some (.own _) => .ok (.pk i) en st
  | some (.cell n) => if n < st.length then .ok (.pk i) en st else .bad
  | some d => .ok d en st
  | none => .bad
/-- what is looked at, as it is now -/
def res (d : D) (en : Env) (st : Store) : D := match d with
  | .pk i => (match getS en i with
    | some (.own xs) => .lst xs
    | some (.cell n) => (match st[n]? with
      | some xs => .lst xs
      | none => d)
    | some d' => d'
    | none => d)
  | d => d
/-- a name is handed on as a place: the list goes into the store -/
def refV (i : Nat) (en : Env) (st : Store) : Out D := match getS en i with
  | some (.own xs) => .ok (.cell st.length) (setS en i (.cell st.length)) (st ++ [xs])
  | some (.cell n) => .ok (.cell n) en st
  | some d => .ok d en st
  | none => .bad
def wipeE (en : Env) : List Nat → Env
  | [] => en
  | v :: vs => (wipeE en vs).set v none
/-- behind a block: its own names are what they were -/
def backE (old : Env) (new : Env) : List Nat → Env
  | [] => new
  | v :: vs => (backE old new vs).set v (old.getD v none)

abbrev Fn := Nat → List D → Store → OutF

def callO (F : Fn) (f : Nat) (ds : List D) (en : Env) (st : Store) : Out D := match F f ds st with
  | .ok d st' => .ok d en st'
  | .exc c vs st' => .exc c vs en st'
  | .bad => .bad

/-- nothing is said of what raises -/
def noX {α : Type} : Out α → Out α
  | .exc _ _ _ _ => .bad
  | o => o
/-- turns of a comprehension: what is made so far grows -/
def accL {α : Type} (turn : D → α → Env → Store → Out α) : List D → α → Env → Store → Out α
  | [], acc, en, st => .ok acc en st
  | d :: ds, acc, en, st => (turn d acc en st).bind fun acc en st => accL turn ds acc en st
def items : List D → Option (List D)
  | [] => some []
  | d :: r => match d.item, items r with
    | some x, some xs => some (x :: xs)
    | _, _ => none
def args : List D → Option (List D)
  | [] => some []
  | d :: r => match d.arg, args r with
    | some x, some xs => some (x :: xs)
    | _, _ => none
def negD : D → Option D
  | .int i => some (.int (-i))
  | _ => none
/-- what a name may hold -/
def slotD : D → Option D
  | .pk _ => none
  | .cell _ => none
  | d => some d
/-- plain data -/
def dataD : D → Option D
  | .pk _ => none
  | .cell _ => none
  | .own _ => none
  | .frz _ => none
  | d => some d
def isOwn (en : Env) (i : Nat) : Bool := match getS en i with
  | some (.own _) => true
  | _ => false
/-- a slice's bound -/
def bound : E → D → Option (Option Int)
  | .no, _ => some none
  | _, .int i => some (some i)
  | _, _ => none
def rngL : List D → Option D
  | [.int j] => chk (rngOk j && decide (j.toNat ≤ lim)) (.tup (rng 0 j.toNat 1))
  | [.int i, .int j] => chk (rngOk i && rngOk j && decide ((j - i).toNat ≤ lim)) (.tup (rng i (j - i).toNat 1))
  | [.int i, .int j, .int k] => chk (decide (k ≠ 0) && decide (k.natAbs < 1073741824) && Builtin.Range.small i j k && decide (0 ≤ Builtin.Range.rangeSize i j k) && decide ((Builtin.Range.rangeSize i j k).toNat ≤ lim)) (.tup (rng i (Builtin.Range.rangeSize i j k).toNat k))
  | _ => none
/-- two lists, or two tuples -/
def zipL : List D → Option D
  | [x, y] => (match x.seqL, y.seqL with
    | some xs, some ys => some (.tup (zipD xs ys))
    | _, _ => (match x.seqT, y.seqT with
      | some xs, some ys => some (.tup (zipD xs ys))
      | _, _ => none))
  | _ => none
def enumL : List D → Option D
  | [x] => x.seq.map fun xs => .tup (enumD 0 xs)
  | _ => none
def boolO (d : D) (en : Env) (st : Store) : Out Bool := match d with
  | .bl b => .ok b en st
  | _ => .bad
def listO (d : D) : List D := match d with
  | .tup xs => xs
  | _ => []

/-- the fields of instances, what a property does: by the class's table -/
structure Tab where
  field : Nat → Str → Option Nat          -- class, name: a slot
  prop : Nat → Str → Option Nat           -- class, name: the def of a property
/-- the values that a for, a comprehension, goes through -/
def iterD (d : D) : Option (List D) := match d with
  | .str x => chk (decide (x.length ≤ lim)) (x.cps.toList.map fun c => .str ⟨#[c]⟩)
  | d => d.seq


/-- name[k] = x, the name a list of one's own, or one in the store -/
def storeAt (i : Nat) (k x : D) (en : Env) (st : Store) : Out Unit := match k with
  | .int k => (match getS en i with
    | some (.own xs) => (match L2.ixN xs.length k with
      | some j => .ok () (setS en i (.own (xs.set j x))) st
      | none => .bad)
    | some (.cell n) => (match st[n]? with
      | some xs => (match L2.ixN xs.length k with
        | some j => .ok () en (st.set n (xs.set j x))
        | none => .bad)
      | none => .bad)
    | _ => .bad)
  | _ => .bad
/-- how many targets -/
def tgLen : T → Option Nat
  | .nil => some 0
  | .cons _ b => (tgLen b).map (· + 1)
  | _ => none
mutual
def evalE (T0 : Tab) (F : Fn) : E → Env → Store → Out D
  | .var i, en, st => readV i en st
  | .pk i, en, st => peekV i en st
  | .ref i, en, st => refV i en st
  | .lit d, en, st => .ok d en st
  | .glob _ d, en, st => .ok d en st
  | .nil, en, st => .ok (.tup []) en st
  | .cons a b, en, st => (evalE T0 F a en st).bind fun d en st => (evalE T0 F b en st).bind fun r en st => .ok (.tup (d :: listO r)) en st
  | .star a b, en, st => (evalE T0 F a en st).bind fun d en st => (Out.of (res d en st).seq en st).bind fun xs en st => (evalE T0 F b en st).bind fun r en st => .ok (.tup (xs ++ listO r)) en st
  | .tup a, en, st => (evalE T0 F a en st).bind fun r en st => .of ((items (listO r)).bind fun ds => chk (decide (ds.length ≤ lim)) (.tup ds)) en st
  | .lst a, en, st => (evalE T0 F a en st).bind fun r en st => .of ((items (listO r)).bind fun ds => chk (decide (ds.length ≤ lim)) (.own ds)) en st
  | .bin o a b, en, st => (evalE T0 F a en st).bind fun x en st => (evalE T0 F b en st).bind fun y en st => .of (binop o (res x en st) (res y en st)) en st
  | .neg a, en, st => (evalE T0 F a en st).bind fun x en st => .of (negD x) en st
  | .not a, en, st => (evalE T0 F a en st).bind fun x en st => (boolO x en st).bind fun b en st => .ok (.bl (!b)) en st
  | .cmp o a b, en, st => (evalE T0 F a en st).bind fun x en st => (evalE T0 F b en st).bind fun y en st => .of ((cmpop o (res x en st) (res y en st)).map .bl) en st
  | .chain o p a b c, en, st => (evalE T0 F a en st).bind fun x en st => (evalE T0 F b en st).bind fun y en st => (Out.of (cmpop o (res x en st) (res y en st)) en st).bind fun k en st =>
      if k then (evalE T0 F c en st).bind fun z en st => .of ((cmpop p (res y en st) (res z en st)).map .bl) en st else .ok (.bl false) en st
  | .and a b, en, st => (evalE T0 F a en st).bind fun x en st => (boolO x en st).bind fun k en st => if k then evalE T0 F b en st else .ok (.bl false) en st
  | .or a b, en, st => (evalE T0 F a en st).bind fun x en st => (boolO x en st).bind fun k en st => if k then .ok (.bl true) en st else evalE T0 F b en st
  | .orL a b, en, st => (evalE T0 F a en st).bind fun x en st => (match x with
    | .own (y :: r) => .ok (.own (y :: r)) en st
    | .own [] => evalE T0 F b en st
    | _ => .bad)
  | .ite c a b, en, st => (evalE T0 F c en st).bind fun x en st => (boolO x en st).bind fun k en st => if k then evalE T0 F a en st else evalE T0 F b en st
  | .idx a b, en, st => (evalE T0 F a en st).bind fun x en st => (evalE T0 F b en st).bind fun y en st => .of (idxD (res x en st) y) en st
  | .slice a lo hi, en, st => (evalE T0 F a en st).bind fun x en st => (evalE T0 F lo en st).bind fun l en st => (Out.of (bound lo l) en st).bind fun l en st =>
      (evalE T0 F hi en st).bind fun h en st => (Out.of (bound hi h) en st).bind fun h en st => .of (sliceD (res x en st) l h) en st
  | .rev a, en, st => (evalE T0 F a en st).bind fun x en st => .of (revD (res x en st)) en st
  | .no, en, st => .ok .non en st
  | .bad, en, st => .bad
  | .call f a, en, st => (evalE T0 F a en st).bind fun r en st => (Out.of (args (listO r)) en st).bind fun ds en st => callO F f ds en st
  | .attr a f, en, st => (evalE T0 F a en st).bind fun x en st => (match x with
    | .ins c vs => (match T0.field c f with
      | some i => .of vs[i]? en st
      | none => (match T0.prop c f with
        | some g => noX (callO F g [.ins c vs] en st)
        | none => .bad))
    | _ => .bad)
  | .bi f a, en, st => (evalE T0 F a en st).bind fun r en st => .of (bi f ((listO r).map fun d => res d en st)) en st
  | .bm f o a, en, st => (evalE T0 F o en st).bind fun x en st => (Out.of (res x en st).seqL en st).bind fun _ en st => (evalE T0 F a en st).bind fun r en st => .of (bm f (res x en st) (listO r)) en st
  | .isi a k, en, st => (evalE T0 F a en st).bind fun x en st => .of ((isTys (res x en st) k).map .bl) en st
  | .comp ow t it c e, en, st => ((evalE T0 F it en st).bind fun d en st => .of (iterD d) en st).bind fun ds en st =>
      if ow.any (isOwn en) then .bad else
      (noX (accL (fun d acc en st => (assignT T0 F t d en st).bind fun _ en st => ((evalE T0 F c en st).bind boolO).bind fun b en st =>
          if b then (evalE T0 F e en st).bind fun x en st => (Out.of x.item en st).bind fun x en st => .ok (acc ++ [x]) (wipeE en ow) st else .ok acc (wipeE en ow) st)
      ds [] (wipeE en ow) st)).bind fun ds en' st => .ok (.own ds) (backE en en' ow) st
  | .comp2 ow t it c ow2 t2 it2 c2 e, en, st => ((evalE T0 F it en st).bind fun d en st => .of (iterD d) en st).bind fun ds en st =>
      if ow.any (isOwn en) then .bad else
      (noX (accL (fun d acc en st => (assignT T0 F t d en st).bind fun _ en st => ((evalE T0 F c en st).bind boolO).bind fun b en st =>
          if b then ((evalE T0 F it2 en st).bind fun d en st => .of (iterD d) en st).bind fun ds en st =>
            (accL (fun d acc en st => (assignT T0 F t2 d en st).bind fun _ en st => ((evalE T0 F c2 en st).bind boolO).bind fun b en st =>
              if b then (evalE T0 F e en st).bind fun x en st => (Out.of x.item en st).bind fun x en st => .ok (acc ++ [x]) (wipeE en ow2) st else .ok acc (wipeE en ow2) st)
            ds acc (wipeE en ow2) st).bind fun acc en st => .ok acc (wipeE en ow) st
          else .ok acc (wipeE en ow) st)
      ds [] (wipeE en ow) st)).bind fun ds en' st => .ok (.own ds) (backE en en' ow) st
  | .rng a, en, st => (evalE T0 F a en st).bind fun r en st => .of (rngL (listO r)) en st
  | .zip a, en, st => (evalE T0 F a en st).bind fun r en st => .of (zipL (listO r)) en st
  | .enum a, en, st => (evalE T0 F a en st).bind fun r en st => .of (enumL (listO r)) en st
def assignT (T0 : Tab) (F : Fn) : T → D → Env → Store → Out Unit
  | .nm i, d, en, st => (Out.of (dataD d) en st).bind fun d en st => if i < en.length then .ok () (setS en i d) st else .bad
  | .tp a, d, en, st => (match d with
    | .tup ds => if tgLen a = some ds.length then assignT T0 F a (.tup ds) en st else .bad
    | .lst ds => if tgLen a = some ds.length then assignT T0 F a (.tup ds) en st else .bad
    | _ => .bad)
  | .nil, d, en, st => (match d with
    | .tup [] => .ok () en st
    | _ => .bad)
  | .cons a b, d, en, st => (match d with
    | .tup (x :: r) => (assignT T0 F a x en st).bind fun _ en st => assignT T0 F b (.tup r) en st
    | _ => .bad)
  | .ix i b, d, en, st => (Out.of (getS en i) en st).bind fun _ en st => (Out.of (dataD d) en st).bind fun x en st => (evalE T0 F b en st).bind fun k en st => storeAt i k x en st
end

inductive Flow where | nx | bk | ct | rt (d : D)

def mutate (m : Mu) (xs : List D) (ds : List D) : Option (List D) := match m, ds with
  | .append, [d] => d.item.bind fun x => chk (decide (xs.length < lim)) (xs ++ [x])
  | .extend, [d] => (match d with
    | .own ys => chk (decide (xs.length + ys.length ≤ lim)) (xs ++ ys)
    | .lst ys => chk (decide (xs.length + ys.length ≤ lim)) (xs ++ ys)
    | _ => none)
  | .remove, [.int k] => (match asInts xs with
    | some is => if is.contains k then some ((is.erase k).map .int) else none
    | none => none)
  | .pop, [] => if xs.isEmpty then none else some xs.dropLast
  | _, _ => none
def mutS (m : Mu) (i : Nat) (ds : List D) (en : Env) (st : Store) : Out Flow := match getS en i with
  | some (.own xs) => (match mutate m xs ds with
    | some ys => .ok .nx (setS en i (.own ys)) st
    | none => .bad)
  | some (.cell n) => (match st[n]? with
    | some xs => (match mutate m xs ds with
      | some ys => .ok .nx en (st.set n ys)
      | none => .bad)
    | none => .bad)
  | _ => .bad
def mutable (i : Nat) (en : Env) (st : Store) : Bool := match getS en i with
  | some (.own _) => true
  | some (.cell n) => decide (n < st.length)
  | _ => false
/-- a for's turns -/
def forL (turn : D → Env → Store → Out Flow) : List D → Env → Store → Out Flow
  | [], en, st => .ok .nx en st
  | d :: ds, en, st => (turn d en st).bind fun f en st => match f with
    | .nx => forL turn ds en st
    | .ct => forL turn ds en st
    | .bk => .ok .nx en st
    | .rt d => .ok (.rt d) en st
/-- a while's turns, at most n -/
def whileL (test : Env → Store → Out Bool) (body : Env → Store → Out Flow) : Nat → Env → Store → Out Flow
  | 0, _, _ => .bad
  | n + 1, en, st => (test en st).bind fun b en st => if b then (body en st).bind fun f en st => match f with
    | .nx => whileL test body n en st
    | .ct => whileL test body n en st
    | .bk => .ok .nx en st
    | .rt d => .ok (.rt d) en st
    else .ok .nx en st
/-- what is handed back: a list of one's own may go -/
def retD (d : D) : Option D := match d with
  | .own xs => some (.own xs)
  | .pk _ => none
  | .cell _ => none
  | d => some d
/-- several names at once -/
def parS : List Nat → List D → Env → Store → Out Flow
  | [], [], en, st => .ok .nx en st
  | i :: is, d :: ds, en, st => (Out.of (slotD d) en st).bind fun d en st => if i < en.length then parS is ds (setS en i d) st else .bad
  | _, _, _, _ => .bad
def evalS (T0 : Tab) (F : Fn) (w : Nat) : S → Env → Store → Out Flow
  | .skip, en, st => .ok .nx en st
  | .no, en, st => .bad
  | .seq a b, en, st => (evalS T0 F w a en st).bind fun f en st => match f with
    | .nx => evalS T0 F w b en st
    | f => .ok f en st
  | .asg t e, en, st => (evalE T0 F e en st).bind fun d en st => (Out.of d.item en st).bind fun d en st => (assignT T0 F t d en st).bind fun _ en st => .ok .nx en st
  | .ex e, en, st => (evalE T0 F e en st).bind fun _ en st => .ok .nx en st
  | .ret e, en, st => (evalE T0 F e en st).bind fun d en st => (Out.of (retD d) en st).bind fun d en st => .ok (.rt d) en st
  | .ite c a b, en, st => ((evalE T0 F c en st).bind boolO).bind fun k en st => if k then evalS T0 F w a en st else evalS T0 F w b en st
  | .for t it b, en, st => ((evalE T0 F it en st).bind fun d en st => .of (iterD d) en st).bind fun ds en st =>
      forL (fun d en st => (assignT T0 F t d en st).bind fun _ en st => evalS T0 F w b en st) ds en st
  | .while c b, en, st => whileL (fun en st => (evalE T0 F c en st).bind boolO) (evalS T0 F w b) w en st
  | .brk, en, st => .ok .bk en st
  | .cont, en, st => .ok .ct en st
  | .par is a, en, st => (evalE T0 F a en st).bind fun r en st => parS is (listO r) en st
  | .raise c a, en, st => (evalE T0 F a en st).bind fun r en st => .exc c (listO r) en st
  | .mut m i a, en, st => if mutable i en st then (evalE T0 F a en st).bind fun r en st => mutS m i (listO r) en st else .bad

/-- a def: how many names, its body; year: makes instances of class c, a tuple and what f tells of it -/
structure Fd where
  names : Nat
  pars : Nat
  body : S
  year : Option (Nat × Nat) := none
  deriving Inhabited
def mkYear (F : Fn) (c f : Nat) (ds : List D) (st : Store) : OutF := match ds with
  | [d] => (match d.seq with
    | some xs => (match asInts xs with
      | some is => if is.all (fun i => decide (i ≠ 0)) then (match F f [.tup xs] st with
        | .ok r st' => (match dataD r with
          | some r => .ok (.ins c [.tup xs, r]) st'
          | none => .bad)
        | _ => .bad) else .bad
      | none => .bad)
    | none => .bad)
  | _ => .bad
/-- a call, at most k deep, every while at most w turns -/
def callF (T0 : Tab) (P : Nat → Option Fd) (w : Nat) : Nat → Fn
  | 0, _, _, _ => .bad
  | k + 1, f, ds, st => match P f with
    | none => .bad
    | some fd => match fd.year with
      | some (c, g) => mkYear (callF T0 P w k) c g ds st
      | none => if ds.length = fd.pars then
        (match evalS T0 (callF T0 P w k) w fd.body (ds.map some ++ List.replicate (fd.names - fd.pars) none) st with
        | .ok (.rt d) _ st' => (match retD d with
          | some d => .ok d (st'.take st.length)
          | none => .bad)
        | .ok .nx _ st' => .ok .non (st'.take st.length)
        | .exc c vs _ st' => .exc c vs (st'.take st.length)
        | _ => .bad)
      else .bad
end Ev

end
section
set_option linter.all false
set_option maxRecDepth 100000
/-! Snd1: what represents data in the abstract heap; states; how they go on. -/
namespace Ev
open PySem PySem.Spec PyProof.Rows L2

section
variable (K : PySem.W.Frag) (CA : Nat → Addr)
/-- a written tuple of the module -/
def KTup (a : Addr) (vs : List V) : Prop := ∃ (o : Obj) (its : Array Value) (n : Nat), K.lookup a = some o ∧ o.cls = .type "tuple" ∧ o.data = .seq its n ∧ its.size ≤ sizeLine ∧ Vals vs its.toList
def TupAt (Fb : Addr → Prop) (H : Hp) (a : Addr) (vs : List V) : Prop := (¬ Fb a ∧ H a = some (.tup vs)) ∨ KTup K a vs
theorem TupAt.sq {K : PySem.W.Frag} {Fb : Addr → Prop} {H : Hp} {a : Addr} {vs : List V} (h : TupAt K Fb H a vs) : SqT K H a vs := by
  rcases h with ⟨_, h⟩ | h
  · exact .inl (.inl h)
  · exact .inr h
/-- a written list of the module -/
def KLst (a : Addr) (vs : List V) : Prop := ∃ (o : Obj) (its : Array Value) (n : Nat), K.lookup a = some o ∧ o.cls = .type "list" ∧ o.dict = none ∧ o.data = .seq its n ∧ its.size ≤ sizeLine ∧ Vals vs its.toList
def FrzAt (Fb : Addr → Prop) (H : Hp) (a : Addr) (vs : List V) : Prop := (¬ Fb a ∧ ∃ o, H a = some (.frz o (.lst vs))) ∨ KLst K a vs
theorem FrzAt.sq {K : PySem.W.Frag} {Fb : Addr → Prop} {H : Hp} {a : Addr} {vs : List V} (h : FrzAt K Fb H a vs) : SqL K H a vs := by
  rcases h with ⟨_, o, h⟩ | h
  · exact .inl (.inr ⟨o, h⟩)
  · exact .inr h
theorem FrzAt.mono {K : PySem.W.Frag} {Fb Fb' : Addr → Prop} {H H' : Hp} {a : Addr} {vs : List V} (k : ∀ a u, H a = some u → ¬ Fb a → H' a = some u ∧ ¬ Fb' a) (h : FrzAt K Fb H a vs) : FrzAt K Fb' H' a vs := by
  rcases h with ⟨n, o, h⟩ | h
  · obtain ⟨h1, h2⟩ := k a _ h n
    exact .inl ⟨h2, o, h1⟩
  · exact .inr h
mutual
def Rep (Fb : Addr → Prop) (H : Hp) : D → V → Prop
  | .non, v => v = .non
  | .bl b, v => v = .bl b
  | .int i, v => v = .int i
  | .str x, v => v = .str x
  | .tup ds, v => ∃ a vs, v = .ref a ∧ TupAt K Fb H a vs ∧ Reps Fb H ds vs
  | .lst ds, v => ∃ a vs, v = .ref a ∧ ¬ Fb a ∧ H a = some (.lst vs) ∧ Reps Fb H ds vs
  | .frz ds, v => ∃ a vs, v = .ref a ∧ FrzAt K Fb H a vs ∧ Reps Fb H ds vs
  | .ins c ds, v => ∃ a dx vs, v = .ref a ∧ ¬ Fb a ∧ ¬ Fb dx ∧ H a = some (SlX.SlO a (CA c) dx (vs.map some)) ∧ H dx = some (.xd []) ∧ Reps Fb H ds vs
  | .own _, _ => False
  | .pk _, _ => False
  | .cell _, _ => False
def Reps (Fb : Addr → Prop) (H : Hp) : List D → List V → Prop
  | [], vs => vs = []
  | d :: ds, vs => ∃ v r, vs = v :: r ∧ Rep Fb H d v ∧ Reps Fb H ds r
end
end

/-- a state: where the store's lists stand, the names, the store, the heap -/
structure ST where
  m : List Addr
  en : Env
  st : Store
  H : Hp
def ownAt (en : Env) (σ : L2.St) (i : Nat) (a : Addr) : Prop := ∃ xs : List D, en[i]? = some (some (.own xs)) ∧ σ[i]? = some (some (.ref a))
/-- what may be written: the store's lists, the slots' own ones -/
def Wr (s : ST) (σ : L2.St) (a : Addr) : Prop := a ∈ s.m ∨ ∃ i, ownAt s.en σ i a
/-- what data keep away from: what may be written, what is the callers' -/
def Av (Fr : Addr → Prop) (s : ST) (σ : L2.St) (a : Addr) : Prop := Wr s σ a ∨ Fr a
def And1 (Fr : Addr → Prop) (x : Addr) (a : Addr) : Prop := Fr a ∨ a = x
/-- from one state to a later one -/
structure Ext (s s' : ST) (σ σ' : L2.St) : Prop where
  keep : ∀ a u, s.H a = some u → ¬ Wr s σ a → s'.H a = some u
  wr : ∀ a, Wr s' σ' a → Wr s σ a ∨ s.H a = none
  sm : ∀ a, s.H a ≠ none → s'.H a ≠ none
  pre : ∃ l, s'.m = s.m ++ l
theorem Ext.refl {s : ST} {σ : L2.St} : Ext s s σ σ := ⟨fun _ _ e _ => e, fun _ h => .inl h, fun _ h => h, [], by simp⟩
theorem Ext.none_of {s s' : ST} {σ σ' : L2.St} (x : Ext s s' σ σ') {a : Addr} (h : s'.H a = none) : s.H a = none := by
  by_cases z : s.H a = none
  · exact z
  · exact absurd h (x.sm a z)
theorem Ext.nwr {s s' : ST} {σ σ' : L2.St} (x : Ext s s' σ σ') {a : Addr} (h : s.H a ≠ none) (n : ¬ Wr s σ a) : ¬ Wr s' σ' a := fun z => by
  rcases x.wr a z with z | z
  · exact n z
  · exact h z
theorem Ext.trans {s s1 s2 : ST} {σ σ1 σ2 : L2.St} (a : Ext s s1 σ σ1) (b : Ext s1 s2 σ1 σ2) : Ext s s2 σ σ2 := by
  refine ⟨fun x u e n => ?_, fun x h => ?_, fun x h => b.sm x (a.sm x h), ?_⟩
  · exact b.keep x u (a.keep x u e n) (a.nwr (by rw [e]; simp) n)
  · rcases b.wr x h with h | h
    · exact a.wr x h
    · exact .inr (a.none_of h)
  · obtain ⟨l1, e1⟩ := a.pre
    obtain ⟨l2, e2⟩ := b.pre
    exact ⟨l1 ++ l2, by rw [e2, e1, List.append_assoc]⟩

section
variable {K : PySem.W.Frag} {CA : Nat → Addr}
mutual
theorem Rep.mono {Fb Fb' : Addr → Prop} {H H' : Hp} (k : ∀ a u, H a = some u → ¬ Fb a → H' a = some u ∧ ¬ Fb' a) : ∀ (d : D) (v : V), Rep K CA Fb H d v → Rep K CA Fb' H' d v
  | .non, _, h => h
  | .bl _, _, h => h
  | .int _, _, h => h
  | .str _, _, h => h
  | .tup ds, _, ⟨a, vs, e, t, r⟩ => by
    refine ⟨a, vs, e, ?_, Reps.mono k ds vs r⟩
    rcases t with ⟨n, t⟩ | t
    · obtain ⟨h1, h2⟩ := k a _ t n
      exact .inl ⟨h2, h1⟩
    · exact .inr t
  | .lst ds, _, ⟨a, vs, e, n, t, r⟩ => by
    obtain ⟨h1, h2⟩ := k a _ t n
    exact ⟨a, vs, e, h2, h1, Reps.mono k ds vs r⟩
  | .frz ds, _, ⟨a, vs, e, t, r⟩ => ⟨a, vs, e, t.mono k, Reps.mono k ds vs r⟩
  | .ins c ds, _, ⟨a, dx, vs, e, n, n2, t, t2, r⟩ => by
    obtain ⟨h1, h2⟩ := k a _ t n
    obtain ⟨h3, h4⟩ := k dx _ t2 n2
    exact ⟨a, dx, vs, e, h2, h4, h1, h3, Reps.mono k ds vs r⟩
theorem Reps.mono {Fb Fb' : Addr → Prop} {H H' : Hp} (k : ∀ a u, H a = some u → ¬ Fb a → H' a = some u ∧ ¬ Fb' a) : ∀ (ds : List D) (vs : List V), Reps K CA Fb H ds vs → Reps K CA Fb' H' ds vs
  | [], _, h => h
  | d :: ds, _, ⟨v, r, e, h, t⟩ => ⟨v, r, e, Rep.mono k d v h, Reps.mono k ds r t⟩
end

/-- a list of one's own, at a -/
def OwnL (K : PySem.W.Frag) (CA : Nat → Addr) (Z : Addr → Prop) (H : Hp) (xs : List D) (a : Addr) : Prop := ∃ vs, H a = some (.lst vs) ∧ Reps K CA Z H xs vs
/-- what stands in a slot -/
def SlotRep (K : PySem.W.Frag) (CA : Nat → Addr) (Z : Addr → Prop) (m : List Addr) (H : Hp) : D → V → Prop
  | .own xs, v => ∃ a, v = .ref a ∧ OwnL K CA Z H xs a
  | .cell n, v => ∃ a, v = .ref a ∧ m[n]? = some a
  | d, v => Rep K CA Z H d v
theorem OwnL.mono {Z Z' : Addr → Prop} {H H' : Hp} {xs : List D} {a : Addr} (k : ∀ a u, H a = some u → ¬ Z a → H' a = some u ∧ ¬ Z' a) (e : H' a = H a) (o : OwnL K CA Z H xs a) : OwnL K CA Z' H' xs a := by
  obtain ⟨vs, q, r⟩ := o
  exact ⟨vs, e.trans q, Reps.mono k xs vs r⟩
theorem SlotRep.mono {Z Z' : Addr → Prop} {m m' : List Addr} {H H' : Hp} {d : D} {v : V} (k : ∀ a u, H a = some u → ¬ Z a → H' a = some u ∧ ¬ Z' a) (e : ∀ xs a, d = .own xs → v = .ref a → H' a = H a) (p : ∃ l, m' = m ++ l)
    (o : SlotRep K CA Z m H d v) : SlotRep K CA Z' m' H' d v := by
  cases d with
  | own xs => obtain ⟨a, q, o⟩ := o; exact ⟨a, q, OwnL.mono k (e xs a rfl q) o⟩
  | cell n =>
    obtain ⟨a, q, o⟩ := o
    obtain ⟨l, rfl⟩ := p
    exact ⟨a, q, by rw [List.getElem?_append_left (List.getElem?_eq_some_iff.mp o).1]; exact o⟩
  | pk i => exact (show False from o).elim
  | non => exact Rep.mono k _ v o
  | bl _ => exact Rep.mono k _ v o
  | int _ => exact Rep.mono k _ v o
  | str _ => exact Rep.mono k _ v o
  | tup _ => exact Rep.mono k _ v o
  | lst _ => exact Rep.mono k _ v o
  | frz _ => exact Rep.mono k _ v o
  | ins _ _ => exact Rep.mono k _ v o
structure SR (K : PySem.W.Frag) (CA : Nat → Addr) (Fr : Addr → Prop) (s : ST) (σ : L2.St) : Prop where
  trk : ∀ a, Fr a → s.H a ≠ none
  ml : s.m.length = s.st.length
  cells : ∀ (n : Nat) (xs : List D), s.st[n]? = some xs → ∃ a, s.m[n]? = some a ∧ OwnL K CA (Av Fr s σ) s.H xs a
  nd : s.m.Nodup
  slots : ∀ (i : Nat) (d : D), s.en[i]? = some (some d) → ∃ v, σ[i]? = some (some v) ∧ SlotRep K CA (Av Fr s σ) s.m s.H d v
  inj : ∀ i j a, ownAt s.en σ i a → ownAt s.en σ j a → i = j
  noc : ∀ i a, ownAt s.en σ i a → a ∉ s.m
  nfr : ∀ i a, ownAt s.en σ i a → ¬ Fr a
  len : s.en.length = σ.length
theorem SR.wrTrk {Fr : Addr → Prop} {s : ST} {σ : L2.St} (h : SR K CA Fr s σ) {a : Addr} (z : Wr s σ a) : s.H a ≠ none := by
  rcases z with z | ⟨i, xs, e1, e2⟩
  · obtain ⟨n, hn, e⟩ := List.getElem_of_mem z
    have hn2 : n < s.st.length := by rw [← h.ml]; exact hn
    obtain ⟨b, e3, vs, q, _⟩ := h.cells n s.st[n] (by simp [hn2])
    have : b = a := by
      rw [List.getElem?_eq_getElem hn] at e3
      rw [← e]; exact (Option.some.inj e3).symm
    rw [← this, q]; simp
  · obtain ⟨v, e3, r⟩ := h.slots i _ e1
    rw [e2] at e3
    have e4 : (.ref a : V) = v := Option.some.inj (Option.some.inj e3)
    obtain ⟨b, e5, vs, q, _⟩ := r
    rw [← e4] at e5
    have e6 : a = b := V.ref.inj e5
    rw [e6, q]; simp
theorem SR.avTrk {Fr : Addr → Prop} {s : ST} {σ : L2.St} (h : SR K CA Fr s σ) {a : Addr} (z : Av Fr s σ a) : s.H a ≠ none := z.elim h.wrTrk (h.trk a)
/-- less is kept away from -/
theorem SR.less {Fr Fr' : Addr → Prop} {s : ST} {σ : L2.St} (h : SR K CA Fr s σ) (k : ∀ a, Fr' a → Fr a) : SR K CA Fr' s σ := by
  have kd : ∀ a u, s.H a = some u → ¬ Av Fr s σ a → s.H a = some u ∧ ¬ Av Fr' s σ a := fun a u e n => ⟨e, fun z => n (z.imp id (k a))⟩
  refine ⟨fun a z => h.trk a (k a z), h.ml, fun n xs e => ?_, h.nd, fun i d e => ?_, h.inj, h.noc, fun i a z y => h.nfr i a z (k a y), h.len⟩
  · obtain ⟨a, q, o⟩ := h.cells n xs e
    exact ⟨a, q, o.mono kd rfl⟩
  · obtain ⟨v, q, o⟩ := h.slots i d e
    exact ⟨v, q, o.mono kd (fun _ _ _ _ => rfl) ⟨[], by simp⟩⟩
/-- what an expression hands on; base: the state ahead -/
def RepV (K : PySem.W.Frag) (CA : Nat → Addr) (Fr : Addr → Prop) (base s : ST) (σ : L2.St) : D → V → Prop
  | .own xs, v => ∃ a vs, v = .ref a ∧ base.H a = none ∧ s.H a = some (.lst vs) ∧ ¬ Av Fr s σ a ∧ Reps K CA (Av (And1 Fr a) s σ) s.H xs vs ∧ SR K CA (And1 Fr a) s σ
  | .cell n, v => ∃ a, v = .ref a ∧ s.m[n]? = some a
  | .pk i, v => σ[i]? = some (some v)
  | d, v => Rep K CA (Av Fr s σ) s.H d v
/-- what it is, looked at now -/
def RepW (K : PySem.W.Frag) (CA : Nat → Addr) (Z : Addr → Prop) (H : Hp) : D → V → Prop
  | .own xs, v => ∃ a vs, v = .ref a ∧ H a = some (.lst vs) ∧ Reps K CA Z H xs vs
  | .lst xs, v => ∃ a vs, v = .ref a ∧ H a = some (.lst vs) ∧ Reps K CA Z H xs vs
  | .pk _, _ => True
  | .cell _, _ => True
  | d, v => Rep K CA Z H d v
/-- data go on -/
theorem Ext.data {Fr : Addr → Prop} {s s' : ST} {σ σ' : L2.St} (x : Ext s s' σ σ') : ∀ a u, s.H a = some u → ¬ Av Fr s σ a → s'.H a = some u ∧ ¬ Av Fr s' σ' a := fun a u e n =>
  ⟨x.keep a u e fun z => n (.inl z), fun z => z.elim (fun z => x.nwr (by rw [e]; simp) (fun q => n (.inl q)) z) fun z => n (.inr z)⟩
theorem Ext.rep {Fr : Addr → Prop} {s s' : ST} {σ σ' : L2.St} (x : Ext s s' σ σ') {d : D} {v : V} (r : Rep K CA (Av Fr s σ) s.H d v) : Rep K CA (Av Fr s' σ') s'.H d v := Rep.mono x.data d v r
theorem Ext.reps {Fr : Addr → Prop} {s s' : ST} {σ σ' : L2.St} (x : Ext s s' σ σ') {d : List D} {v : List V} (r : Reps K CA (Av Fr s σ) s.H d v) : Reps K CA (Av Fr s' σ') s'.H d v := Reps.mono x.data d v r
end
end Ev

end
section
set_option linter.all false
set_option maxRecDepth 100000
/-! Snd2: readings made of the evaluator; changes of the state. -/
namespace Ev
open PySem PySem.Spec PyProof.Rows L2

/-- what is fixed: the written part, the classes, the exceptions' fields -/
structure Gm where
  K : PySem.W.Frag
  CA : Nat → Addr
  FN : Nat → List Str
abbrev RepT (α β : Type) := (Addr → Prop) → ST → ST → L2.St → α → β → Prop
/-- what is handed on bears an elder base, fewer to keep away from -/
class RMon {α β : Type} (rep : RepT α β) : Prop where
  mon : ∀ {Fr Fr' : Addr → Prop} {s s1 s' : ST} {σ : L2.St} {a : α} {b : β}, (∀ a, Fr a → Fr' a) → Ext s s1 σ σ → rep Fr' s1 s' σ a b → rep Fr s s' σ a b
section
variable (G : Gm)
def XdR (Fr : Addr → Prop) (s : ST) (σ : L2.St) (d : Addr) (c : Nat) (vs : List D) : Prop :=
  ∃ ws, s.H d = some (.xd ((G.FN c).zip ws)) ∧ ¬ Av Fr s σ d ∧ Reps G.K G.CA (Av Fr s σ) s.H vs ws ∧ (G.FN c).length = vs.length
def Post {α β : Type} (W : WX) (rep : RepT α β) (Fr : Addr → Prop) (s : ST) (σ : L2.St) (Q : β → Hp → Prop) : Out α → Prop
  | .ok a en st => ∀ b s', s'.en = en → s'.st = st → SR G.K G.CA Fr s' σ → Ext s s' σ σ → rep Fr s s' σ a b → Q b s'.H
  | .exc c vs en st => ∀ d s', s'.en = en → s'.st = st → SR G.K G.CA Fr s' σ → Ext s s' σ σ → XdR G Fr s' σ d c vs → W (.ref (G.CA c)) (some d) σ s'.H
  | .bad => False
def R {α β : Type} (W : WX) (rep : RepT α β) (f : Env → Store → Out α) : L2.St → Hp → (β → Hp → Prop) → Prop :=
  fun σ H Q => ∃ Fr s, s.H = H ∧ SR G.K G.CA Fr s σ ∧ Post G W rep Fr s σ Q (f s.en s.st)
def rV : RepT D V := fun Fr s s' σ d v => RepV G.K G.CA Fr s s' σ d v
/-- the address of a fresh list -/
def frOf (Fr : Addr → Prop) (d : D) (v : V) : Addr → Prop := match d, v with
  | .own _, .ref a => And1 Fr a
  | _, _ => Fr
/-- the fresh lists' addresses -/
def Owns : List D → List V → Addr → Prop
  | .own _ :: ds, .ref a :: vs, b => b = a ∨ Owns ds vs b
  | _ :: ds, _ :: vs, b => Owns ds vs b
  | _, _, _ => False
def FrO (Fr : Addr → Prop) (ds : List D) (vs : List V) : Addr → Prop := fun b => Fr b ∨ Owns ds vs b
/-- a list of values: each fresh list is apart from all the others -/
def RepVs (Fr : Addr → Prop) (s s' : ST) (σ : L2.St) : List D → List V → Prop
  | [], vs => vs = [] ∧ SR G.K G.CA Fr s' σ
  | d :: ds, vs => ∃ v r, vs = v :: r ∧ RepV G.K G.CA (FrO Fr ds r) s s' σ d v ∧ RepVs (frOf Fr d v) s s' σ ds r
/-- an argument list: a tuple that is none -/
def rA : RepT D (List V) := fun Fr s s' σ d vs => ∃ ds, d = .tup ds ∧ RepVs G Fr s s' σ ds vs
def rB : RepT Bool Bool := fun _ _ _ _ d b => d = b
/-- an expression's, a test's, an argument list's reading by the evaluator -/
abbrev RE (W : WX) (f : Env → Store → Out D) : TE := R G W (rV G) f
abbrev RT (W : WX) (f : Env → Store → Out Bool) : TT := R G W rB f
abbrev RA (W : WX) (f : Env → Store → Out D) : TA := R G W (rA G) f
end
section
variable {G : Gm}
theorem Av.less {Fr Fr' : Addr → Prop} {s : ST} {σ : L2.St} (k : ∀ a, Fr a → Fr' a) : ∀ a u, s.H a = some u → ¬ Av Fr' s σ a → s.H a = some u ∧ ¬ Av Fr s σ a := fun a u e n => ⟨e, fun z => n (z.imp id (k a))⟩
theorem RepV.mon {Fr Fr' : Addr → Prop} {s s1 s' : ST} {σ : L2.St} {d : D} {v : V} (k : ∀ a, Fr a → Fr' a) (x : Ext s s1 σ σ) (r : RepV G.K G.CA Fr' s1 s' σ d v) : RepV G.K G.CA Fr s s' σ d v := by
  cases d with
  | own xs =>
    obtain ⟨a, vs, e, h0, h1, n, r, z⟩ := r
    have k2 : ∀ b, And1 Fr a b → And1 Fr' a b := fun b q => q.imp (k b) id
    exact ⟨a, vs, e, x.none_of h0, h1, fun q => n (q.imp id (k a)), Reps.mono (Av.less k2) _ _ r, z.less k2⟩
  | cell n => exact r
  | pk i => exact r
  | non => exact Rep.mono (Av.less k) _ v r
  | bl _ => exact Rep.mono (Av.less k) _ v r
  | int _ => exact Rep.mono (Av.less k) _ v r
  | str _ => exact Rep.mono (Av.less k) _ v r
  | tup _ => exact Rep.mono (Av.less k) _ v r
  | lst _ => exact Rep.mono (Av.less k) _ v r
  | frz _ => exact Rep.mono (Av.less k) _ v r
  | ins _ _ => exact Rep.mono (Av.less k) _ v r
theorem frOf.less {Fr Fr' : Addr → Prop} (k : ∀ a, Fr a → Fr' a) (d : D) (v : V) : ∀ a, frOf Fr d v a → frOf Fr' d v a := fun a h => by
  unfold frOf at h ⊢
  split at h
  · exact h.imp (k a) id
  · exact k a h
theorem frOf.more {Fr : Addr → Prop} (d : D) (v : V) : ∀ a, Fr a → frOf Fr d v a := fun a h => by
  unfold frOf
  split
  · exact .inl h
  · exact h
theorem FrO.less {Fr Fr' : Addr → Prop} (k : ∀ a, Fr a → Fr' a) (ds : List D) (vs : List V) : ∀ a, FrO Fr ds vs a → FrO Fr' ds vs a := fun a h => h.imp (k a) id
theorem RepVs.mon {s s1 s' : ST} {σ : L2.St} (x : Ext s s1 σ σ) : ∀ {ds : List D} {vs : List V} {Fr Fr' : Addr → Prop}, (∀ a, Fr a → Fr' a) → RepVs G Fr' s1 s' σ ds vs → RepVs G Fr s s' σ ds vs
  | [], _, _, _, k, ⟨e, z⟩ => ⟨e, z.less k⟩
  | d :: ds, _, _, _, k, ⟨v, r, e, h, t⟩ => ⟨v, r, e, h.mon (FrO.less k ds r) x, RepVs.mon x (frOf.less k d v) t⟩
instance : RMon (rV G) := ⟨fun k x r => RepV.mon k x r⟩
instance : RMon (rA G) := ⟨fun k x ⟨ds, e, r⟩ => ⟨ds, e, RepVs.mon x k r⟩⟩
instance : RMon rB := ⟨fun _ _ r => r⟩
end
section
variable {G : Gm} {W : WX} {α β γ δ : Type} {rep : RepT α β} {rep2 : RepT γ δ} {Fr Fr' : Addr → Prop} {s s1 : ST} {σ : L2.St}
theorem Post.imp {Q Q' : β → Hp → Prop} {o : Out α} (h : Post G W rep Fr s σ Q o) (k : ∀ b H, Q b H → Q' b H) : Post G W rep Fr s σ Q' o := by
  cases o with
  | ok a en st => exact fun b s' e1 e2 r x q => k _ _ (h b s' e1 e2 r x q)
  | exc c vs en st => exact h
  | bad => exact h
theorem XdR.less {c : Nat} {vs : List D} {d : Addr} (k : ∀ a, Fr a → Fr' a) (h : XdR G Fr' s σ d c vs) : XdR G Fr s σ d c vs := by
  obtain ⟨ws, e, n, r, l⟩ := h
  exact ⟨ws, e, fun z => n (z.imp id (k d)), Reps.mono (Av.less k) _ _ r, l⟩
/-- from a later state, more to keep away from -/
theorem Post.later [RMon rep] {Q : β → Hp → Prop} {o : Out α} (h : Post G W rep Fr s σ Q o) (x : Ext s s1 σ σ) (k : ∀ a, Fr a → Fr' a) : Post G W rep Fr' s1 σ Q o := by
  cases o with
  | ok a en st => exact fun b s' e1 e2 r y q => h b s' e1 e2 (r.less k) (x.trans y) (RMon.mon k x q)
  | exc c vs en st => exact fun d s' e1 e2 r y q => h d s' e1 e2 (r.less k) (x.trans y) (q.less k)
  | bad => exact h
/-- one thing after another -/
theorem Post.bind [RMon rep2] {Q : δ → Hp → Prop} {o : Out α} {g : α → Env → Store → Out γ} (h : Post G W rep2 Fr s σ Q (o.bind g)) :
    Post G W rep Fr s σ (fun b H1 => ∃ s1 a, s1.H = H1 ∧ SR G.K G.CA Fr s1 σ ∧ Ext s s1 σ σ ∧ rep Fr s s1 σ a b ∧ Post G W rep2 Fr s1 σ Q (g a s1.en s1.st) ∧ Post G W rep2 Fr s σ Q (g a s1.en s1.st) ∧ o = .ok a s1.en s1.st) o := by
  cases o with
  | ok a en st =>
    intro b s' e1 e2 r x q
    subst e1 e2
    exact ⟨s', a, rfl, r, x, q, Post.later h x fun _ z => z, h, rfl⟩
  | exc c vs en st => exact h
  | bad => exact h
/-- a value at once -/
theorem Post.of {Q : β → Hp → Prop} {o : Option α} {en : Env} {st : Store} (h : Post G W rep Fr s σ Q (Out.of o en st)) : ∃ a, o = some a ∧ Post G W rep Fr s σ Q (.ok a en st) := by
  cases o with
  | none => exact h.elim
  | some a => exact ⟨a, rfl, h⟩
/-- .. in between -/
theorem Post.ofB {Q : β → Hp → Prop} {o : Option γ} {en : Env} {st : Store} {g : γ → Env → Store → Out α} (h : Post G W rep Fr s σ Q ((Out.of o en st).bind g)) : ∃ a, o = some a ∧ Post G W rep Fr s σ Q (g a en st) := by
  cases o with
  | none => exact h.elim
  | some a => exact ⟨a, rfl, h⟩
/-- the state as it is -/
theorem Post.here {Q : β → Hp → Prop} {a : α} {b : β} (h : Post G W rep Fr s σ Q (.ok a s.en s.st)) (r : SR G.K G.CA Fr s σ) (q : rep Fr s s σ a b) : Q b s.H := h b s rfl rfl r Ext.refl q
end

/-! ### the state changes -/
section
variable {K : PySem.W.Frag} {CA : Nat → Addr} {Fr : Addr → Prop} {s : ST} {σ : L2.St} {p : Addr} {o : HO}
/-- something new is laid -/
def ST.laid (s : ST) (p : Addr) (o : HO) : ST := { s with H := upd s.H p o }
theorem Ext.laid (hp : s.H p = none) : Ext s (s.laid p o) σ σ := by
  refine ⟨fun a u e n => ?_, fun a z => .inl z, fun a z => ?_, [], by simp [ST.laid]⟩
  · show upd s.H p o a = some u
    rw [upd_ne (ne_of_none e hp)]; exact e
  · show upd s.H p o a ≠ none
    by_cases q : a = p
    · subst q; rw [upd_same]; simp
    · rw [upd_ne q]; exact z
/-- the heap grows: the state stands -/
theorem SR.grow {s' : ST} (h : SR K CA Fr s σ) (kH : ∀ a u, s.H a = some u → s'.H a = some u) (em : s'.m = s.m) (ee : s'.en = s.en) (es : s'.st = s.st) : SR K CA Fr s' σ := by
  have wr : ∀ a, Wr s' σ a ↔ Wr s σ a := fun a => by unfold Wr; rw [em, ee]
  have kd : ∀ a u, s.H a = some u → ¬ Av Fr s σ a → s'.H a = some u ∧ ¬ Av Fr s' σ a := fun a u e n => ⟨kH a u e, fun z => n (z.imp (wr a).mp id)⟩
  refine ⟨fun a z => ?_, by rw [em, es]; exact h.ml, fun n xs e => ?_, by rw [em]; exact h.nd, fun i d e => ?_, fun i j a => ?_, fun i a => ?_, fun i a => ?_, by rw [ee]; exact h.len⟩
  · cases q : s.H a with
    | none => exact absurd q (h.trk a z)
    | some u => rw [kH a u q]; simp
  · rw [es] at e
    obtain ⟨a, e1, o⟩ := h.cells n xs e
    refine ⟨a, by rw [em]; exact e1, ?_⟩
    obtain ⟨vs, q, r⟩ := o
    exact ⟨vs, kH a _ q, Reps.mono kd _ _ r⟩
  · rw [ee] at e
    obtain ⟨v, e1, r⟩ := h.slots i d e
    refine ⟨v, e1, ?_⟩
    cases d with
    | own xs => obtain ⟨a, q, vs, q2, r⟩ := r; exact ⟨a, q, vs, kH a _ q2, Reps.mono kd _ _ r⟩
    | cell n => obtain ⟨a, q, o⟩ := r; exact ⟨a, q, by rw [em]; exact o⟩
    | pk i => exact (show False from r).elim
    | non => exact Rep.mono kd _ v r
    | bl _ => exact Rep.mono kd _ v r
    | int _ => exact Rep.mono kd _ v r
    | str _ => exact Rep.mono kd _ v r
    | tup _ => exact Rep.mono kd _ v r
    | lst _ => exact Rep.mono kd _ v r
    | frz _ => exact Rep.mono kd _ v r
    | ins _ _ => exact Rep.mono kd _ v r
  · unfold ownAt; rw [ee]; exact h.inj i j a
  · unfold ownAt; rw [ee, em]; exact h.noc i a
  · unfold ownAt; rw [ee]; exact h.nfr i a
theorem SR.laid (h : SR K CA Fr s σ) (hp : s.H p = none) : SR K CA Fr (s.laid p o) σ :=
  h.grow (fun a u e => by show upd s.H p o a = some u; rw [upd_ne (ne_of_none e hp)]; exact e) rfl rfl rfl
/-- what is new is kept away from by all that stands -/
theorem SR.more (h : SR K CA Fr s σ) (hp : s.H p = none) : SR K CA (And1 Fr p) (s.laid p o) σ := by
  have h' := h.laid (o := o) hp
  have kd : ∀ a u, s.H a = some u → ¬ Av Fr s σ a → (s.laid p o).H a = some u ∧ ¬ Av (And1 Fr p) (s.laid p o) σ a := fun a u e n => by
    refine ⟨by show upd s.H p o a = some u; rw [upd_ne (ne_of_none e hp)]; exact e, fun z => ?_⟩
    rcases z with z | z | z
    · exact n (.inl z)
    · exact n (.inr z)
    · exact ne_of_none e hp z
  have kH : ∀ a u, s.H a = some u → (s.laid p o).H a = some u := fun a u e => by show upd s.H p o a = some u; rw [upd_ne (ne_of_none e hp)]; exact e
  refine ⟨fun a z => ?_, h.ml, fun n xs e => ?_, h.nd, fun i d e => ?_, h.inj, h.noc, fun i a z y => y.elim (h.nfr i a z) (fun y => h.wrTrk (.inr ⟨i, z⟩) (y ▸ hp)), h.len⟩
  · rcases z with z | z
    · exact h'.trk a z
    · subst z
      show upd s.H a o a ≠ none
      rw [upd_same]; simp
  · obtain ⟨a, q, vs, q2, r⟩ := h.cells n xs e
    exact ⟨a, q, vs, kH a _ q2, Reps.mono kd _ _ r⟩
  · obtain ⟨v, q, r⟩ := h.slots i d e
    refine ⟨v, q, r.mono kd (fun xs a e1 e2 => ?_) ⟨[], by simp [ST.laid]⟩⟩
    subst e1 e2
    obtain ⟨b, e3, vs, q2, _⟩ := r
    cases e3
    rw [kH a _ q2, q2]
/-- a new list as a fresh one -/
theorem RepV.fresh {base : ST} {xs : List D} {vs : List V} (h : SR K CA Fr s σ) (x : Ext base s σ σ) (hp : s.H p = none) (r : Reps K CA (Av Fr s σ) s.H xs vs) :
    RepV K CA Fr base (s.laid p (.lst vs)) σ (.own xs) (.ref p) := by
  refine ⟨p, vs, rfl, x.none_of hp, upd_same, fun z => ?_, ?_, h.more hp⟩
  · rcases z with z | z
    · exact h.wrTrk z hp
    · exact h.trk p z hp
  · refine Reps.mono (fun a u e n => ⟨by show upd s.H p _ a = some u; rw [upd_ne (ne_of_none e hp)]; exact e, fun z => ?_⟩) _ _ r
    rcases z with z | z | z
    · exact n (.inl z)
    · exact n (.inr z)
    · exact ne_of_none e hp z
theorem Rep.newTup {xs : List D} {vs : List V} (h : SR K CA Fr s σ) (hp : s.H p = none) (r : Reps K CA (Av Fr s σ) s.H xs vs) : Rep K CA (Av Fr (s.laid p (.tup vs)) σ) (s.laid p (.tup vs)).H (.tup xs) (.ref p) := by
  refine ⟨p, vs, rfl, .inl ⟨fun z => ?_, upd_same⟩, (Ext.laid (σ := σ) hp).reps r⟩
  rcases z with z | z
  · exact h.wrTrk z hp
  · exact h.trk p z hp
/-- a fresh list as an item -/
theorem RepV.item {base : ST} {d x : D} {v : V} (r : RepV K CA Fr base s σ d v) (e : d.item = some x) : Rep K CA (Av Fr s σ) s.H x v := by
  cases d with
  | own xs =>
    cases e
    obtain ⟨a, vs, e, _, h1, n, r, _⟩ := r
    exact ⟨a, vs, e, n, h1, Reps.mono (Av.less fun b z => .inl z) _ _ r⟩
  | cell n => cases e
  | pk i => cases e
  | frz _ => cases e
  | non => cases e; exact r
  | bl _ => cases e; exact r
  | int _ => cases e; exact r
  | str _ => cases e; exact r
  | tup _ => cases e; exact r
  | lst _ => cases e; exact r
  | ins _ _ => cases e; exact r
theorem RepVs.items {G : Gm} {base : ST} : ∀ {ds xs : List D} {vs : List V} {Fr : Addr → Prop}, RepVs G Fr base s σ ds vs → items ds = some xs → Reps G.K G.CA (Av Fr s σ) s.H xs vs
  | [], xs, vs, Fr, ⟨e, _⟩, h => by cases h; exact e
  | d :: ds, xs, vs, Fr, ⟨v, r, e, h1, t⟩, h => by
    unfold Ev.items at h
    cases e1 : d.item with
    | none => rw [e1] at h; cases h
    | some x =>
      cases e2 : Ev.items ds with
      | none => rw [e1, e2] at h; cases h
      | some ys =>
        rw [e1, e2] at h
        cases h
        exact ⟨v, r, e, Rep.mono (Av.less fun _ z => .inl z) _ _ (h1.item e1), Reps.mono (Av.less (frOf.more d v)) _ _ (RepVs.items t e2)⟩
theorem RepVs.sr {G : Gm} {base : ST} : ∀ {ds : List D} {vs : List V} {Fr : Addr → Prop}, RepVs G Fr base s σ ds vs → SR G.K G.CA Fr s σ
  | [], _, _, ⟨_, z⟩ => z
  | d :: ds, _, _, ⟨v, r, _, _, t⟩ => (RepVs.sr t).less (frOf.more d v)
theorem frOf_iff {Fr : Addr → Prop} {d : D} {v : V} {b : Addr} : frOf Fr d v b ↔ Fr b ∨ Owns [d] [v] b := by
  cases d with
  | own xs =>
    cases v with
    | ref a => exact ⟨fun z => z.imp id fun z => .inl z, fun z => z.imp id fun z => z.elim id fun z => z.elim⟩
    | _ => exact ⟨.inl, fun z => z.elim id fun z => z.elim⟩
  | _ => exact ⟨.inl, fun z => z.elim id fun z => z.elim⟩
theorem Owns_cons {d : D} {v : V} {ds : List D} {vs : List V} {b : Addr} : Owns (d :: ds) (v :: vs) b ↔ Owns [d] [v] b ∨ Owns ds vs b := by
  cases d with
  | own xs =>
    cases v with
    | ref a => exact ⟨fun z => z.imp .inl id, fun z => z.elim (fun z => z.elim .inl fun z => z.elim) .inr⟩
    | _ => exact ⟨.inr, fun z => z.elim (fun z => z.elim) id⟩
  | _ => exact ⟨.inr, fun z => z.elim (fun z => z.elim) id⟩
theorem RepVs.srAll {G : Gm} {base : ST} : ∀ {ds : List D} {vs : List V} {Fr : Addr → Prop}, RepVs G Fr base s σ ds vs → SR G.K G.CA (FrO Fr ds vs) s σ
  | [], _, _, ⟨e, z⟩ => z.less fun a y => y.elim id fun y => by subst e; exact y.elim
  | d :: ds, _, _, ⟨v, r, e, h, t⟩ => by
    subst e
    refine (RepVs.srAll t).less fun b z => ?_
    rcases z with z | z
    · exact .inl (frOf.more d v b z)
    · rcases Owns_cons.mp z with z | z
      · exact .inl (frOf_iff.mpr (.inr z))
      · exact .inr z
theorem RepV.owns {K : PySem.W.Frag} {CA : Nat → Addr} {base : ST} {d : D} {v : V} (h : RepV K CA Fr base s σ d v) {b : Addr} (o : Owns [d] [v] b) : base.H b = none := by
  cases d with
  | own xs =>
    obtain ⟨a, vs, rfl, h0, _⟩ := h
    rcases o with o | o
    · subst o; exact h0
    · exact o.elim
  | _ => exact o.elim
theorem RepVs.owns {G : Gm} {base : ST} : ∀ {ds : List D} {vs : List V} {Fr : Addr → Prop}, RepVs G Fr base s σ ds vs → ∀ b, Owns ds vs b → base.H b = none
  | [], _, _, _, b, o => o.elim
  | d :: ds, _, _, ⟨v, r, e, h, t⟩, b, o => by
    subst e
    rcases Owns_cons.mp o with o | o
    · exact h.owns o
    · exact RepVs.owns t b o
end
end Ev

end
section
set_option linter.all false
set_option maxRecDepth 100000
/-! Snd3: operators. -/
namespace Ev
open PySem PySem.Spec PyProof.Rows L2

theorem lim_eq : sizeLine = lim := by rw [sizeLine_eq]; rfl
section
variable {K : PySem.W.Frag} {CA : Nat → Addr} {Fr : Addr → Prop} {s : ST} {σ : L2.St} {H : Hp}
theorem Reps.length {Z : Addr → Prop} : ∀ {ds : List D} {vs : List V}, Reps K CA Z H ds vs → vs.length = ds.length
  | [], _, h => by rw [show _ = [] from h] <;> rfl
  | d :: ds, _, ⟨v, r, e, _, t⟩ => by rw [e, List.length_cons, List.length_cons, Reps.length t]
theorem Reps.append {Z : Addr → Prop} : ∀ {ds es : List D} {vs ws : List V}, Reps K CA Z H ds vs → Reps K CA Z H es ws → Reps K CA Z H (ds ++ es) (vs ++ ws)
  | [], _, vs, _, h, t => by rw [show vs = [] from h]; exact t
  | d :: ds, _, _, ws, ⟨v, r, e, h, t⟩, t' => ⟨v, r ++ ws, by rw [e]; rfl, h, Reps.append t t'⟩
theorem Reps.get {Z : Addr → Prop} : ∀ {ds : List D} {vs : List V} {i : Nat} {d : D}, Reps K CA Z H ds vs → ds[i]? = some d → ∃ v, vs[i]? = some v ∧ Rep K CA Z H d v
  | [], _, _, _, _, e => by simp at e
  | d :: ds, _, 0, _, ⟨v, r, e, h, t⟩, e2 => by
    subst e
    simp at e2
    subst e2
    exact ⟨v, rfl, h⟩
  | d :: ds, _, i + 1, _, ⟨v, r, e, h, t⟩, e2 => by
    subst e
    obtain ⟨w, q, rr⟩ := Reps.get (i := i) t (by simpa using e2)
    exact ⟨w, by simpa using q, rr⟩
theorem Reps.drop {Z : Addr → Prop} : ∀ {ds : List D} {vs : List V} (n : Nat), Reps K CA Z H ds vs → Reps K CA Z H (ds.drop n) (vs.drop n)
  | _, _, 0, h => by simpa using h
  | [], vs, n + 1, h => by rw [show vs = [] from h]; exact rfl
  | d :: ds, _, n + 1, ⟨v, r, e, h, t⟩ => by
    subst e
    exact Reps.drop n t
theorem Reps.take {Z : Addr → Prop} : ∀ {ds : List D} {vs : List V} (n : Nat), Reps K CA Z H ds vs → Reps K CA Z H (ds.take n) (vs.take n)
  | _, _, 0, h => by simp [Reps]
  | [], vs, n + 1, h => by rw [show vs = [] from h]; exact rfl
  | d :: ds, _, n + 1, ⟨v, r, e, h, t⟩ => by
    subst e
    exact ⟨v, r.take n, rfl, h, Reps.take n t⟩
theorem Reps.reverse {Z : Addr → Prop} : ∀ {ds : List D} {vs : List V}, Reps K CA Z H ds vs → Reps K CA Z H ds.reverse vs.reverse
  | [], vs, h => by rw [show vs = [] from h]; exact rfl
  | d :: ds, _, ⟨v, r, e, h, t⟩ => by
    subst e
    rw [List.reverse_cons, List.reverse_cons]
    exact (Reps.reverse t).append ⟨v, [], rfl, h, rfl⟩
theorem Reps.rep {Z : Addr → Prop} {ds : List D} {vs : List V} (h : Reps K CA Z H ds vs) : ∀ k : Nat, Reps K CA Z H (List.replicate k ds).flatten (List.replicate k vs).flatten
  | 0 => by simp [Reps]
  | k + 1 => by
    simp only [List.replicate_succ, List.flatten_cons]
    exact h.append (Reps.rep h k)
theorem Reps.ints {Z : Addr → Prop} : ∀ {ds : List D} {is : List Int} {vs : List V}, Reps K CA Z H ds vs → asInts ds = some is → vs = is.map V.int
  | [], is, vs, h, e => by cases e; exact h
  | .int i :: r, is, vs, ⟨v, rr, e1, h, t⟩, e => by
    unfold asInts at e
    obtain ⟨js, e2, rfl⟩ := Option.map_eq_some_iff.mp e
    rw [e1, show v = V.int i from h, Reps.ints t e2]
    rfl
  | .non :: _, _, _, _, e => by cases e
  | .bl _ :: _, _, _, _, e => by cases e
  | .str _ :: _, _, _, _, e => by cases e
  | .tup _ :: _, _, _, _, e => by cases e
  | .lst _ :: _, _, _, _, e => by cases e
  | .own _ :: _, _, _, _, e => by cases e
  | .pk _ :: _, _, _, _, e => by cases e
  | .frz _ :: _, _, _, _, e => by cases e
  | .cell _ :: _, _, _, _, e => by cases e
  | .ins _ _ :: _, _, _, _, e => by cases e
theorem Reps.bools {Z : Addr → Prop} : ∀ {ds : List D} {is : List Bool} {vs : List V}, Reps K CA Z H ds vs → asBools ds = some is → vs = is.map V.bl
  | [], is, vs, h, e => by cases e; exact h
  | .bl i :: r, is, vs, ⟨v, rr, e1, h, t⟩, e => by
    unfold asBools at e
    obtain ⟨js, e2, rfl⟩ := Option.map_eq_some_iff.mp e
    rw [e1, show v = V.bl i from h, Reps.bools t e2]
    rfl
  | .non :: _, _, _, _, e => by cases e
  | .int _ :: _, _, _, _, e => by cases e
  | .str _ :: _, _, _, _, e => by cases e
  | .tup _ :: _, _, _, _, e => by cases e
  | .lst _ :: _, _, _, _, e => by cases e
  | .own _ :: _, _, _, _, e => by cases e
  | .pk _ :: _, _, _, _, e => by cases e
  | .frz _ :: _, _, _, _, e => by cases e
  | .cell _ :: _, _, _, _, e => by cases e
  | .ins _ _ :: _, _, _, _, e => by cases e
theorem Reps.ofInts {Z : Addr → Prop} : ∀ is : List Int, Reps K CA Z H (is.map D.int) (is.map V.int)
  | [] => rfl
  | i :: r => ⟨.int i, r.map V.int, rfl, rfl, Reps.ofInts r⟩

theorem RepW.ofRep {Z : Addr → Prop} {d : D} {v : V} (h : Rep K CA Z H d v) : RepW K CA Z H d v := by
  cases d with
  | lst xs => obtain ⟨a, vs, e, _, e2, r⟩ := h; exact ⟨a, vs, e, e2, r⟩
  | own xs => exact (show False from h).elim
  | non => exact h
  | bl _ => exact h
  | int _ => exact h
  | str _ => exact h
  | tup _ => exact h
  | frz _ => exact h
  | ins _ _ => exact h
  | pk _ => trivial
  | cell _ => trivial
/-- looked at later -/
theorem RepV.res {base s1 : ST} {d : D} {v : V} (h : SR K CA Fr s σ) (r : RepV K CA Fr base s1 σ d v) (x : Ext s1 s σ σ) : RepW K CA (Av Fr s σ) s.H (res d s.en s.st) v := by
  cases d with
  | own xs =>
    obtain ⟨a, vs, e, _, h1, n, r, _⟩ := r
    have r2 : Reps K CA (Av Fr s1 σ) s1.H xs vs := Reps.mono (Av.less fun b z => .inl z) _ _ r
    exact ⟨a, vs, e, (x.data a _ h1 n).1, x.reps r2⟩
  | cell n => trivial
  | pk i =>
    have e : σ[i]? = some (some v) := r
    cases q : getS s.en i with
    | none =>
      have : Ev.res (.pk i) s.en s.st = .pk i := by simp [Ev.res, q]
      rw [this]
      trivial
    | some d' =>
      have q1 : s.en[i]? = some (some d') := by
        unfold getS at q
        split at q
        · cases q; assumption
        · cases q
      obtain ⟨w, e2, r⟩ := h.slots i _ q1
      rw [e] at e2
      cases e2
      have old : Rep K CA (Av Fr s σ) s.H d' v → Ev.res (.pk i) s.en s.st = d' → RepW K CA (Av Fr s σ) s.H (Ev.res (.pk i) s.en s.st) v := fun r z => by rw [z]; exact RepW.ofRep r
      cases d' with
      | own xs =>
        obtain ⟨a, e3, vs, e4, r⟩ := r
        have : Ev.res (.pk i) s.en s.st = .lst xs := by simp [Ev.res, q]
        rw [this]
        exact ⟨a, vs, e3, e4, r⟩
      | cell n =>
        obtain ⟨a, e3, e4⟩ := r
        have hn : n < s.st.length := by rw [← h.ml]; exact (List.getElem?_eq_some_iff.mp e4).1
        obtain ⟨b, e5, vs, e6, r⟩ := h.cells n s.st[n] (by simp [hn])
        rw [e4] at e5
        cases e5
        have : Ev.res (.pk i) s.en s.st = .lst s.st[n] := by simp [Ev.res, q, hn]
        rw [this]
        exact ⟨a, vs, e3, e6, r⟩
      | pk j => exact (show False from r).elim
      | non => exact old r (by simp [Ev.res, q])
      | bl _ => exact old r (by simp [Ev.res, q])
      | int _ => exact old r (by simp [Ev.res, q])
      | str _ => exact old r (by simp [Ev.res, q])
      | tup _ => exact old r (by simp [Ev.res, q])
      | lst _ => exact old r (by simp [Ev.res, q])
      | frz _ => exact old r (by simp [Ev.res, q])
      | ins _ _ => exact old r (by simp [Ev.res, q])
  | non => exact RepW.ofRep (x.rep r)
  | bl _ => exact RepW.ofRep (x.rep r)
  | int _ => exact RepW.ofRep (x.rep r)
  | str _ => exact RepW.ofRep (x.rep r)
  | tup _ => exact RepW.ofRep (x.rep r)
  | lst _ => exact RepW.ofRep (x.rep r)
  | frz _ => exact RepW.ofRep (x.rep r)
  | ins _ _ => exact RepW.ofRep (x.rep r)
/-- a list, looked at -/
theorem RepW.seqL {Z : Addr → Prop} {d : D} {v : V} {xs : List D} (r : RepW K CA Z H d v) (e : d.seqL = some xs) : ∃ a vs, v = .ref a ∧ SqL K H a vs ∧ Reps K CA Z H xs vs := by
  cases d <;> simp only [D.seqL, Option.some.injEq, reduceCtorEq] at e
  · subst e; obtain ⟨a, vs, e, e2, r⟩ := r; exact ⟨a, vs, e, SqL.of e2, r⟩
  · subst e; obtain ⟨a, vs, e, e2, r⟩ := r; exact ⟨a, vs, e, SqL.of e2, r⟩
  · subst e; obtain ⟨a, vs, e, e2, r⟩ := r; exact ⟨a, vs, e, e2.sq, r⟩
theorem RepW.seqT {Z : Addr → Prop} {d : D} {v : V} {xs : List D} (r : RepW K CA Z H d v) (e : d.seqT = some xs) : ∃ a vs, v = .ref a ∧ SqT K H a vs ∧ TupAt K Z H a vs ∧ Reps K CA Z H xs vs := by
  cases d <;> simp only [D.seqT, Option.some.injEq, reduceCtorEq] at e
  subst e; obtain ⟨a, vs, e, t, r⟩ := r; exact ⟨a, vs, e, t.sq, t, r⟩
theorem RepW.seq {Z : Addr → Prop} {d : D} {v : V} {xs : List D} (r : RepW K CA Z H d v) (e : d.seq = some xs) : ∃ a vs, v = .ref a ∧ (SqL K H a vs ∨ SqT K H a vs) ∧ Reps K CA Z H xs vs := by
  unfold D.seq at e
  cases q : d.seqL with
  | some ys =>
    rw [q] at e
    cases e
    obtain ⟨a, vs, e, h, r⟩ := r.seqL q
    exact ⟨a, vs, e, .inl h, r⟩
  | none =>
    rw [q] at e
    obtain ⟨a, vs, e, h, _, r⟩ := r.seqT e
    exact ⟨a, vs, e, .inr h, r⟩
end

section
variable (G : Gm)
/-- what is wanted of a value that the evaluator tells -/
def Fin (Fr : Addr → Prop) (s : ST) (σ : L2.St) (d : D) (Q : VK) : Prop := ∀ b s', s'.en = s.en → s'.st = s.st → SR G.K G.CA Fr s' σ → Ext s s' σ σ → RepV G.K G.CA Fr s s' σ d b → Q b s'.H
end
section
variable {G : Gm} {W : WX} {Fr : Addr → Prop} {s : ST} {σ : L2.St} {Q : VK} {d : D}
theorem Post.fin (h : Post G W (rV G) Fr s σ Q (.ok d s.en s.st)) : Fin G Fr s σ d Q := h
theorem Fin.bl {b : Bool} (f : Fin G Fr s σ (.bl b) Q) (h : SR G.K G.CA Fr s σ) : Q (.bl b) s.H := f _ s rfl rfl h Ext.refl rfl
theorem Fin.int {b : Int} (f : Fin G Fr s σ (.int b) Q) (h : SR G.K G.CA Fr s σ) : Q (.int b) s.H := f _ s rfl rfl h Ext.refl rfl
theorem Fin.str {b : Str} (f : Fin G Fr s σ (.str b) Q) (h : SR G.K G.CA Fr s σ) : Q (.str b) s.H := f _ s rfl rfl h Ext.refl rfl
theorem Fin.non (f : Fin G Fr s σ .non Q) (h : SR G.K G.CA Fr s σ) : Q .non s.H := f _ s rfl rfl h Ext.refl rfl
theorem Fin.tupOld {xs : List D} {v : V} (f : Fin G Fr s σ (.tup xs) Q) (h : SR G.K G.CA Fr s σ) (r : Rep G.K G.CA (Av Fr s σ) s.H (.tup xs) v) : Q v s.H := f _ s rfl rfl h Ext.refl r
theorem Rep.toV {base : ST} {d : D} {v : V} (r : Rep G.K G.CA (Av Fr s σ) s.H d v) : RepV G.K G.CA Fr base s σ d v := by
  cases d with
  | own xs => exact (show False from r).elim
  | cell n => exact (show False from r).elim
  | pk i => exact (show False from r).elim
  | non => exact r
  | bl _ => exact r
  | int _ => exact r
  | str _ => exact r
  | tup _ => exact r
  | lst _ => exact r
  | frz _ => exact r
  | ins _ _ => exact r
theorem Fin.old {v : V} (f : Fin G Fr s σ d Q) (h : SR G.K G.CA Fr s σ) (r : Rep G.K G.CA (Av Fr s σ) s.H d v) : Q v s.H := f _ s rfl rfl h Ext.refl r.toV
theorem Fin.own {xs : List D} {vs : List V} (f : Fin G Fr s σ (.own xs) Q) (h : SR G.K G.CA Fr s σ) (r : Reps G.K G.CA (Av Fr s σ) s.H xs vs) : ∀ p, s.H p = none → Q (.ref p) (upd s.H p (.lst vs)) := fun p hp =>
  f (.ref p) (s.laid p (.lst vs)) rfl rfl (h.laid hp) (Ext.laid hp) (RepV.fresh h Ext.refl hp r)
theorem Fin.tup {xs : List D} {vs : List V} (f : Fin G Fr s σ (.tup xs) Q) (h : SR G.K G.CA Fr s σ) (r : Reps G.K G.CA (Av Fr s σ) s.H xs vs) : ∀ p, s.H p = none → Q (.ref p) (upd s.H p (.tup vs)) := fun p hp =>
  f (.ref p) (s.laid p (.tup vs)) rfl rfl (h.laid hp) (Ext.laid hp) (Rep.toV (Rep.newTup h hp r))
end

/-! ### binary operators -/
def bopOf : Bop → Operator
  | .add => .Add | .sub => .Sub | .mul => .Mult | .fdiv => .FloorDiv | .mod => .Mod | .pow => .Pow
section
variable (G : Gm)
def rBin (o : Bop) : R2 := fun x y H Q => ∃ Fr s σ d1 d2 d, s.H = H ∧ SR G.K G.CA Fr s σ ∧ RepW G.K G.CA (Av Fr s σ) H d1 x ∧ RepW G.K G.CA (Av Fr s σ) H d2 y ∧ binop o d1 d2 = some d ∧ Fin G Fr s σ d Q
end
section
variable {G : Gm} {X : Cx}
theorem chk_some {α : Type} {c : Bool} {a b : α} (h : chk c a = some b) : c = true ∧ a = b := by
  unfold chk at h
  split at h
  · exact ⟨by assumption, Option.some.inj h⟩
  · cases h
theorem seqL_lst {K : PySem.W.Frag} {CA : Nat → Addr} {Z : Addr → Prop} {H : Hp} {d : D} {v : V} {xs : List D} (r : RepW K CA Z H d v) (nf : ∀ ys, d ≠ .frz ys) (e : d.seqL = some xs) : ∃ a vs, v = .ref a ∧ H a = some (.lst vs) ∧ Reps K CA Z H xs vs := by
  cases d <;> simp only [D.seqL, Option.some.injEq, reduceCtorEq] at e
  · subst e; exact r
  · subst e; exact r
  · exact absurd rfl (nf _)
theorem op_binAdd (hK : X.K = G.K) : OpR X (binaryOp .Add) (rBin G .add) := by
  intro pins s0 σ0 H x y v u Q I rx ry h
  obtain ⟨Fr, s, σ, d1, d2, d, eH, hs, r1, r2, hb, f⟩ := h
  subst eH
  have lst : addL d1 d2 = some d → wpAny (model X.prog X.w) X.A (binaryOp .Add v u) (EP X pins σ0 Q) X.xe s0 := fun hb => by
    have n1 : ∀ ys, d1 ≠ .frz ys := fun ys z => by subst z; simp [addL] at hb
    have n2 : ∀ ys, d2 ≠ .frz ys := fun ys z => by subst z; cases d1 <;> simp [addL] at hb
    have hb' : (match d1.seqL, d2.seqL with
      | some xs, some ys => chk (decide (xs.length + ys.length ≤ lim)) (D.own (xs ++ ys))
      | _, _ => none) = some d := by
      cases d1 <;> cases d2 <;> first | exact hb | exact absurd rfl (n1 _) | exact absurd rfl (n2 _)
    cases q1 : d1.seqL with
    | none => rw [q1] at hb'; cases hb'
    | some xs =>
      cases q2 : d2.seqL with
      | none => rw [q1, q2] at hb'; cases hb'
      | some ys =>
        rw [q1, q2] at hb'
        obtain ⟨c, rfl⟩ := chk_some hb'
        obtain ⟨a, vs, rfl, e1, t1⟩ := seqL_lst r1 n1 q1
        obtain ⟨b, ws, rfl, e2, t2⟩ := seqL_lst r2 n2 q2
        refine op_cat pins s0 σ0 _ _ _ v u Q I rx ry ⟨a, b, vs, ws, rfl, rfl, e1, e2, ?_, f.own hs (t1.append t2)⟩
        rw [t1.length, t2.length, lim_eq]
        exact of_decide_eq_true c
  cases d1 with
  | int i =>
    cases d2 with
    | int j =>
      cases hb
      cases r1; cases r2
      exact op_add pins s0 σ0 _ _ _ v u Q I rx ry ⟨i, j, rfl, rfl, f.int hs⟩
    | _ => exact lst hb
  | str i =>
    cases d2 with
    | str j =>
      obtain ⟨c, rfl⟩ := chk_some (show chk (decide (i.length + j.length ≤ lim)) (D.str (i ++ j)) = some d from hb)
      cases r1; cases r2
      exact op_add_str pins s0 σ0 _ _ _ v u Q I rx ry ⟨i, j, rfl, rfl, by rw [lim_eq]; exact of_decide_eq_true c, f.str hs⟩
    | _ => exact lst hb
  | tup xs =>
    cases d2 with
    | tup ys =>
      obtain ⟨c, rfl⟩ := chk_some (show chk (decide (xs.length + ys.length ≤ lim)) (D.tup (xs ++ ys)) = some d from hb)
      obtain ⟨a, vs, rfl, e1, t1, p1⟩ := r1.seqT rfl
      obtain ⟨b, ws, rfl, e2, t2, p2⟩ := r2.seqT rfl
      refine op_catA pins s0 σ0 _ _ _ v u Q I rx ry ⟨a, b, vs, ws, rfl, rfl, hK ▸ e1, hK ▸ e2, ?_, fun z => ?_, fun _ z => ?_, fun _ _ => f.tup hs (p1.append p2)⟩
      · rw [p1.length, p2.length, lim_eq]
        exact of_decide_eq_true c
      · refine f.tupOld hs ⟨b, ws, rfl, t2, ?_⟩
        have : xs = [] := by have := p1.length; rw [z] at this; exact List.length_eq_zero_iff.mp this.symm
        rw [this]; exact p2
      · refine f.tupOld hs ⟨a, vs, rfl, t1, ?_⟩
        have : ys = [] := by have := p2.length; rw [z] at this; exact List.length_eq_zero_iff.mp this.symm
        rw [this, List.append_nil]; exact p1
    | _ => exact lst hb
  | _ => exact lst (by cases d2 <;> exact hb)
theorem op_binSub : OpR X (binaryOp .Sub) (rBin G .sub) := by
  intro pins s0 σ0 H x y v u Q I rx ry h
  obtain ⟨Fr, s, σ, d1, d2, d, eH, hs, r1, r2, hb, f⟩ := h
  subst eH
  cases d1 <;> cases d2 <;> first | cases hb | skip
  cases r1; cases r2
  exact op_sub pins s0 σ0 _ _ _ v u Q I rx ry ⟨_, _, rfl, rfl, f.int hs⟩
theorem op_binDiv : OpR X (binaryOp .FloorDiv) (rBin G .fdiv) := by
  intro pins s0 σ0 H x y v u Q I rx ry h
  obtain ⟨Fr, s, σ, d1, d2, d, eH, hs, r1, r2, hb, f⟩ := h
  subst eH
  cases d1 <;> cases d2 <;> first | cases hb | skip
  cases r1; cases r2
  obtain ⟨c, rfl⟩ := chk_some (show chk _ _ = some d from hb)
  simp only [Bool.and_eq_true, decide_eq_true_eq] at c
  exact op_fdivN pins s0 σ0 _ _ _ v u Q I rx ry ⟨_, _, rfl, rfl, c, f.int hs⟩
theorem op_binMod : OpR X (binaryOp .Mod) (rBin G .mod) := by
  intro pins s0 σ0 H x y v u Q I rx ry h
  obtain ⟨Fr, s, σ, d1, d2, d, eH, hs, r1, r2, hb, f⟩ := h
  subst eH
  cases d1 <;> cases d2 <;> first | cases hb | skip
  cases r1; cases r2
  obtain ⟨c, rfl⟩ := chk_some (show chk _ _ = some d from hb)
  exact op_modN pins s0 σ0 _ _ _ v u Q I rx ry ⟨_, _, rfl, rfl, of_decide_eq_true c, f.int hs⟩
theorem op_binPow : OpR X (binaryOp .Pow) (rBin G .pow) := by
  intro pins s0 σ0 H x y v u Q I rx ry h
  obtain ⟨Fr, s, σ, d1, d2, d, eH, hs, r1, r2, hb, f⟩ := h
  subst eH
  cases d1 <;> cases d2 <;> first | cases hb | skip
  cases r1; cases r2
  obtain ⟨c, rfl⟩ := chk_some (show chk _ _ = some d from hb)
  simp only [Bool.and_eq_true, decide_eq_true_eq] at c
  exact op_pow pins s0 σ0 _ _ _ v u Q I rx ry ⟨_, _, rfl, rfl, ⟨c.1.1, c.1.2, c.2⟩, f.int hs⟩
theorem op_binMul (hK : X.K = G.K) : OpR X (binaryOp .Mult) (rBin G .mul) := by
  intro pins s0 σ0 H x y v u Q I rx ry h
  obtain ⟨Fr, s, σ, d1, d2, d, eH, hs, r1, r2, hb, f⟩ := h
  subst eH
  cases d2 with
  | int k =>
    cases r2
    have lst : ∀ xs, (∀ ys, d1 ≠ .frz ys) → d1.seqL = some xs → chk (repOk xs.length k) (D.own (List.replicate k.toNat xs).flatten) = some d → wpAny (model X.prog X.w) X.A (binaryOp .Mult v u) (EP X pins σ0 Q) X.xe s0 := fun xs nf q hb => by
      obtain ⟨c, rfl⟩ := chk_some hb
      simp only [repOk, Bool.and_eq_true, decide_eq_true_eq] at c
      obtain ⟨a, vs, rfl, e1, t1⟩ := seqL_lst r1 nf q
      exact op_rep pins s0 σ0 _ _ _ v u Q I rx ry ⟨a, k, vs, rfl, rfl, e1, c.1.1, c.1.2, by rw [t1.length, lim_eq]; exact c.2, f.own hs (t1.rep _)⟩
    cases d1 with
    | int i =>
      obtain ⟨c, rfl⟩ := chk_some (show chk (mulOk i k) (D.int (i * k)) = some d from hb)
      cases r1
      simp only [mulOk, Bool.or_eq_true, Bool.and_eq_true, decide_eq_true_eq] at c
      exact op_mul pins s0 σ0 _ _ _ v u Q I rx ry ⟨i, k, rfl, rfl, c, f.int hs⟩
    | tup xs =>
      obtain ⟨c, rfl⟩ := chk_some (show chk (decide (-1000 ≤ k) && decide (k ≤ 1000) && decide (xs.length ≤ 1000)) (D.tup (List.replicate k.toNat xs).flatten) = some d from hb)
      simp only [Bool.and_eq_true, decide_eq_true_eq] at c
      obtain ⟨⟨c1, c2⟩, c3⟩ := c
      obtain ⟨a, vs, rfl, e1, t1, p1⟩ := r1.seqT rfl
      have hlen : vs = [] ↔ xs = [] := by
        have := p1.length
        rw [← List.length_eq_zero_iff, ← List.length_eq_zero_iff, this]
      by_cases z1 : xs = [] ∨ k = 1
      · refine op_repE pins s0 σ0 _ _ _ v u Q I rx ry ⟨a, k, vs, rfl, rfl, hK ▸ e1, z1.imp hlen.mpr id, by omega, by omega, ?_⟩
        have e : (List.replicate k.toNat xs).flatten = xs := by
          rcases z1 with z1 | z1
          · subst z1; generalize k.toNat = n
            induction n with
            | zero => rfl
            | succ n ih => simp [List.replicate_succ, ih]
          · subst z1; simp
        rw [e] at f
        exact f.tupOld hs ⟨a, vs, rfl, t1, p1⟩
      · by_cases z2 : k ≤ 0
        · refine op_repZ pins s0 σ0 _ _ _ v u Q I rx ry ⟨a, k, vs, rfl, rfl, hK ▸ e1, fun z => z1 (.inl (hlen.mp z)), z2, by omega, ?_⟩
          have e : (List.replicate k.toNat xs).flatten = [] := by
            have : k.toNat = 0 := by omega
            rw [this]; rfl
          rw [e] at f
          exact f.tup hs (show Reps G.K G.CA (Av Fr s σ) s.H [] [] from rfl)
        · exact op_repT pins s0 σ0 _ _ _ v u Q I rx ry ⟨a, k, vs, rfl, rfl, hK ▸ e1, fun z => z1 (.inl (hlen.mp z)), by omega, c2, by rw [p1.length]; exact c3, f.tup hs (p1.rep _)⟩
    | lst xs => exact lst xs (fun _ z => nomatch z) rfl hb
    | own xs => exact lst xs (fun _ z => nomatch z) rfl hb
    | non => cases hb
    | bl _ => cases hb
    | str _ => cases hb
    | pk _ => cases hb
    | frz _ => cases hb
    | cell _ => cases hb
    | ins _ _ => cases hb
  | _ => cases d1 <;> cases hb
theorem op_bin (hK : X.K = G.K) (o : Bop) : OpR X (binaryOp (bopOf o)) (rBin G o) := by
  cases o with
  | add => exact op_binAdd hK
  | sub => exact op_binSub
  | mul => exact op_binMul hK
  | fdiv => exact op_binDiv
  | mod => exact op_binMod
  | pow => exact op_binPow
end
end Ev

end
section
set_option linter.all false
set_option maxRecDepth 100000
/-! Snd4: expressions. -/
namespace Ev
open PySem PySem.Spec PyProof.Rows L2

section
variable {X : Cx} {e : Expr} {es : List Expr} {t t' : TE} {u u' : TT} {w w' : TA} {b b' : TS} {st : Stmt} {sts : List Stmt}
theorem PE.imp (h : PE X e t) (k : ∀ σ H Q, t' σ H Q → t σ H Q) : PE X e t' := ⟨fun p s σ H Q I q => h.run p s σ H Q I (k σ H Q q)⟩
theorem PT.imp (h : PT X e u) (k : ∀ σ H Q, u' σ H Q → u σ H Q) : PT X e u' := ⟨fun p s σ H Q I q => h.run p s σ H Q I (k σ H Q q)⟩
theorem PW.imp (h : PW X e u) (k : ∀ σ H Q, u' σ H Q → u σ H Q) : PW X e u' := ⟨fun wh p s σ H Q I q => h.run wh p s σ H Q I (k σ H Q q)⟩
theorem PA.imp (h : PA X es w) (k : ∀ σ H Q, w' σ H Q → w σ H Q) : PA X es w' := ⟨fun pos p s σ H Q I q => h.run pos p s σ H Q I (k σ H Q q)⟩
theorem PS.imp (h : PS X st b) (k : ∀ D σ H, b' D σ H → b D σ H) : PS X st b' := ⟨fun p s σ H D I q => h.run p s σ H D I (k D σ H q)⟩
theorem PSs.imp (h : PSs X sts b) (k : ∀ D σ H, b' D σ H → b D σ H) : PSs X sts b' := ⟨fun p s σ H D I q => h.run p s σ H D I (k D σ H q)⟩
end

section
variable {G : Gm} {W : WX} {X : Cx} {T0 : Tab} {F : Fn} {a b c : Expr} {ia ib ic : E} {pos : Pos}
/-- the readings of E -/
abbrev rE (G : Gm) (W : WX) (T0 : Tab) (F : Fn) (i : E) : TE := RE G W (evalE T0 F i)
def evT (T0 : Tab) (F : Fn) (i : E) (en : Env) (st : Store) : Out Bool := (evalE T0 F i en st).bind boolO
abbrev rT (G : Gm) (W : WX) (T0 : Tab) (F : Fn) (i : E) : TT := RT G W (evT T0 F i)
abbrev rAs (G : Gm) (W : WX) (T0 : Tab) (F : Fn) (i : E) : TA := RA G W (evalE T0 F i)

/-! ### literals, names -/
theorem e_int {i j p} : PE X (.Constant (.int i) j p) (rE G W T0 F (.lit (.int i))) := PE.imp pe_int fun σ H Q ⟨Fr, s, eH, hs, p⟩ => by subst eH; exact p.fin.int hs
theorem e_bl {i j p} : PE X (.Constant (.bool i) j p) (rE G W T0 F (.lit (.bl i))) := PE.imp pe_bl fun σ H Q ⟨Fr, s, eH, hs, p⟩ => by subst eH; exact p.fin.bl hs
theorem e_non {j p} : PE X (.Constant .none j p) (rE G W T0 F (.lit .non)) := PE.imp pe_non fun σ H Q ⟨Fr, s, eH, hs, p⟩ => by subst eH; exact p.fin.non hs
theorem e_str {x j p} : PE X (.Constant (.str x) j p) (rE G W T0 F (.lit (.str x))) := PE.imp pe_str fun σ H Q ⟨Fr, s, eH, hs, p⟩ => by subst eH; exact p.fin.str hs

theorem getS_some {en : Env} {i : Nat} {d : D} (h : getS en i = some d) : en[i]? = some (some d) := by
  unfold getS at h
  split at h
  · cases h; assumption
  · cases h
theorem getElem_setS {en : Env} {i j : Nat} {d : D} : (setS en i d)[j]? = if i = j then (if i < en.length then some (some d) else none) else en[j]? := by
  unfold setS
  rw [List.getElem?_set]
/-- a name gets plain data; what stood there is forgotten -/
theorem own_set {en : Env} {σ : L2.St} {i : Nat} {d : D} {v : V} (nd : ∀ xs, d ≠ .own xs) {j : Nat} {b : Addr} (z : ownAt (setS en i d) (σ.set i (some v)) j b) : ownAt en σ j b ∧ j ≠ i := by
  obtain ⟨ys, q1, q2⟩ := z
  rw [getElem_setS] at q1
  by_cases hij : i = j
  · rw [if_pos hij] at q1
    split at q1
    · have := Option.some.inj (Option.some.inj q1)
      exact absurd this (nd ys)
    · cases q1
  · rw [if_neg hij] at q1
    rw [List.getElem?_set_ne hij] at q2
    exact ⟨⟨ys, q1, q2⟩, fun z => hij z.symm⟩
theorem SR.put {K : PySem.W.Frag} {CA : Nat → Addr} {Fr : Addr → Prop} {s : ST} {σ : L2.St} {i : Nat} {d : D} {v : V} (h : SR K CA Fr s σ) (hi : i < s.en.length) (nd : ∀ xs, d ≠ .own xs)
    (r : SlotRep K CA (Av Fr { s with en := setS s.en i d } (σ.set i (some v))) s.m s.H d v) : SR K CA Fr { s with en := setS s.en i d } (σ.set i (some v)) ∧ Ext s { s with en := setS s.en i d } σ (σ.set i (some v)) := by
  have wr : ∀ b, Wr { s with en := setS s.en i d } (σ.set i (some v)) b → Wr s σ b := fun b z => by
    rcases z with z | ⟨j, z⟩
    · exact .inl z
    · exact .inr ⟨j, (own_set nd z).1⟩
  have kd : ∀ a u, s.H a = some u → ¬ Av Fr s σ a → s.H a = some u ∧ ¬ Av Fr { s with en := setS s.en i d } (σ.set i (some v)) a := fun a u e n => ⟨e, fun z => n (z.imp (wr a) id)⟩
  have hi2 : i < σ.length := by rw [← h.len]; exact hi
  refine ⟨⟨h.trk, h.ml, fun n xs e => ?_, h.nd, fun j x e => ?_, fun j k a z1 z2 => h.inj j k a (own_set nd z1).1 (own_set nd z2).1, fun j a z => h.noc j a (own_set nd z).1, fun j a z => h.nfr j a (own_set nd z).1, ?_⟩,
    ⟨fun a u e _ => e, fun a z => .inl (wr a z), fun a z => z, [], by simp⟩⟩
  · obtain ⟨a, q, o⟩ := h.cells n xs e
    exact ⟨a, q, o.mono kd rfl⟩
  · have e : (setS s.en i d)[j]? = some (some x) := e
    rw [getElem_setS] at e
    by_cases hij : i = j
    · subst hij
      rw [if_pos rfl, if_pos hi] at e
      have := Option.some.inj (Option.some.inj e)
      subst this
      exact ⟨v, List.getElem?_set_self hi2, r⟩
    · rw [if_neg hij] at e
      obtain ⟨w, q, o⟩ := h.slots j x e
      exact ⟨w, by rw [List.getElem?_set_ne hij]; exact q, o.mono kd (fun _ _ _ _ => rfl) ⟨[], by simp⟩⟩
  · show (setS s.en i d).length = _
    unfold setS
    rw [List.length_set, List.length_set]; exact h.len
theorem set_self {σ : L2.St} {i : Nat} {v : V} (h : σ[i]? = some (some v)) : σ.set i (some v) = σ := by
  apply List.ext_getElem?
  intro j
  by_cases hij : i = j
  · subst hij
    rw [List.getElem?_set_self (List.getElem?_eq_some_iff.mp h).1, h]
  · rw [List.getElem?_set_ne hij]
/-- a list of one's own is so no more -/
theorem SR.freeze {K : PySem.W.Frag} {CA : Nat → Addr} {Fr : Addr → Prop} {s : ST} {σ : L2.St} {i : Nat} {xs : List D} (h : SR K CA Fr s σ) (e : s.en[i]? = some (some (.own xs))) :
    ∃ v, σ[i]? = some (some v) ∧ SR K CA Fr { s with en := setS s.en i (.lst xs) } σ ∧ Ext s { s with en := setS s.en i (.lst xs) } σ σ ∧ Rep K CA (Av Fr { s with en := setS s.en i (.lst xs) } σ) s.H (.lst xs) v := by
  obtain ⟨v, e1, a, ev, vs, e2, r⟩ := h.slots i _ e
  subst ev
  have hi : i < s.en.length := (List.getElem?_eq_some_iff.mp e).1
  have oa : ownAt s.en σ i a := ⟨xs, e, e1⟩
  have nl : ∀ ys : List D, D.lst xs ≠ .own ys := fun _ z => nomatch z
  have wr : ∀ b, Wr { s with en := setS s.en i (.lst xs) } σ b → Wr s σ b ∧ b ≠ a := fun b z => by
    rcases z with z | ⟨j, z⟩
    · exact ⟨.inl z, fun q => h.noc i a oa (q ▸ z)⟩
    · rw [← set_self e1] at z
      obtain ⟨z1, z2⟩ := own_set nl z
      exact ⟨.inr ⟨j, z1⟩, fun q => z2 (h.inj j i a (q ▸ z1) oa)⟩
  have rr : Rep K CA (Av Fr { s with en := setS s.en i (.lst xs) } σ) s.H (.lst xs) (.ref a) := by
    refine ⟨a, vs, rfl, fun z => ?_, e2, Reps.mono (fun b u q n => ⟨q, fun z => n (z.imp (fun z => (wr b z).1) id)⟩) _ _ r⟩
    rcases z with z | z
    · exact (wr a z).2 rfl
    · exact h.nfr i a oa z
  have q := h.put (d := .lst xs) (v := .ref a) hi nl (by rw [set_self e1]; exact rr)
  rw [set_self e1] at q
  exact ⟨_, e1, q.1, q.2, rr⟩
/-- a list of one's own goes into the store -/
theorem SR.toStore {K : PySem.W.Frag} {CA : Nat → Addr} {Fr : Addr → Prop} {s : ST} {σ : L2.St} {i : Nat} {xs : List D} (h : SR K CA Fr s σ) (e : s.en[i]? = some (some (.own xs))) :
    ∃ a, σ[i]? = some (some (.ref a)) ∧ SR K CA Fr { s with m := s.m ++ [a], en := setS s.en i (.cell s.st.length), st := s.st ++ [xs] } σ ∧ Ext s { s with m := s.m ++ [a], en := setS s.en i (.cell s.st.length), st := s.st ++ [xs] } σ σ := by
  obtain ⟨v, e1, a, ev, vs, e2, r⟩ := h.slots i _ e
  subst ev
  have hi : i < s.en.length := (List.getElem?_eq_some_iff.mp e).1
  have oa : ownAt s.en σ i a := ⟨xs, e, e1⟩
  have nl : ∀ ys : List D, D.cell s.st.length ≠ .own ys := fun _ z => nomatch z
  have ow : ∀ j b, ownAt (setS s.en i (.cell s.st.length)) σ j b → ownAt s.en σ j b ∧ j ≠ i := fun j b z => by
    rw [← set_self e1] at z
    exact own_set nl z
  have wr : ∀ b, Wr { s with m := s.m ++ [a], en := setS s.en i (.cell s.st.length), st := s.st ++ [xs] } σ b → Wr s σ b := fun b z => by
    rcases z with z | ⟨j, z⟩
    · rcases List.mem_append.mp z with z | z
      · exact .inl z
      · rw [List.mem_singleton.mp z]
        exact .inr ⟨i, oa⟩
    · exact .inr ⟨j, (ow j b z).1⟩
  have kd : ∀ b u, s.H b = some u → ¬ Av Fr s σ b → s.H b = some u ∧ ¬ Av Fr { s with m := s.m ++ [a], en := setS s.en i (.cell s.st.length), st := s.st ++ [xs] } σ b := fun b u e n => ⟨e, fun z => n (z.imp (wr b) id)⟩
  refine ⟨a, e1, ⟨h.trk, ?_, fun n ys q => ?_, ?_, fun j x q => ?_, fun j k b z1 z2 => h.inj j k b (ow j b z1).1 (ow k b z2).1, fun j b z => ?_, fun j b z => h.nfr j b (ow j b z).1, ?_⟩, ⟨fun b u e _ => e, fun b z => .inl (wr b z), fun b z => z, [a], rfl⟩⟩
  · show (s.m ++ [a]).length = (s.st ++ [xs]).length
    rw [List.length_append, List.length_append, h.ml]; rfl
  · have q : (s.st ++ [xs])[n]? = some ys := q
    show ∃ b, (s.m ++ [a])[n]? = some b ∧ _
    by_cases hn : n < s.st.length
    · rw [List.getElem?_append_left hn] at q
      obtain ⟨b, q2, o⟩ := h.cells n ys q
      exact ⟨b, by rw [List.getElem?_append_left (by rw [h.ml]; exact hn)]; exact q2, o.mono kd rfl⟩
    · rw [List.getElem?_append_right (by omega)] at q
      have hn2 : n = s.st.length := by
        have := (List.getElem?_eq_some_iff.mp q).1
        simp at this
        omega
      subst hn2
      simp at q
      subst q
      exact ⟨a, by rw [← h.ml]; simp, vs, e2, Reps.mono kd _ _ r⟩
  · rw [List.nodup_append]
    refine ⟨h.nd, by simp, fun x hx y hy z => ?_⟩
    rw [List.mem_singleton.mp hy] at z
    exact h.noc i a oa (z ▸ hx)
  · have q : (setS s.en i (.cell s.st.length))[j]? = some (some x) := q
    rw [getElem_setS] at q
    by_cases hij : i = j
    · subst hij
      rw [if_pos rfl, if_pos hi] at q
      have := Option.some.inj (Option.some.inj q)
      subst this
      refine ⟨.ref a, e1, a, rfl, ?_⟩
      show (s.m ++ [a])[s.st.length]? = some a
      rw [← h.ml]; simp
    · rw [if_neg hij] at q
      obtain ⟨w, q1, o⟩ := h.slots j x q
      exact ⟨w, q1, o.mono kd (fun _ _ _ _ => rfl) ⟨[a], rfl⟩⟩
  · obtain ⟨z1, z2⟩ := ow j b z
    show b ∉ s.m ++ [a]
    intro q
    rcases List.mem_append.mp q with q | q
    · exact h.noc j b z1 q
    · rw [List.mem_singleton.mp q] at z1
      exact z2 (h.inj j i a z1 oa)
  · show (setS s.en i _).length = _
    unfold setS
    rw [List.length_set]; exact h.len
theorem e_var {i : Nat} {x : Str} {p : Pos} (hi : X.N[i]? = some x) (hv : Vis X.env.scope x) (hd : (x == ("__debug__" : Str)) = false) (hcd : (x == ("__classdict__" : Str)) = false) : PE X (.Name x p) (rE G W T0 F (.var i)) := PE.imp (pe_var hi hv hd hcd) fun σ H Q ⟨Fr, s, eH, hs, p⟩ => by
  subst eH
  have p : Post G W (rV G) Fr s σ Q (readV i s.en s.st) := p
  unfold readV at p
  cases q : getS s.en i with
  | none => rw [q] at p; exact p.elim
  | some d =>
    rw [q] at p
    have q1 := getS_some q
    have old : ∀ v, σ[i]? = some (some v) → Rep G.K G.CA (Av Fr s σ) s.H d v → Post G W (rV G) Fr s σ Q (.ok d s.en s.st) → tVar i σ s.H Q := fun v e r p => ⟨v, e, Fin.old p hs r⟩
    obtain ⟨v, e, r⟩ := hs.slots i d q1
    cases d with
    | own xs =>
      obtain ⟨v, e, h2, x2, r⟩ := hs.freeze q1
      exact ⟨v, e, p v { s with en := setS s.en i (.lst xs) } rfl rfl h2 x2 (Rep.toV r)⟩
    | cell n => exact p.elim
    | pk j => exact (show False from r).elim
    | non => exact old v e r p
    | bl _ => exact old v e r p
    | int _ => exact old v e r p
    | str _ => exact old v e r p
    | tup _ => exact old v e r p
    | lst _ => exact old v e r p
    | frz _ => exact old v e r p
    | ins _ _ => exact old v e r p
theorem e_pk {i : Nat} {x : Str} {p : Pos} (hi : X.N[i]? = some x) (hv : Vis X.env.scope x) (hd : (x == ("__debug__" : Str)) = false) (hcd : (x == ("__classdict__" : Str)) = false) : PE X (.Name x p) (rE G W T0 F (.pk i)) := PE.imp (pe_var hi hv hd hcd) fun σ H Q ⟨Fr, s, eH, hs, p⟩ => by
  subst eH
  have p : Post G W (rV G) Fr s σ Q (peekV i s.en s.st) := p
  unfold peekV at p
  cases q : getS s.en i with
  | none => rw [q] at p; exact p.elim
  | some d =>
    rw [q] at p
    have q1 := getS_some q
    have old : ∀ v, σ[i]? = some (some v) → Rep G.K G.CA (Av Fr s σ) s.H d v → Post G W (rV G) Fr s σ Q (.ok d s.en s.st) → tVar i σ s.H Q := fun v e r p => ⟨v, e, Fin.old p hs r⟩
    obtain ⟨v, e, r⟩ := hs.slots i d q1
    cases d with
    | own xs => exact ⟨v, e, p v s rfl rfl hs Ext.refl e⟩
    | cell n =>
      by_cases hn : n < s.st.length
      · have p : Post G W (rV G) Fr s σ Q (if n < s.st.length then .ok (.pk i) s.en s.st else .bad) := p
        rw [if_pos hn] at p
        exact ⟨v, e, p v s rfl rfl hs Ext.refl e⟩
      · have p : Post G W (rV G) Fr s σ Q (if n < s.st.length then .ok (.pk i) s.en s.st else .bad) := p
        rw [if_neg hn] at p
        exact p.elim
    | pk j => exact (show False from r).elim
    | non => exact old v e r p
    | bl _ => exact old v e r p
    | int _ => exact old v e r p
    | str _ => exact old v e r p
    | tup _ => exact old v e r p
    | lst _ => exact old v e r p
    | frz _ => exact old v e r p
    | ins _ _ => exact old v e r p
theorem e_ref {i : Nat} {x : Str} {p : Pos} (hi : X.N[i]? = some x) (hv : Vis X.env.scope x) (hd : (x == ("__debug__" : Str)) = false) (hcd : (x == ("__classdict__" : Str)) = false) : PE X (.Name x p) (rE G W T0 F (.ref i)) := PE.imp (pe_var hi hv hd hcd) fun σ H Q ⟨Fr, s, eH, hs, p⟩ => by
  subst eH
  have p : Post G W (rV G) Fr s σ Q (refV i s.en s.st) := p
  unfold refV at p
  cases q : getS s.en i with
  | none => rw [q] at p; exact p.elim
  | some d =>
    rw [q] at p
    have q1 := getS_some q
    have old : ∀ v, σ[i]? = some (some v) → Rep G.K G.CA (Av Fr s σ) s.H d v → Post G W (rV G) Fr s σ Q (.ok d s.en s.st) → tVar i σ s.H Q := fun v e r p => ⟨v, e, Fin.old p hs r⟩
    obtain ⟨v, e, r⟩ := hs.slots i d q1
    cases d with
    | own xs =>
      obtain ⟨a, e, h2, x2⟩ := hs.toStore q1
      exact ⟨.ref a, e, p (.ref a) { s with m := s.m ++ [a], en := setS s.en i (.cell s.st.length), st := s.st ++ [xs] } rfl rfl h2 x2 ⟨a, rfl, by show (s.m ++ [a])[s.st.length]? = some a; rw [← hs.ml]; simp⟩⟩
    | cell n => exact ⟨v, e, p v s rfl rfl hs Ext.refl r⟩
    | pk j => exact (show False from r).elim
    | non => exact old v e r p
    | bl _ => exact old v e r p
    | int _ => exact old v e r p
    | str _ => exact old v e r p
    | tup _ => exact old v e r p
    | lst _ => exact old v e r p
    | frz _ => exact old v e r p
    | ins _ _ => exact old v e r p
end
end Ev

end
section
set_option linter.all false
set_option maxRecDepth 100000
/-! Snd5: comparisons; expressions put together. -/
namespace Ev
open PySem PySem.Spec PyProof.Rows L2

section
variable {K : PySem.W.Frag} {CA : Nat → Addr} {Z : Addr → Prop} {H : Hp}
mutual
theorem Rep.dp : ∀ (d : D) (v : V) (x : PyData), Rep K CA Z H d v → d.py = some x → Dp K H v x
  | .non, _, _, h, e => by cases e; rw [show _ = V.non from h]; exact .non
  | .bl b, _, _, h, e => by cases e; rw [show _ = V.bl b from h]; exact .bl b
  | .int i, _, _, h, e => by cases e; rw [show _ = V.int i from h]; exact .int i
  | .str i, _, _, h, e => by cases e; rw [show _ = V.str i from h]; exact .str i
  | .tup ds, _, x, ⟨a, vs, ev, t, r⟩, e => by
    simp only [D.py] at e
    obtain ⟨ys, e1, rfl⟩ := Option.map_eq_some_iff.mp e
    rw [ev]
    exact .tup t.sq (Reps.dp ds vs ys r e1)
  | .lst ds, _, x, ⟨a, vs, ev, n, t, r⟩, e => by
    simp only [D.py] at e
    obtain ⟨ys, e1, rfl⟩ := Option.map_eq_some_iff.mp e
    rw [ev]
    exact .lst (SqL.of t) (Reps.dp ds vs ys r e1)
  | .frz ds, _, x, ⟨a, vs, ev, t, r⟩, e => by
    simp only [D.py] at e
    obtain ⟨ys, e1, rfl⟩ := Option.map_eq_some_iff.mp e
    rw [ev]
    exact .lst t.sq (Reps.dp ds vs ys r e1)
  | .own _, _, _, h, _ => (show False from h).elim
  | .pk _, _, _, h, _ => (show False from h).elim
  | .cell _, _, _, h, _ => (show False from h).elim
  | .ins _ _, _, _, _, e => by simp only [D.py] at e; cases e
theorem Reps.dp : ∀ (ds : List D) (vs : List V) (xs : List PyData), Reps K CA Z H ds vs → pys ds = some xs → DpAll K H vs xs
  | [], vs, xs, h, e => by cases e; rw [show vs = [] from h]; exact .nil
  | d :: ds, _, xs, ⟨v, r, ev, h, t⟩, e => by
    simp only [pys] at e
    cases e1 : d.py with
    | none => rw [e1] at e; cases e
    | some x =>
      cases e2 : pys ds with
      | none => rw [e1, e2] at e; cases e
      | some ys =>
        rw [e1, e2] at e
        cases e
        rw [ev]
        exact .cons (Rep.dp d v x h e1) (Reps.dp ds r ys t e2)
end
theorem RepW.dp {d : D} {v : V} {x : PyData} (h : RepW K CA Z H d v) (e : d.py = some x) : Dp K H v x := by
  cases d with
  | own ds =>
    obtain ⟨a, vs, ev, t, r⟩ := h
    simp only [D.py] at e
    obtain ⟨ys, e1, rfl⟩ := Option.map_eq_some_iff.mp e
    rw [ev]
    exact .lst (SqL.of t) (Reps.dp ds vs ys r e1)
  | lst ds =>
    obtain ⟨a, vs, ev, t, r⟩ := h
    simp only [D.py] at e
    obtain ⟨ys, e1, rfl⟩ := Option.map_eq_some_iff.mp e
    rw [ev]
    exact .lst (SqL.of t) (Reps.dp ds vs ys r e1)
  | pk _ => simp only [D.py] at e; cases e
  | cell _ => simp only [D.py] at e; cases e
  | non => exact Rep.dp _ v x h e
  | bl _ => exact Rep.dp _ v x h e
  | int _ => exact Rep.dp _ v x h e
  | str _ => exact Rep.dp _ v x h e
  | tup _ => exact Rep.dp _ v x h e
  | frz _ => exact Rep.dp _ v x h e
  | ins _ _ => exact Rep.dp _ v x h e
/-- plain values compared -/
theorem RepW.eqS {a b : D} {x y : V} {r : Bool} (h1 : RepW K CA Z H a x) (h2 : RepW K CA Z H b y) (e : eqS a b = some r) : scal x y = true ∧ decide (x = y) = r := by
  cases a <;> cases b <;> (simp only [Ev.eqS, Option.some.injEq, reduceCtorEq] at e) <;>
    (cases h1; cases h2; subst e; first | exact ⟨rfl, rfl⟩ | (refine ⟨rfl, ?_⟩; simp))
end

def copOf : Cop → CmpOp
  | .eq => .Eq | .ne => .NotEq | .lt => .Lt | .le => .LtE | .gt => .Gt | .ge => .GtE | .isn => .Is | .notn => .IsNot | .inn => .In | .nin => .NotIn
section
variable (G : Gm)
def rCmp (o : Cop) : R2 := fun x y H Q => ∃ Fr s σ d1 d2 r, s.H = H ∧ SR G.K G.CA Fr s σ ∧ RepW G.K G.CA (Av Fr s σ) H d1 x ∧ RepW G.K G.CA (Av Fr s σ) H d2 y ∧ cmpop o d1 d2 = some r ∧ Q (.bl r) H
end
section
variable {G : Gm} {X : Cx}
theorem flat_of {K : PySem.W.Frag} {CA : Nat → Addr} {Z : Addr → Prop} {H : Hp} {x d : D} {v w : V} {b : Bool} (h : RepW K CA Z H x v) (h2 : RepW K CA Z H d w) (e : Ev.eqS d x = some b) : flatV v = true ∧ flatV w = true ∧ eqV w v = b := by
  cases d <;> cases x <;> (simp only [Ev.eqS, Option.some.injEq, reduceCtorEq] at e) <;>
    (cases h; cases h2; subst e; refine ⟨rfl, rfl, ?_⟩; simp [eqV]; try rfl)
theorem in_of {K : PySem.W.Frag} {CA : Nat → Addr} {Z : Addr → Prop} {H : Hp} {x : D} {v : V} (h : RepW K CA Z H x v) : ∀ {ds : List D} {vs : List V} {b : Bool}, Reps K CA Z H ds vs → inL x ds = some b → vs.all flatV = true ∧ inV v vs = b ∧ (ds ≠ [] → flatV v = true)
  | [], vs, b, r, e => by
    rw [show vs = [] from r]
    cases e
    exact ⟨rfl, rfl, fun z => absurd rfl z⟩
  | d :: ds, _, b, ⟨w, r, ev, h1, t⟩, e => by
    simp only [inL] at e
    cases e1 : Ev.eqS d x with
    | none => rw [e1] at e; cases e
    | some c =>
      cases e2 : inL x ds with
      | none => rw [e1, e2] at e; cases e
      | some c' =>
        rw [e1, e2] at e
        cases e
        obtain ⟨q1, q2, q3⟩ := in_of h t e2
        obtain ⟨p1, p2, p3⟩ := flat_of h (RepW.ofRep h1) e1
        subst ev
        refine ⟨by simp [p2, q1], ?_, fun _ => p1⟩
        unfold inV at q2 ⊢
        rw [List.any_cons, p3, q2]
theorem flat_scalar {K : PySem.W.Frag} {CA : Nat → Addr} {Z : Addr → Prop} {H : Hp} {x : D} {v : V} (h : RepW K CA Z H x v) (e : scalar x = true) : flatV v = true := by
  cases x <;> (simp only [scalar, reduceCtorEq] at e) <;> (cases h; rfl)
theorem op_cmpEq (hK : X.K = G.K) (hu : X.A.units + 64 < cLine) : OpR X (compareOp .Eq) (rCmp G .eq) := by
  intro pins s0 σ0 H x y v u Q I rx ry h
  obtain ⟨Fr, s, σ, d1, d2, r, eH, hs, r1, r2, hb, f⟩ := h
  have hb : eqD d1 d2 = some r := hb
  unfold eqD at hb
  cases q : Ev.eqS d1 d2 with
  | some c =>
    rw [q] at hb
    cases hb
    obtain ⟨z1, z2⟩ := r1.eqS r2 q
    exact op_eq pins s0 σ0 _ _ _ v u Q I rx ry ⟨z1, by rw [z2]; exact f⟩
  | none =>
    rw [q] at hb
    cases p1 : d1.py with
    | none => rw [p1] at hb; cases hb
    | some a =>
      cases p2 : d2.py with
      | none => rw [p1, p2] at hb; cases hb
      | some b =>
        rw [p1, p2] at hb
        obtain ⟨c, rfl⟩ := chk_some hb
        simp only [Bool.and_eq_true] at c
        exact op_eqD hu pins s0 σ0 _ _ _ v u Q I rx ry ⟨a, b, hK ▸ r1.dp p1, hK ▸ r2.dp p2, c.1, c.2, f⟩
theorem op_cmpNe (hK : X.K = G.K) (hu : X.A.units + 64 < cLine) : OpR X (compareOp .NotEq) (rCmp G .ne) := by
  intro pins s0 σ0 H x y v u Q I rx ry h
  obtain ⟨Fr, s, σ, d1, d2, r, eH, hs, r1, r2, hb, f⟩ := h
  have hb0 : (eqD d1 d2).map (!·) = some r := hb
  clear hb
  obtain ⟨r', hb, rfl⟩ := Option.map_eq_some_iff.mp hb0
  unfold eqD at hb
  cases q : Ev.eqS d1 d2 with
  | some c =>
    rw [q] at hb
    cases hb
    obtain ⟨z1, z2⟩ := r1.eqS r2 q
    exact op_ne pins s0 σ0 _ _ _ v u Q I rx ry ⟨z1, by rw [z2]; exact f⟩
  | none =>
    rw [q] at hb
    cases p1 : d1.py with
    | none => rw [p1] at hb; cases hb
    | some a =>
      cases p2 : d2.py with
      | none => rw [p1, p2] at hb; cases hb
      | some b =>
        rw [p1, p2] at hb
        obtain ⟨c, rfl⟩ := chk_some hb
        simp only [Bool.and_eq_true] at c
        exact op_neD hu pins s0 σ0 _ _ _ v u Q I rx ry ⟨a, b, hK ▸ r1.dp p1, hK ▸ r2.dp p2, c.1, c.2, f⟩
theorem isN_ok {K : PySem.W.Frag} {CA : Nat → Addr} {Z : Addr → Prop} {H : Hp} {d : D} {v : V} {r : Bool} (h : RepW K CA Z H d v) (e : isN d = some r) : decide (v = .non) = r := by
  cases d with
  | non => cases e; cases h; rfl
  | bl _ => cases e; cases h; rfl
  | int _ => cases e; cases h; rfl
  | str _ => cases e; cases h; rfl
  | tup _ => cases e; obtain ⟨a, vs, rfl, _⟩ := h; rfl
  | lst _ => cases e; obtain ⟨a, vs, rfl, _⟩ := h; rfl
  | own _ => cases e; obtain ⟨a, vs, rfl, _⟩ := h; rfl
  | frz _ => cases e; obtain ⟨a, vs, rfl, _⟩ := h; rfl
  | ins _ _ => cases e; obtain ⟨a, o, vs, rfl, _⟩ := h; rfl
  | pk _ => cases e
  | cell _ => cases e
theorem op_cmp (hK : X.K = G.K) (hu : X.A.units + 64 < cLine) (o : Cop) : OpR X (compareOp (copOf o)) (rCmp G o) := by
  cases o with
  | eq => exact op_cmpEq hK hu
  | ne => exact op_cmpNe hK hu
  | lt =>
    intro pins s0 σ0 H x y v u Q I rx ry h
    obtain ⟨Fr, s, σ, d1, d2, r, eH, hs, r1, r2, hb, f⟩ := h
    cases d1 <;> cases d2 <;> first | cases hb | skip
    cases r1; cases r2
    exact op_lt pins s0 σ0 _ _ _ v u Q I rx ry ⟨_, _, rfl, rfl, f⟩
  | le =>
    intro pins s0 σ0 H x y v u Q I rx ry h
    obtain ⟨Fr, s, σ, d1, d2, r, eH, hs, r1, r2, hb, f⟩ := h
    cases d1 <;> cases d2 <;> first | cases hb | skip
    cases r1; cases r2
    exact op_le pins s0 σ0 _ _ _ v u Q I rx ry ⟨_, _, rfl, rfl, f⟩
  | gt =>
    intro pins s0 σ0 H x y v u Q I rx ry h
    obtain ⟨Fr, s, σ, d1, d2, r, eH, hs, r1, r2, hb, f⟩ := h
    cases d1 <;> cases d2 <;> first | cases hb | skip
    cases r1; cases r2
    exact op_gt pins s0 σ0 _ _ _ v u Q I rx ry ⟨_, _, rfl, rfl, f⟩
  | ge =>
    intro pins s0 σ0 H x y v u Q I rx ry h
    obtain ⟨Fr, s, σ, d1, d2, r, eH, hs, r1, r2, hb, f⟩ := h
    cases d1 <;> cases d2 <;> first | cases hb | skip
    cases r1; cases r2
    exact op_ge pins s0 σ0 _ _ _ v u Q I rx ry ⟨_, _, rfl, rfl, f⟩
  | isn =>
    intro pins s0 σ0 H x y v u Q I rx ry h
    obtain ⟨Fr, s, σ, d1, d2, r, eH, hs, r1, r2, hb, f⟩ := h
    have e2 : d2 = .non := by cases d1 <;> cases d2 <;> first | rfl | cases hb
    subst e2
    cases r2
    refine op_isN pins s0 σ0 _ _ _ v u Q I rx ry ⟨rfl, ?_⟩
    rw [isN_ok r1 hb]; exact f
  | notn =>
    intro pins s0 σ0 H x y v u Q I rx ry h
    obtain ⟨Fr, s, σ, d1, d2, r, eH, hs, r1, r2, hb, f⟩ := h
    have e2 : d2 = .non := by cases d1 <;> cases d2 <;> first | rfl | cases hb
    subst e2
    cases r2
    refine op_notN pins s0 σ0 _ _ _ v u Q I rx ry ⟨rfl, ?_⟩
    obtain ⟨r', hb1, rfl⟩ := Option.map_eq_some_iff.mp (show (isN d1).map (!·) = some r from hb)
    rw [isN_ok r1 hb1]; exact f
  | inn =>
    intro pins s0 σ0 H x y v u Q I rx ry h
    obtain ⟨Fr, s, σ, d1, d2, r, eH, hs, r1, r2, hb, f⟩ := h
    have hb : (match d2.seq with
      | some xs => if scalar d1 then inL d1 xs else none
      | none => none) = some r := by cases d1 <;> cases d2 <;> exact hb
    cases q : d2.seq with
    | none => rw [q] at hb; cases hb
    | some xs =>
      rw [q] at hb
      by_cases hsc : scalar d1 = true
      · have hb : (if scalar d1 then inL d1 xs else none) = some r := hb
        rw [if_pos hsc] at hb
        obtain ⟨a, vs, rfl, sq, t⟩ := r2.seq q
        obtain ⟨z1, z2, _⟩ := in_of r1 t hb
        exact op_in_seq pins s0 σ0 _ _ _ v u Q I rx ry ⟨a, vs, rfl, hK ▸ sq, flat_scalar r1 hsc, z1, by simp [z2]; exact f⟩
      · have hb : (if scalar d1 then inL d1 xs else none) = some r := hb
        rw [if_neg hsc] at hb
        cases hb
  | nin =>
    intro pins s0 σ0 H x y v u Q I rx ry h
    obtain ⟨Fr, s, σ, d1, d2, r, eH, hs, r1, r2, hb, f⟩ := h
    have hb : (match d2.seq with
      | some xs => if scalar d1 then (inL d1 xs).map (!·) else none
      | none => none) = some r := by cases d1 <;> cases d2 <;> exact hb
    cases q : d2.seq with
    | none => rw [q] at hb; cases hb
    | some xs =>
      rw [q] at hb
      by_cases hsc : scalar d1 = true
      · have hb : (if scalar d1 then (inL d1 xs).map (!·) else none) = some r := hb
        rw [if_pos hsc] at hb
        obtain ⟨r', hb1, rfl⟩ := Option.map_eq_some_iff.mp hb
        obtain ⟨a, vs, rfl, sq, t⟩ := r2.seq q
        obtain ⟨z1, z2, _⟩ := in_of r1 t hb1
        exact op_notIn_seq pins s0 σ0 _ _ _ v u Q I rx ry ⟨a, vs, rfl, hK ▸ sq, flat_scalar r1 hsc, z1, by simp [z2]; exact f⟩
      · have hb : (if scalar d1 then (inL d1 xs).map (!·) else none) = some r := hb
        rw [if_neg hsc] at hb
        cases hb
end
end Ev

end
section
set_option linter.all false
set_option maxRecDepth 100000
/-! Snd6: expressions put together. -/
namespace Ev
open PySem PySem.Spec PyProof.Rows L2

theorem Out.bind_assoc {α β γ : Type} (o : Out α) (f : α → Env → Store → Out β) (g : β → Env → Store → Out γ) : (o.bind f).bind g = o.bind fun a en st => (f a en st).bind g := by
  cases o <;> rfl
section
variable {G : Gm} {W : WX} {X : Cx} {T0 : Tab} {F : Fn} {a b c : Expr} {es : List Expr} {ia ib ic ir : E} {pos p1 p2 : Pos}
/-- one operand's value goes on -/
theorem R.bind {α β γ δ : Type} {rep : RepT α β} {rep2 : RepT γ δ} [RMon rep2] {f : Env → Store → Out α} {g : α → Env → Store → Out γ} {σ : L2.St} {H : Hp} {Q : δ → Hp → Prop} (h : R G W rep2 (fun en st => (f en st).bind g) σ H Q) :
    R G W rep f σ H fun b H1 => ∃ Fr s s1 a, s1.H = H1 ∧ SR G.K G.CA Fr s1 σ ∧ Ext s s1 σ σ ∧ rep Fr s s1 σ a b ∧ Post G W rep2 Fr s1 σ Q (g a s1.en s1.st) ∧ Post G W rep2 Fr s σ Q (g a s1.en s1.st) ∧ f s.en s.st = .ok a s1.en s1.st := by
  obtain ⟨Fr, s, eH, hs, p⟩ := h
  exact ⟨Fr, s, eH, hs, (Post.bind (rep := rep) p).imp fun b H1 ⟨s1, a, e, h1, x, r, p1, p2, q⟩ => ⟨Fr, s, s1, a, e, h1, x, r, p1, p2, q⟩⟩

/-! ### argument lists -/
theorem a_nil : PA X [] (rAs G W T0 F .nil) := PA.imp pa_nil fun σ H Q ⟨Fr, s, eH, hs, p⟩ => by
  subst eH
  exact p [] s rfl rfl hs Ext.refl ⟨[], rfl, rfl, hs⟩
theorem starEach_plain {e : Expr} (h : ∀ x p, e ≠ .Starred x p) (env : PySem.Env) : starEach (e :: es) env = (false, eval e env) :: starEach es env := by
  cases e <;> first | rfl | exact absurd rfl (h _ _)
/-- a value stays what it is while another is reckoned that keeps away from it -/
theorem RepV.keep {Fr : Addr → Prop} {base s1 s2 : ST} {σ : L2.St} {d : D} {v : V} (r : RepV G.K G.CA Fr base s1 σ d v) (x : Ext s1 s2 σ σ) (h2 : SR G.K G.CA (frOf Fr d v) s2 σ) : RepV G.K G.CA Fr base s2 σ d v := by
  cases d with
  | own xs =>
    obtain ⟨a, vs, rfl, e0, e1, n, r, z⟩ := r
    refine ⟨a, vs, rfl, e0, x.keep a _ e1 fun z => n (.inl z), fun q => q.elim (x.nwr (by rw [e1]; simp) fun z => n (.inl z)) fun q => n (.inr q), x.reps r, h2⟩
  | cell n =>
    obtain ⟨a, e, q⟩ := r
    obtain ⟨l, e2⟩ := x.pre
    exact ⟨a, e, by rw [e2, List.getElem?_append_left (List.getElem?_eq_some_iff.mp q).1]; exact q⟩
  | pk i => exact r
  | non => exact x.rep r
  | bl _ => exact x.rep r
  | int _ => exact x.rep r
  | str _ => exact x.rep r
  | tup _ => exact x.rep r
  | lst _ => exact x.rep r
  | frz _ => exact x.rep r
  | ins _ _ => exact x.rep r
/-- .. and from what is fresh behind it -/
theorem RepV.keepO {Fr : Addr → Prop} {base s1 s2 : ST} {σ : L2.St} {d : D} {v : V} {ds : List D} {vs : List V} (h1 : SR G.K G.CA Fr s1 σ) (r : RepV G.K G.CA Fr base s1 σ d v) (x : Ext s1 s2 σ σ) (t : RepVs G (frOf Fr d v) s1 s2 σ ds vs) : RepV G.K G.CA (FrO Fr ds vs) base s2 σ d v := by
  have on : ∀ b, Owns ds vs b → s1.H b = none := t.owns
  have kd : ∀ {Z : Addr → Prop} a u, s1.H a = some u → ¬ Av Z s1 σ a → s2.H a = some u ∧ ¬ Av (FrO Z ds vs) s2 σ a := fun {Z} a u e n => by
    refine ⟨x.keep a u e fun z => n (.inl z), fun z => ?_⟩
    rcases z with z | z | z
    · exact x.nwr (by rw [e]; simp) (fun z => n (.inl z)) z
    · exact n (.inr z)
    · rw [on a z] at e; cases e
  cases d with
  | own xs =>
    obtain ⟨a, ws, rfl, e0, e1, n, r, z⟩ := r
    obtain ⟨e2, n2⟩ := kd a _ e1 n
    refine ⟨a, ws, rfl, e0, e2, n2, Reps.mono (fun b u q n => ?_) _ _ r, t.srAll.less fun b z => ?_⟩
    · obtain ⟨q1, q2⟩ := kd b u q n
      exact ⟨q1, fun z => q2 (z.imp id fun z => z.elim (fun z => z.elim (fun z => .inl (.inl z)) .inr) fun z => .inl (.inr z))⟩
    · exact z.elim (fun z => z.elim (fun z => .inl (.inl z)) .inr) fun z => .inl (.inr z)
  | cell n =>
    obtain ⟨a, e, q⟩ := r
    obtain ⟨l, e2⟩ := x.pre
    exact ⟨a, e, by rw [e2, List.getElem?_append_left (List.getElem?_eq_some_iff.mp q).1]; exact q⟩
  | pk i => exact r
  | non => exact Rep.mono kd _ v r
  | bl _ => exact Rep.mono kd _ v r
  | int _ => exact Rep.mono kd _ v r
  | str _ => exact Rep.mono kd _ v r
  | tup _ => exact Rep.mono kd _ v r
  | lst _ => exact Rep.mono kd _ v r
  | frz _ => exact Rep.mono kd _ v r
  | ins _ _ => exact Rep.mono kd _ v r
theorem RepV.srOf {Fr : Addr → Prop} {base s1 : ST} {σ : L2.St} {d : D} {v : V} (r : RepV G.K G.CA Fr base s1 σ d v) (h : SR G.K G.CA Fr s1 σ) : SR G.K G.CA (frOf Fr d v) s1 σ := by
  cases d with
  | own xs => obtain ⟨a, vs, rfl, _, _, _, _, z⟩ := r; exact z
  | _ => exact h
theorem R.imp {α β : Type} {rep : RepT α β} {f : Env → Store → Out α} {σ : L2.St} {H : Hp} {Q Q' : β → Hp → Prop} (h : R G W rep f σ H Q) (k : ∀ b H, Q b H → Q' b H) : R G W rep f σ H Q' := by
  obtain ⟨Fr, s, e, hs, p⟩ := h
  exact ⟨Fr, s, e, hs, p.imp k⟩
theorem a_cons (ha : PE X a (rE G W T0 F ia)) (hr : PA X es (rAs G W T0 F ir)) (hs : ∀ x p, a ≠ .Starred x p) : PA X (a :: es) (rAs G W T0 F (.cons ia ir)) :=
  PA.imp (pa_cons ha hr (starEach_plain hs _)) fun σ H Q h => by
    refine (R.bind (rep := rV G) h).imp fun v H1 ⟨Fr, s, s1, d, e, h1, x1, r1, _, p1, _⟩ => ?_
    subst e
    refine ⟨frOf Fr d v, s1, rfl, r1.srOf h1, ?_⟩
    cases q : evalE T0 F ir s1.en s1.st with
    | bad => rw [q] at p1; exact p1.elim
    | exc c vs en st =>
      rw [q] at p1
      exact Post.later (rep := rA G) (Q := Q) (o := Out.exc c vs en st) p1 x1 (frOf.more d v)
    | ok r en st =>
      rw [q] at p1
      intro b s2 e1 e2 h2 x2 ⟨ds, er, rr⟩
      subst er
      exact p1 (v :: b) s2 e1 e2 (h2.less (frOf.more d v)) (x1.trans x2) ⟨d :: ds, rfl, v, b, rfl, RepV.keepO h1 r1 x2 rr, RepVs.mon x1 (fun _ z => z) rr⟩
theorem Rep.frOf {Z : Addr → Prop} {H : Hp} {Fr : Addr → Prop} {d : D} {v : V} (r : Rep G.K G.CA Z H d v) : frOf Fr d v = Fr := by
  cases d with
  | own xs => exact (show False from r).elim
  | _ => rfl
theorem Reps.owns {Z : Addr → Prop} {H : Hp} : ∀ {xs ds : List D} {vs ws : List V}, Reps G.K G.CA Z H xs vs → ∀ b, Owns (xs ++ ds) (vs ++ ws) b → Owns ds ws b
  | [], _, vs, _, r, b, o => by rw [show vs = [] from r] at o; exact o
  | x :: xs, ds, _, ws, ⟨v, r, e, h1, t⟩, b, o => by
    subst e
    rcases Owns_cons.mp o with o | o
    · cases x with
      | own _ => exact (show False from h1).elim
      | _ => exact o.elim
    · exact Reps.owns t b o
theorem RepVs.pre {Fr : Addr → Prop} {base s : ST} {σ : L2.St} {ds : List D} {ws : List V} (h : RepVs G Fr base s σ ds ws) : ∀ {xs : List D} {vs : List V}, Reps G.K G.CA (Av (FrO Fr ds ws) s σ) s.H xs vs → RepVs G Fr base s σ (xs ++ ds) (vs ++ ws)
  | [], vs, r => by rw [show vs = [] from r]; exact h
  | x :: xs, _, ⟨v, r, e, h1, t⟩ => by
    subst e
    refine ⟨v, r ++ ws, rfl, Rep.toV (Rep.mono (Av.less fun b z => z.imp id (Reps.owns t b)) _ _ h1), ?_⟩
    rw [Rep.frOf h1]
    exact RepVs.pre h t
theorem a_star (hK : X.K = G.K) (ha : PE X a (rE G W T0 F ia)) (hr : PA X es (rAs G W T0 F ir)) : PA X (.Starred a p1 :: es) (rAs G W T0 F (.star ia ir)) :=
  PA.imp (StX.pa_star ha hr rfl) fun σ H Q h => by
    refine (R.bind (rep := rV G) h).imp fun v H1 ⟨Fr, s, s1, d, e, h1, x1, r1, p1, _⟩ => ?_
    subst e
    obtain ⟨xs, q, p2⟩ := p1.ofB
    obtain ⟨p, vs, rfl, sq, rr⟩ := (r1.res h1 Ext.refl).seq q
    refine ⟨p, vs, rfl, hK ▸ sq.symm, Fr, s1, rfl, h1, (Post.bind (rep := rA G) p2).imp fun ws H2 ⟨s2, r, e, h2, x2, ⟨ds, er, r2⟩, p3, p4, _⟩ => ?_⟩
    subst e er
    exact p4 (vs ++ ws) s2 rfl rfl h2 x2 ⟨xs ++ ds, rfl, RepVs.pre r2 (Reps.mono (fun b u e n => ⟨x2.keep b u e fun z => n (.inl z), fun z => by
      rcases z with z | z | z
      · exact x2.nwr (by rw [e]; simp) (fun z => n (.inl z)) z
      · exact n (.inr z)
      · rw [r2.owns b z] at e; cases e⟩) _ _ rr)⟩
/-! ### displays -/
theorem e_tup {k : Nat} (h : PA X es (rAs G W T0 F ia)) : PE X (.Tuple es k pos) (rE G W T0 F (.tup ia)) :=
  PE.imp (pe_tup h) fun σ H Q h => by
    refine (R.bind (rep := rA G) h).imp fun vs H1 ⟨Fr, s, s1, d, e, h1, x1, ⟨ds, ed, rr⟩, p1, _⟩ => ?_
    subst e ed
    obtain ⟨d, q, p2⟩ := p1.of
    cases q1 : items ds with
    | none => rw [show listO (.tup ds) = ds from rfl, q1] at q; cases q
    | some xs =>
      rw [show listO (.tup ds) = ds from rfl, q1] at q
      obtain ⟨c, rfl⟩ := chk_some (show chk (decide (xs.length ≤ lim)) (D.tup xs) = some d from q)
      have r2 := rr.items q1
      exact ⟨by rw [r2.length, lim_eq]; exact of_decide_eq_true c, Fin.tup p2 h1 r2⟩
theorem e_lst (h : PA X es (rAs G W T0 F ia)) : PE X (.List es pos) (rE G W T0 F (.lst ia)) :=
  PE.imp (pe_lst h) fun σ H Q h => by
    refine (R.bind (rep := rA G) h).imp fun vs H1 ⟨Fr, s, s1, d, e, h1, x1, ⟨ds, ed, rr⟩, p1, _⟩ => ?_
    subst e ed
    obtain ⟨d, q, p2⟩ := p1.of
    cases q1 : items ds with
    | none => rw [show listO (.tup ds) = ds from rfl, q1] at q; cases q
    | some xs =>
      rw [show listO (.tup ds) = ds from rfl, q1] at q
      obtain ⟨c, rfl⟩ := chk_some (show chk (decide (xs.length ≤ lim)) (D.own xs) = some d from q)
      have r2 := rr.items q1
      exact ⟨by rw [r2.length, lim_eq]; exact of_decide_eq_true c, Fin.own p2 h1 r2⟩
/-! ### operators -/
theorem e_bin (hK : X.K = G.K) (o : Bop) (ha : PE X a (rE G W T0 F ia)) (hb : PE X b (rE G W T0 F ib)) : PE X (.BinOp a (bopOf o) b pos) (rE G W T0 F (.bin o ia ib)) :=
  PE.imp (pe_op (op_bin hK o) ha hb) fun σ H Q h => by
    refine (R.bind (rep := rV G) h).imp fun v H1 ⟨Fr, s, s1, d1, e, h1, x1, r1, p1, _⟩ => ?_
    subst e
    refine ⟨Fr, s1, rfl, h1, (Post.bind (rep := rV G) p1).imp fun w H2 ⟨s2, d2, e, h2, x2, r2, p2, _⟩ => ?_⟩
    subst e
    obtain ⟨d, q, p3⟩ := p2.of
    exact ⟨Fr, s2, σ, _, _, d, rfl, h2, r1.res h2 x2, r2.res h2 Ext.refl, q, p3⟩
theorem e_neg (ha : PE X a (rE G W T0 F ia)) : PE X (.UnaryOp .USub a pos) (rE G W T0 F (.neg ia)) :=
  PE.imp (pe_un un_neg ha) fun σ H Q h => by
    refine (R.bind (rep := rV G) h).imp fun v H1 ⟨Fr, s, s1, d1, e, h1, x1, r1, p1, _⟩ => ?_
    subst e
    obtain ⟨d, q, p3⟩ := p1.of
    cases d1 <;> first | (cases q; done) | skip
    cases q
    cases r1
    exact ⟨_, rfl, Fin.int p3 h1⟩
/-- a value that is asked for its truth -/
theorem Post.bool {α β : Type} {rep : RepT α β} {Fr : Addr → Prop} {s : ST} {σ : L2.St} {Q : β → Hp → Prop} {d : D} {en : Env} {st : Store} {g : Bool → Env → Store → Out α} (h : Post G W rep Fr s σ Q ((boolO d en st).bind g)) : ∃ b, d = .bl b ∧ Post G W rep Fr s σ Q (g b en st) := by
  cases d <;> first | exact ⟨_, rfl, h⟩ | exact h.elim
theorem e_not (ha : PE X a (rE G W T0 F ia)) : PE X (.UnaryOp .Not a pos) (rE G W T0 F (.not ia)) :=
  PE.imp (pe_not ha) fun σ H Q h => by
    refine (R.bind (rep := rV G) h).imp fun v H1 ⟨Fr, s, s1, d1, e, h1, x1, r1, p1, _⟩ => ?_
    subst e
    obtain ⟨c, rfl, p2⟩ := p1.bool
    exact ⟨c, r1, Fin.bl p2 h1⟩
theorem e_cmp (hK : X.K = G.K) (hu : X.A.units + 64 < cLine) (o : Cop) (hm : behindInMarks (copOf o) b = false) (ha : PE X a (rE G W T0 F ia)) (hb : PE X b (rE G W T0 F ib)) : PE X (.Compare a [copOf o] [b] pos) (rE G W T0 F (.cmp o ia ib)) :=
  PE.imp (pe_cmpR (op_cmp hK hu o) ha hb hm) fun σ H Q h => by
    refine (R.bind (rep := rV G) h).imp fun v H1 ⟨Fr, s, s1, d1, e, h1, x1, r1, p1, _⟩ => ?_
    subst e
    refine ⟨Fr, s1, rfl, h1, (Post.bind (rep := rV G) p1).imp fun w H2 ⟨s2, d2, e, h2, x2, r2, p2, _⟩ => ?_⟩
    subst e
    obtain ⟨d, q0, p3⟩ := p2.of
    obtain ⟨r, q, rfl⟩ := Option.map_eq_some_iff.mp q0
    exact ⟨Fr, s2, σ, _, _, r, rfl, h2, r1.res h2 x2, r2.res h2 Ext.refl, q, Fin.bl p3 h2⟩
theorem e_chain (hK : X.K = G.K) (hu : X.A.units + 64 < cLine) (o o' : Cop) (hm : lastMarks [copOf o, copOf o'] [b, c] = false) (ha : PE X a (rE G W T0 F ia)) (hb : PE X b (rE G W T0 F ib)) (hc : PE X c (rE G W T0 F ic)) :
    PE X (.Compare a [copOf o, copOf o'] [b, c] pos) (rE G W T0 F (.chain o o' ia ib ic)) :=
  PE.imp (pe_chain (op_cmp hK hu o) (op_cmp hK hu o') ha hb hc hm) fun σ H Q h => by
    refine (R.bind (rep := rV G) h).imp fun v H1 ⟨Fr, s, s1, d1, e, h1, x1, r1, p1, _⟩ => ?_
    subst e
    refine ⟨Fr, s1, rfl, h1, (Post.bind (rep := rV G) p1).imp fun w H2 ⟨s2, d2, e, h2, x2, r2, p2, _⟩ => ?_⟩
    subst e
    obtain ⟨k, q, p3⟩ := p2.ofB
    refine ⟨Fr, s2, σ, _, _, k, rfl, h2, r1.res h2 x2, r2.res h2 Ext.refl, q, k, rfl, ?_⟩
    cases k with
    | false => exact Fin.bl p3 h2
    | true =>
      refine ⟨Fr, s2, rfl, h2, (Post.bind (rep := rV G) p3).imp fun z H3 ⟨s3, d3, e, h3, x3, r3, p4, _⟩ => ?_⟩
      subst e
      obtain ⟨d, q0, p5⟩ := p4.of
      obtain ⟨r, q, rfl⟩ := Option.map_eq_some_iff.mp q0
      exact ⟨Fr, s3, σ, _, _, r, rfl, h3, r2.res h3 x3, r3.res h3 Ext.refl, q, Fin.bl p5 h3⟩
theorem e_and {rest : List Expr} (ha : PE X a (rE G W T0 F ia)) (hb : PE X (.BoolOp .And (b :: rest) pos) (rE G W T0 F ib)) : PE X (.BoolOp .And (a :: b :: rest) pos) (rE G W T0 F (.and ia ib)) :=
  PE.imp (pe_and ha hb) fun σ H Q h => by
    refine (R.bind (rep := rV G) h).imp fun v H1 ⟨Fr, s, s1, d1, e, h1, x1, r1, p1, _⟩ => ?_
    subst e
    obtain ⟨k, rfl, p2⟩ := p1.bool
    refine ⟨k, r1, ?_⟩
    cases k with
    | true => exact ⟨Fr, s1, rfl, h1, p2⟩
    | false => exact Fin.bl p2 h1
theorem e_or {rest : List Expr} (ha : PE X a (rE G W T0 F ia)) (hb : PE X (.BoolOp .Or (b :: rest) pos) (rE G W T0 F ib)) : PE X (.BoolOp .Or (a :: b :: rest) pos) (rE G W T0 F (.or ia ib)) :=
  PE.imp (pe_or ha hb) fun σ H Q h => by
    refine (R.bind (rep := rV G) h).imp fun v H1 ⟨Fr, s, s1, d1, e, h1, x1, r1, p1, _⟩ => ?_
    subst e
    obtain ⟨k, rfl, p2⟩ := p1.bool
    refine ⟨k, r1, ?_⟩
    cases k with
    | false => exact ⟨Fr, s1, rfl, h1, p2⟩
    | true => exact Fin.bl p2 h1
/-! ### tests -/
/-- an expression that is asked for its truth as it stands -/
def plainTest : Expr → Bool
  | .UnaryOp .Not _ _ => false
  | .BoolOp .. => false
  | .IfExp .. => false
  | .Compare .. => false
  | _ => true
theorem plainTest_ok {e : Expr} (h : plainTest e = true) : ∀ (env : PySem.Env) (whole : Sem Value), isTrue e env whole = (do let v ← whole; standAt e.pos; holding [v] (truthy v)) := by
  intro env whole
  cases e with
  | UnaryOp op x p => cases op <;> first | rfl | (exact absurd h (by simp [plainTest]))
  | _ => first | rfl | (exact absurd h (by simp [plainTest]))
theorem t_val {e : Expr} {i : E} (hp : plainTest e = true) (h : PE X e (rE G W T0 F i)) : PT X e (rT G W T0 F i) :=
  PT.imp (pt_val h (plainTest_ok hp X.env)) fun σ H Q h => by
    have h : R G W rB (fun en st => (evalE T0 F i en st).bind boolO) σ H Q := h
    refine (R.bind (rep := rV G) h).imp fun v H1 ⟨Fr, s, s1, d1, e, h1, x1, r1, p1, _⟩ => ?_
    subst e
    cases d1 <;> first | exact ⟨_, r1, p1 _ s1 rfl rfl h1 Ext.refl rfl⟩ | exact p1.elim
theorem t_not {i : E} (h : PT X a (rT G W T0 F i)) : PT X (.UnaryOp .Not a pos) (rT G W T0 F (.not i)) :=
  PT.imp (pt_not h) fun σ H Q h => by
    have h : R G W rB (fun en st => (evT T0 F i en st).bind fun b en st => .ok (!b) en st) σ H Q := by
      have e : evT T0 F (.not i) = fun en st => (evT T0 F i en st).bind fun b en st => .ok (!b) en st := by
        funext en st
        unfold evT
        show ((evalE T0 F i en st).bind _).bind boolO = _
        rw [Out.bind_assoc, Out.bind_assoc]
        congr 1
        funext x en st
        rw [Out.bind_assoc]; rfl
      rw [← e]; exact h
    refine (R.bind (rep := rB) h).imp fun v H1 ⟨Fr, s, s1, d1, e, h1, x1, r1, p1, _⟩ => ?_
    subst e
    cases r1
    exact p1 _ s1 rfl rfl h1 Ext.refl rfl
end
end Ev

end
section
set_option linter.all false
set_option maxRecDepth 100000
/-! Snd7: tests, subscripts. -/
namespace Ev
open PySem PySem.Spec PyProof.Rows L2
section
variable {G : Gm} {W : WX} {X : Cx} {T0 : Tab} {F : Fn} {a b c : Expr} {es : List Expr} {ia ib ic ir : E} {pos p1 p2 p3 p4 : Pos}
theorem R.congr {α β : Type} {rep : RepT α β} {f g : Env → Store → Out α} {σ : L2.St} {H : Hp} {Q : β → Hp → Prop} (h : R G W rep f σ H Q) (k : ∀ en st, f en st = g en st) : R G W rep g σ H Q := by
  obtain ⟨Fr, s, e, hs, p⟩ := h
  exact ⟨Fr, s, e, hs, by rw [← k]; exact p⟩
theorem evT_bind {i : E} {g : D → Env → Store → Out D} {f : Env → Store → Out D} (e : ∀ en st, evalE T0 F i en st = (f en st).bind g) (en : Env) (st : Store) : evT T0 F i en st = (f en st).bind fun d en st => (g d en st).bind boolO := by
  unfold evT
  rw [e, Out.bind_assoc]
theorem bool_bind {α : Type} (b : Bool) (en : Env) (st : Store) (g : Bool → Env → Store → Out α) : (boolO (.bl b) en st).bind g = g b en st := rfl
theorem evT_and (en : Env) (st : Store) : evT T0 F (.and ia ib) en st = (evT T0 F ia en st).bind fun k en st => if k then evT T0 F ib en st else .ok false en st := by
  unfold evT
  show ((evalE T0 F ia en st).bind _).bind boolO = _
  rw [Out.bind_assoc, Out.bind_assoc]
  congr 1
  funext x en st
  rw [Out.bind_assoc]
  congr 1
  funext k en st
  cases k <;> rfl
theorem evT_or (en : Env) (st : Store) : evT T0 F (.or ia ib) en st = (evT T0 F ia en st).bind fun k en st => if k then .ok true en st else evT T0 F ib en st := by
  unfold evT
  show ((evalE T0 F ia en st).bind _).bind boolO = _
  rw [Out.bind_assoc, Out.bind_assoc]
  congr 1
  funext x en st
  rw [Out.bind_assoc]
  congr 1
  funext k en st
  cases k <;> rfl
theorem t_and1 (ha : PT X a (rT G W T0 F ia)) : PW X (.BoolOp .And [a] pos) (rT G W T0 F ia) := pw_and1 ha
theorem t_or1 (ha : PT X a (rT G W T0 F ia)) : PW X (.BoolOp .Or [a] pos) (rT G W T0 F ia) := pw_or1 ha
theorem t_and {rest : List Expr} (ha : PT X a (rT G W T0 F ia)) (hb : PW X (.BoolOp .And (b :: rest) pos) (rT G W T0 F ib)) : PW X (.BoolOp .And (a :: b :: rest) pos) (rT G W T0 F (.and ia ib)) :=
  PW.imp (pw_and ha hb) fun σ H Q h => by
    have h : R G W rB (fun en st => (evT T0 F ia en st).bind fun k en st => if k then evT T0 F ib en st else .ok false en st) σ H Q := by
      exact h.congr evT_and
    refine (R.bind (rep := rB) h).imp fun v H1 ⟨Fr, s, s1, k, e, h1, x1, r1, p1, _⟩ => ?_
    subst e
    cases r1
    cases v with
    | true => exact ⟨Fr, s1, rfl, h1, p1⟩
    | false => exact p1 _ s1 rfl rfl h1 Ext.refl rfl
theorem t_or {rest : List Expr} (ha : PT X a (rT G W T0 F ia)) (hb : PW X (.BoolOp .Or (b :: rest) pos) (rT G W T0 F ib)) : PW X (.BoolOp .Or (a :: b :: rest) pos) (rT G W T0 F (.or ia ib)) :=
  PW.imp (pw_or ha hb) fun σ H Q h => by
    have h : R G W rB (fun en st => (evT T0 F ia en st).bind fun k en st => if k then .ok true en st else evT T0 F ib en st) σ H Q := by
      exact h.congr evT_or
    refine (R.bind (rep := rB) h).imp fun v H1 ⟨Fr, s, s1, k, e, h1, x1, r1, p1, _⟩ => ?_
    subst e
    cases r1
    cases v with
    | false => exact ⟨Fr, s1, rfl, h1, p1⟩
    | true => exact p1 _ s1 rfl rfl h1 Ext.refl rfl
/-- a test from a value's reading -/
theorem test_of {t : TE} {i : E} (k : ∀ σ H Q, rE G W T0 F i σ H Q → t σ H Q) (σ : L2.St) (H : Hp) (Q : Bool → Hp → Prop) (h : rT G W T0 F i σ H Q) : tTest t σ H Q := by
  refine k σ H _ ?_
  have h : R G W rB (fun en st => (evalE T0 F i en st).bind boolO) σ H Q := h
  refine (R.bind (rep := rV G) h).imp fun v H1 ⟨Fr, s, s1, d1, e, h1, x1, r1, p1, _⟩ => ?_
  subst e
  cases d1 <;> first | exact ⟨_, r1, p1 _ s1 rfl rfl h1 Ext.refl rfl⟩ | exact p1.elim
theorem cmp_imp {o : Cop} (σ : L2.St) (H : Hp) (Q : VK) (h : rE G W T0 F (.cmp o ia ib) σ H Q) : tOp (rCmp G o) (rE G W T0 F ia) (rE G W T0 F ib) σ H Q := by
  refine (R.bind (rep := rV G) h).imp fun v H1 ⟨Fr, s, s1, d1, e, h1, x1, r1, p1, _⟩ => ?_
  subst e
  refine ⟨Fr, s1, rfl, h1, (Post.bind (rep := rV G) p1).imp fun w H2 ⟨s2, d2, e, h2, x2, r2, p2, _⟩ => ?_⟩
  subst e
  obtain ⟨d, q0, p3⟩ := p2.of
  obtain ⟨r, q, rfl⟩ := Option.map_eq_some_iff.mp q0
  exact ⟨Fr, s2, σ, _, _, r, rfl, h2, r1.res h2 x2, r2.res h2 Ext.refl, q, Fin.bl p3 h2⟩
theorem t_cmp (hK : X.K = G.K) (hu : X.A.units + 64 < cLine) (o : Cop) (hm : behindInMarks (copOf o) b = false) (ha : PE X a (rE G W T0 F ia)) (hb : PE X b (rE G W T0 F ib)) : PT X (.Compare a [copOf o] [b] pos) (rT G W T0 F (.cmp o ia ib)) :=
  PT.imp (pt_cmpR (op_cmp hK hu o) ha hb hm) (test_of cmp_imp)
theorem chain_imp {o o' : Cop} (σ : L2.St) (H : Hp) (Q : VK) (h : rE G W T0 F (.chain o o' ia ib ic) σ H Q) : tChain (rCmp G o) (rCmp G o') (rE G W T0 F ia) (rE G W T0 F ib) (rE G W T0 F ic) σ H Q := by
  refine (R.bind (rep := rV G) h).imp fun v H1 ⟨Fr, s, s1, d1, e, h1, x1, r1, p1, _⟩ => ?_
  subst e
  refine ⟨Fr, s1, rfl, h1, (Post.bind (rep := rV G) p1).imp fun w H2 ⟨s2, d2, e, h2, x2, r2, p2, _⟩ => ?_⟩
  subst e
  obtain ⟨k, q, p3⟩ := p2.ofB
  refine ⟨Fr, s2, σ, _, _, k, rfl, h2, r1.res h2 x2, r2.res h2 Ext.refl, q, k, rfl, ?_⟩
  cases k with
  | false => exact Fin.bl p3 h2
  | true =>
    refine ⟨Fr, s2, rfl, h2, (Post.bind (rep := rV G) p3).imp fun z H3 ⟨s3, d3, e, h3, x3, r3, p4, _⟩ => ?_⟩
    subst e
    obtain ⟨d, q0, p5⟩ := p4.of
    obtain ⟨r, q, rfl⟩ := Option.map_eq_some_iff.mp q0
    exact ⟨Fr, s3, σ, _, _, r, rfl, h3, r2.res h3 x3, r3.res h3 Ext.refl, q, Fin.bl p5 h3⟩
theorem t_chain (hK : X.K = G.K) (hu : X.A.units + 64 < cLine) (o o' : Cop) (hm : lastMarks [copOf o, copOf o'] [b, c] = false) (ha : PE X a (rE G W T0 F ia)) (hb : PE X b (rE G W T0 F ib)) (hc : PE X c (rE G W T0 F ic)) :
    PT X (.Compare a [copOf o, copOf o'] [b, c] pos) (rT G W T0 F (.chain o o' ia ib ic)) :=
  PT.imp (pt_chain (op_cmp hK hu o) (op_cmp hK hu o') ha hb hc hm) (test_of chain_imp)
theorem evT_ite {α : Type} {en : Env} {st : Store} {g : Bool → Env → Store → Out α} : ((evalE T0 F ia en st).bind fun x en st => (boolO x en st).bind g) = (evT T0 F ia en st).bind g := by
  unfold evT
  rw [Out.bind_assoc]
theorem e_ite (hc : PT X c (rT G W T0 F ic)) (ha : PE X a (rE G W T0 F ia)) (hb : PE X b (rE G W T0 F ib)) : PE X (.IfExp c a b pos) (rE G W T0 F (.ite ic ia ib)) :=
  PE.imp (pe_ifExp hc ha hb) fun σ H Q h => by
    have h : R G W (rV G) (fun en st => (evT T0 F ic en st).bind fun k en st => if k then evalE T0 F ia en st else evalE T0 F ib en st) σ H Q := by
      exact h.congr fun en st => evT_ite
    refine (R.bind (rep := rB) h).imp fun v H1 ⟨Fr, s, s1, k, e, h1, x1, r1, p1, _⟩ => ?_
    subst e
    cases r1
    cases v with
    | true => exact ⟨Fr, s1, rfl, h1, p1⟩
    | false => exact ⟨Fr, s1, rfl, h1, p1⟩

/-! ### subscripts -/
theorem atI_reps {K : PySem.W.Frag} {CA : Nat → Addr} {Z : Addr → Prop} {H : Hp} {xs : List D} {vs : List V} {i : Int} {d : D} (r : Reps K CA Z H xs vs) (e : atI xs i = some d) : ∃ v, atI vs i = some v ∧ Rep K CA Z H d v := by
  unfold atI at e ⊢
  rw [r.length]
  cases q : ixN xs.length i with
  | none => rw [q] at e; cases e
  | some j =>
    rw [q] at e
    exact Reps.get r e
def plainIx : Expr → Bool
  | .Slice .. => false
  | _ => true
theorem plainIx_ok {e : Expr} (h : plainIx e = true) : PlainIx e := fun o i => by
  cases e <;> first | rfl | exact absurd h (by simp [plainIx])
def rIdx (G : Gm) : R2 := fun x y H Q => ∃ Fr s σ d1 d2 d, s.H = H ∧ SR G.K G.CA Fr s σ ∧ RepW G.K G.CA (Av Fr s σ) H d1 x ∧ RepW G.K G.CA (Av Fr s σ) H d2 y ∧ idxD d1 d2 = some d ∧ Fin G Fr s σ d Q
theorem ix_any (hK : X.K = G.K) : IxR X (rIdx G) := by
  intro value slice pins s0 σ0 H x y v u Q I rx ry h hsub
  obtain ⟨Fr, s, σ, d1, d2, d, eH, hs, r1, r2, hb, f⟩ := h
  subst eH
  cases d2 with
  | int i =>
    cases r2
    have sq : ∀ xs, d1.seq = some xs → atI xs i = some d → wpAny (model X.prog X.w) X.A (subscriptTail value slice v u) (EP X pins σ0 Q) X.xe s0 := fun xs q e => by
      obtain ⟨p, vs, rfl, sq, t⟩ := r1.seq q
      obtain ⟨w, e2, r⟩ := atI_reps t e
      refine ix_seq value slice pins s0 σ0 _ _ _ v u Q I rx ry ?_ hsub
      rcases sq with sq | sq
      · exact .inl ⟨p, vs, i, w, rfl, rfl, hK ▸ sq, e2, f.old hs r⟩
      · exact .inr (.inl ⟨p, vs, i, w, rfl, rfl, hK ▸ sq, e2, f.old hs r⟩)
    cases d1 with
    | str z =>
      cases r1
      have hb : (match atI z.cps.toList i with
        | some c => chk (decide (z.length ≤ lim)) (D.str ⟨#[c]⟩)
        | none => none) = some d := hb
      cases q : atI z.cps.toList i with
      | none => rw [q] at hb; cases hb
      | some c =>
        rw [q] at hb
        obtain ⟨k, rfl⟩ := chk_some (show chk _ _ = some d from hb)
        exact ix_seq value slice pins s0 σ0 _ _ _ v u Q I rx ry (.inr (.inr ⟨z, i, c, rfl, rfl, by rw [lim_eq]; exact of_decide_eq_true k, q, f.str hs⟩)) hsub
    | tup xs => exact sq xs rfl hb
    | lst xs => exact sq xs rfl hb
    | own xs => exact sq xs rfl hb
    | frz xs => exact sq xs rfl hb
    | non => cases hb
    | bl _ => cases hb
    | int _ => cases hb
    | pk _ => cases hb
    | cell _ => cases hb
    | ins _ _ => cases hb
  | _ => cases hb
theorem res_int {en : Env} {st : Store} {d : D} {b : D} {x : D} (h : idxD x d = some b) : res d en st = d := by
  cases d <;> first | rfl | (cases h; done)
theorem e_idx (hK : X.K = G.K) (hp : plainIx b = true) (ha : PE X a (rE G W T0 F ia)) (hb : PE X b (rE G W T0 F ib)) : PE X (.Subscript a b pos) (rE G W T0 F (.idx ia ib)) :=
  PE.imp (pe_ix (ix_any hK) ha hb (plainIx_ok hp)) fun σ H Q h => by
    refine (R.bind (rep := rV G) h).imp fun v H1 ⟨Fr, s, s1, d1, e, h1, x1, r1, p1, _⟩ => ?_
    subst e
    refine ⟨Fr, s1, rfl, h1, (Post.bind (rep := rV G) p1).imp fun w H2 ⟨s2, d2, e, h2, x2, r2, p2, _⟩ => ?_⟩
    subst e
    obtain ⟨d, q, p3⟩ := p2.of
    refine ⟨Fr, s2, σ, _, d2, d, rfl, h2, r1.res h2 x2, ?_, q, p3⟩
    have := r2.res h2 Ext.refl
    rw [res_int q] at this
    exact this
def rSl (G : Gm) : V → Option Int → Option Int → Hp → VK → Prop := fun x lo hi H Q => ∃ Fr s σ d1 d, s.H = H ∧ SR G.K G.CA Fr s σ ∧ RepW G.K G.CA (Av Fr s σ) H d1 x ∧ sliceD d1 lo hi = some d ∧ Fin G Fr s σ d Q
theorem cut_reps {K : PySem.W.Frag} {CA : Nat → Addr} {Z : Addr → Prop} {H : Hp} {xs : List D} {vs : List V} (r : Reps K CA Z H xs vs) (lo hi : Option Int) : Reps K CA Z H (cut xs lo hi) (cutV vs lo hi) := by
  unfold cut cutV
  rw [r.length]
  exact (r.drop _).take _
theorem cut_whole {xs : List D} {lo hi : Option Int} (h : HT.sIx xs.length 0 lo = 0 ∧ HT.sIx xs.length xs.length hi = xs.length) : cut xs lo hi = xs := by
  unfold cut
  rw [h.1, h.2]
  simp
theorem sl_any (hK : X.K = G.K) : SlR X (rSl G) := by
  intro pins s0 σ0 H x v vl vu lo hi sl Q I rx hsl pl pu h
  obtain ⟨Fr, s, σ, d1, d, eH, hs, r1, hb, f⟩ := h
  subst eH
  have lst : ∀ xs, d1.seqL = some xs → some (D.own (cut xs lo hi)) = some d → ∃ T id, typeLookup (.type T) "__getitem__" = pure (some (.builtin id)) ∧ s0.TypeIs v T ∧ wpAny (model X.prog X.w) X.A (getItem v (.ref sl)) (EP X pins σ0 Q) X.xe s0 := fun xs q e => by
    cases e
    obtain ⟨p, vs, ev, sq, t⟩ := r1.seqL q
    subst ev
    exact sl_list pins s0 σ0 _ _ v vl vu lo hi sl Q I rx hsl pl pu ⟨p, vs, rfl, hK ▸ sq, f.own hs (cut_reps t lo hi)⟩
  cases d1 with
  | str z =>
    cases r1
    obtain ⟨k, rfl⟩ := chk_some (show chk (decide (z.length ≤ lim)) (D.str (L2.cutS z lo hi)) = some d from hb)
    exact sl_str pins s0 σ0 _ _ v vl vu lo hi sl Q I rx hsl pl pu ⟨z, rfl, by rw [lim_eq]; exact of_decide_eq_true k, f.str hs⟩
  | tup xs =>
    cases hb
    obtain ⟨p, vs, rfl, sq, t, r⟩ := r1.seqT rfl
    refine sl_tupA pins s0 σ0 _ _ v vl vu lo hi sl Q I rx hsl pl pu ⟨p, vs, rfl, hK ▸ sq, fun z => ?_, fun _ => f.tup hs (cut_reps r lo hi)⟩
    rw [r.length] at z
    rw [cut_whole z] at f
    exact f.tupOld hs ⟨p, vs, rfl, t, r⟩
  | lst xs => exact lst xs rfl hb
  | own xs => exact lst xs rfl hb
  | frz xs => exact lst xs rfl hb
  | non => cases hb
  | bl _ => cases hb
  | int _ => cases hb
  | pk _ => cases hb
  | cell _ => cases hb
  | ins _ _ => cases hb
/-- a bound of a slice -/
inductive Bound (X : Cx) (G : Gm) (W : WX) (T0 : Tab) (F : Fn) : Option Expr → E → Prop where
  | no : Bound X G W T0 F none .no
  | one {e : Expr} {i : E} : i ≠ .no → PE X e (rE G W T0 F i) → Bound X G W T0 F (some e) i
/-- its reading -/
def tBd (G : Gm) (W : WX) (T0 : Tab) (F : Fn) : Option Expr → E → TO
  | none, _ => tNoPart
  | some _, i => tPart (rE G W T0 F i)
theorem Bound.po {e : Option Expr} {i : E} (h : Bound X G W T0 F e i) : PO X e (tBd G W T0 F e i) := by
  cases h with
  | no => exact po_none
  | one _ h => exact po_some h
theorem bound_int {i : E} {d : D} {o : Option Int} (n : i ≠ .no) (h : bound i d = some o) : ∃ k, d = .int k ∧ o = some k := by
  unfold bound at h
  split at h
  · exact absurd rfl n
  · cases h; exact ⟨_, rfl, rfl⟩
  · cases h
/-- a bound's reckoning goes on -/
theorem Bound.go {e : Option Expr} {i : E} (h : Bound X G W T0 F e i) {γ δ : Type} {rep2 : RepT γ δ} [RMon rep2] {Fr : Addr → Prop} {s : ST} {σ : L2.St} {Q : δ → Hp → Prop} {g : Option Int → Env → Store → Out γ} (hs : SR G.K G.CA Fr s σ)
    (p : Post G W rep2 Fr s σ Q ((evalE T0 F i s.en s.st).bind fun l en st => (Out.of (bound i l) en st).bind g)) {Qo : Option Int → Hp → Prop}
    (k : ∀ (o : Option Int) (s1 : ST), SR G.K G.CA Fr s1 σ → Ext s s1 σ σ → Post G W rep2 Fr s1 σ Q (g o s1.en s1.st) → Qo o s1.H) : tBd G W T0 F e i σ s.H Qo := by
  cases h with
  | no => exact k none s hs Ext.refl p
  | one n h =>
    refine ⟨Fr, s, rfl, hs, (Post.bind (rep := rV G) p).imp fun v H1 ⟨s1, d, e1, h1, x1, r1, p1, _⟩ => ?_⟩
    subst e1
    obtain ⟨o, q, p2⟩ := p1.ofB
    obtain ⟨j, rfl, rfl⟩ := bound_int n q
    exact ⟨j, r1, k (some j) s1 h1 x1 p2⟩
theorem e_slice {lo hi : Option Expr} {il ih : E} (hK : X.K = G.K) (ha : PE X a (rE G W T0 F ia)) (hl : Bound X G W T0 F lo il) (hh : Bound X G W T0 F hi ih) : PE X (.Subscript a (.Slice lo hi none p2) pos) (rE G W T0 F (.slice ia il ih)) :=
  PE.imp (pe_slice (sl_any hK) ha hl.po hh.po) fun σ H Q h => by
    refine (R.bind (rep := rV G) h).imp fun v H1 ⟨Fr, s, s1, d1, e, h1, x1, r1, p1, _⟩ => ?_
    subst e
    refine hl.go h1 p1 fun l s2 h2 x2 p2 => hh.go h2 p2 fun h s3 h3 x3 p3 => ?_
    obtain ⟨d, q, p4⟩ := p3.of
    exact ⟨Fr, s3, σ, _, d, rfl, h3, r1.res h3 (x2.trans x3), q, p4⟩
theorem e_rev {k : Nat} {p5 : Pos} (hK : X.K = G.K) (ha : PE X a (rE G W T0 F ia)) : PE X (.Subscript a (.Slice none none (some (.UnaryOp .USub (.Constant (.int 1) k p1) p2)) p3) pos) (rE G W T0 F (.rev ia)) :=
  PE.imp (pe_revL ha) fun σ H Q h => by
    refine (R.bind (rep := rV G) h).imp fun v H1 ⟨Fr, s, s1, d1, e, h1, x1, r1, p1, _⟩ => ?_
    subst e
    obtain ⟨d, q, p3⟩ := p1.of
    have r2 := r1.res h1 Ext.refl
    cases q1 : (res d1 s1.en s1.st).seqL with
    | none =>
      unfold revD at q
      rw [q1] at q
      cases q
    | some xs =>
      unfold revD at q
      rw [q1] at q
      cases q
      obtain ⟨a, vs, rfl, sq, t⟩ := r2.seqL q1
      exact ⟨a, vs, rfl, hK ▸ sq, Fin.own p3 h1 t.reverse⟩
end
end Ev

end
section
set_option linter.all false
set_option maxRecDepth 100000
/-! Snd8: what is walked; comprehensions. -/
namespace Ev
open PySem PySem.Spec PyProof.Rows L2
section
variable {G : Gm} {W : WX} {X : Cx} {T0 : Tab} {F : Fn} {tg a b c : Expr} {es : List Expr} {ia ib ic ir : E} {pos p1 p2 p3 p4 : Pos}
theorem PI.imp {w w' : TI} (h : PI X tg a w) (k : ∀ σ H R, w' σ H R → w σ H R) : PI X tg a w' := ⟨fun p s σ H R I q => h.run p s σ H R I (k σ H R q)⟩
theorem PI.or {w w' : TI} (h : PI X tg a w) (h' : PI X tg a w') : PI X tg a (fun σ H R => w σ H R ∨ w' σ H R) := ⟨fun p s σ H R I q => q.elim (h.run p s σ H R I) (h'.run p s σ H R I)⟩
/-- an iterator goes through these data, whatever happens to what may be written -/
def Walks (G : Gm) (Fr : Addr → Prop) (s : ST) (σ : L2.St) (ds : List D) (J : It) : Prop :=
  ∀ (H1 : Hp) (Z : Addr → Prop), (∀ a u, s.H a = some u → ¬ Av Fr s σ a → H1 a = some u ∧ ¬ Z a) → (∀ a, Z a → H1 a ≠ none) → ∀ i : Nat, (ds.length ≤ i → J.stop i H1) ∧
    ∀ d, ds[i]? = some d → J.go i H1 ∧ ∀ x H', J.yld i H1 x H' → (H' = H1 ∨ ∃ p o, H1 p = none ∧ H' = upd H1 p o) ∧ Rep G.K G.CA Z H' d x
/-- lists and tuples are no longer than can be -/
def HLen (H : Hp) : Prop := (∀ a xs, H a = some (.lst xs) → xs.length ≤ sizeLine) ∧ (∀ a xs, H a = some (.tup xs) → xs.length ≤ sizeLine) ∧ ∀ a o xs, H a = some (.frz o (.lst xs)) → xs.length ≤ sizeLine
theorem FrzAt.len {K : PySem.W.Frag} {Z : Addr → Prop} {H : Hp} {a : Addr} {vs : List V} (h : FrzAt K Z H a vs) (hl : HLen H) : vs.length ≤ sizeLine := by
  rcases h with ⟨_, o, h⟩ | ⟨o, its, n, _, _, _, _, z, rv⟩
  · exact hl.2.2 a o vs h
  · have := rv.length
    simp only [Array.length_toList] at this
    omega
theorem Inv.hlen {pins : List (Addr × Obj)} {σ : L2.St} {H : Hp} {s : Shared} (I : L2.Inv X pins σ H s) : HLen H :=
  ⟨fun a xs e => (I.hok a _ e).1, fun a xs e => (I.hok a _ e).1, fun a o xs e => (I.hok a _ e).2.1⟩
theorem PI.len {w : TI} (h : PI X tg a w) : PI X tg a (fun σ H R => w σ H fun J H1 => HLen H1 → R J H1) := ⟨fun p s σ H R I q => thn (h.run p s σ H _ I q) fun v s1 q1 => thn q1 fun it s2 ⟨i, fp, tn, J, H', e, I', T, t, f, r⟩ => ⟨i, fp, tn, J, H', e, I', T, t, f, r (Inv.hlen I')⟩⟩
def rI (G : Gm) : RepT (List D) It := fun Fr _ s σ ds J => Walks G Fr s σ ds J ∧ (HLen s.H → ds.length ≤ lim)
instance : RMon (rI G) := ⟨fun k _ r => ⟨fun H1 Z h1 h2 i => r.1 H1 Z (fun a u e n => h1 a u e fun z => n (z.imp id (k a))) h2 i, r.2⟩⟩
abbrev RI (G : Gm) (W : WX) (f : Env → Store → Out (List D)) : TI := R G W (rI G) f
/-- what is walked by an expression of E -/
def evI (T0 : Tab) (F : Fn) (i : E) (en : Env) (st : Store) : Out (List D) := (evalE T0 F i en st).bind fun d en st => .of (iterD d) en st
abbrev rIt (G : Gm) (W : WX) (T0 : Tab) (F : Fn) (i : E) : TI := RI G W (evI T0 F i)

theorem walks_list {Fr : Addr → Prop} {s : ST} {σ : L2.St} {ds : List D} {a : Addr} {vs : List V} (e : ∀ (H1 : Hp) (Z : Addr → Prop), (∀ b u, s.H b = some u → ¬ Av Fr s σ b → H1 b = some u ∧ ¬ Z b) → SqL G.K H1 a vs) (r : Reps G.K G.CA (Av Fr s σ) s.H ds vs) : Walks G Fr s σ ds (Itl G.K a) := by
  intro H1 Z h1 h2 i
  have e1 : SqL G.K H1 a vs := e H1 Z h1
  have r1 : Reps G.K G.CA Z H1 ds vs := Reps.mono h1 _ _ r
  refine ⟨fun h => ⟨vs, e1, by rw [r.length]; exact h⟩, fun d hd => ?_⟩
  obtain ⟨v, hv, rv⟩ := r1.get hd
  refine ⟨⟨vs, v, e1, hv⟩, fun x H' ⟨eH, q⟩ => ?_⟩
  subst eH
  have : x = v := by
    have := q vs e1
    rw [hv] at this
    exact (Option.some.inj this).symm
  rw [this]
  exact ⟨.inl rfl, rv⟩
theorem walks_tup {Fr : Addr → Prop} {s : ST} {σ : L2.St} {ds : List D} {a : Addr} {vs : List V} (t : TupAt G.K (Av Fr s σ) s.H a vs) (r : Reps G.K G.CA (Av Fr s σ) s.H ds vs) : Walks G Fr s σ ds (Itt G.K a) := by
  intro H1 Z h1 h2 i
  have e1 : SqT G.K H1 a vs := by
    rcases t with ⟨n, e⟩ | t
    · exact .inl (.inl (h1 a _ e n).1)
    · exact .inr t
  have r1 : Reps G.K G.CA Z H1 ds vs := Reps.mono h1 _ _ r
  refine ⟨fun h => ⟨vs, e1, by rw [r.length]; exact h⟩, fun d hd => ?_⟩
  obtain ⟨v, hv, rv⟩ := r1.get hd
  refine ⟨⟨vs, v, e1, hv⟩, fun x H' ⟨eH, q⟩ => ?_⟩
  subst eH
  have : x = v := by
    have := q vs e1
    rw [hv] at this
    exact (Option.some.inj this).symm
  rw [this]
  exact ⟨.inl rfl, rv⟩
theorem walks_str {Fr : Addr → Prop} {s : ST} {σ : L2.St} (z : Str) : Walks G Fr s σ (z.cps.toList.map fun c => .str ⟨#[c]⟩) (Its z) := by
  intro H1 Z h1 h2 i
  refine ⟨fun h => ?_, fun d hd => ?_⟩
  · show z.cps.size ≤ i
    simpa using h
  · rw [List.getElem?_map] at hd
    cases q : z.cps.toList[i]? with
    | none => rw [q] at hd; cases hd
    | some c =>
      rw [q] at hd
      have q2 : z.cps[i]? = some c := by simpa using q
      have hi : i < z.cps.size := by
        have := (Array.getElem?_eq_some_iff.mp q2).1
        exact this
      refine ⟨hi, fun x H' ⟨eH, c', q3, ex⟩ => ?_⟩
      subst eH
      rw [q2] at q3
      cases q3
      cases hd
      rw [ex]
      exact ⟨.inl rfl, rfl⟩
theorem i_any (hK : X.K = G.K) (ha : PE X a (rE G W T0 F ia)) : PI X tg a (rIt G W T0 F ia) :=
  PI.imp (PI.or (pi_list ha) (PI.or (pi_tup ha) (pi_str ha))) fun σ H Rk ⟨Fr, s, eH, hs, p⟩ => by
    subst eH
    have p : Post G W (rI G) Fr s σ Rk ((evalE T0 F ia s.en s.st).bind fun d en st => .of (iterD d) en st) := p
    have go : ∀ {Q : VK}, (∀ (s1 : ST) (d : D) (v : V), SR G.K G.CA Fr s1 σ → Ext s s1 σ σ → RepV G.K G.CA Fr s s1 σ d v → (∃ en st, evalE T0 F ia s.en s.st = .ok d en st) → Post G W (rI G) Fr s1 σ Rk (.of (iterD d) s1.en s1.st) → Q v s1.H) → rE G W T0 F ia σ s.H Q := fun {Q} k => by
      refine ⟨Fr, s, rfl, hs, ?_⟩
      cases q : evalE T0 F ia s.en s.st with
      | bad => rw [q] at p; exact p.elim
      | exc c vs en st => rw [q] at p; exact p
      | ok d en st =>
        rw [q] at p
        intro v s1 e1 e2 h1 x1 r1
        subst e1 e2
        exact k s1 d v h1 x1 r1 ⟨_, _, q⟩ (Post.later p x1 fun _ z => z)
    cases q : evalE T0 F ia s.en s.st with
    | bad => rw [q] at p; exact p.elim
    | exc c vs en st =>
      refine .inl (go fun s1 d v h1 x1 r1 ⟨en', st', q'⟩ p1 => ?_)
      rw [q] at q'; cases q'
    | ok d en st =>
      have lst : ∀ xs, iterD d = some xs → (d = .lst xs ∨ d = .own xs ∨ d = .frz xs) → iList X.K (rE G W T0 F ia) σ s.H Rk := fun xs e1 e2 => go fun s1 d' v h1 x1 r1 ⟨en', st', q'⟩ p1 => by
        rw [q] at q'
        cases q'
        rw [e1] at p1
        have fin : ∀ a, v = .ref a → Walks G Fr s1 σ xs (Itl G.K a) → (∃ zs, SqL G.K s1.H a zs ∧ Reps G.K G.CA (Av Fr s1 σ) s1.H xs zs ∧ (HLen s1.H → zs.length ≤ sizeLine)) → ∃ a, v = .ref a ∧ (∃ zs, SqL X.K s1.H a zs) ∧ Rk (Itl X.K a) s1.H := fun a ev w ⟨zs, z1, z2, z3⟩ =>
          ⟨a, ev, ⟨zs, hK ▸ z1⟩, by rw [hK]; exact Post.here p1 h1 ⟨w, fun hl => by rw [← lim_eq, ← z2.length]; exact z3 hl⟩⟩
        rcases e2 with e2 | e2 | e2
        · subst e2
          obtain ⟨a, vs, ev, n, e3, r⟩ := r1
          exact fin a ev (walks_list (fun H1 Z k => SqL.of (k a _ e3 n).1) r) ⟨vs, SqL.of e3, r, fun hl => hl.1 a vs e3⟩
        · subst e2
          obtain ⟨a, vs, ev, _, e3, n, r, _⟩ := r1
          have r' := Reps.mono (Av.less fun b z => Or.inl z) _ _ r
          exact fin a ev (walks_list (fun H1 Z k => SqL.of (k a _ e3 n).1) r') ⟨vs, SqL.of e3, r', fun hl => hl.1 a vs e3⟩
        · subst e2
          obtain ⟨a, vs, ev, e3, r⟩ := r1
          exact fin a ev (walks_list (fun H1 Z k => (e3.mono k).sq) r) ⟨vs, e3.sq, r, e3.len⟩
      cases d with
      | lst xs => exact .inl (lst xs rfl (.inl rfl))
      | own xs => exact .inl (lst xs rfl (.inr (.inl rfl)))
      | frz xs => exact .inl (lst xs rfl (.inr (.inr rfl)))
      | tup xs =>
        refine .inr (.inl (go fun s1 d' v h1 x1 r1 ⟨en', st', q'⟩ p1 => ?_))
        rw [q] at q'
        cases q'
        obtain ⟨a, vs, ev, t, r⟩ := r1
        have hz : HLen s1.H → xs.length ≤ lim := fun hl => by
          rw [← lim_eq, ← r.length]
          rcases t with ⟨_, t⟩ | ⟨o, its, n, _, _, _, z, rv⟩
          · exact hl.2.1 a vs t
          · have := rv.length
            simp only [Array.length_toList] at this
            omega
        exact ⟨a, ev, ⟨vs, hK ▸ t.sq⟩, by rw [hK]; exact Post.here (a := xs) p1 h1 ⟨walks_tup t r, hz⟩⟩
      | str z =>
        refine .inr (.inr (go fun s1 d' v h1 x1 r1 ⟨en', st', q'⟩ p1 => ?_))
        rw [q] at q'
        cases q'
        obtain ⟨ds, q2, p2⟩ := p1.of
        obtain ⟨k, rfl⟩ := chk_some (show chk (decide (z.length ≤ lim)) (z.cps.toList.map fun c => D.str ⟨#[c]⟩) = some ds from q2)
        refine ⟨z, r1, Post.here (a := z.cps.toList.map fun c => D.str ⟨#[c]⟩) p2 h1 ⟨walks_str z, fun _ => ?_⟩⟩
        rw [List.length_map]
        have := of_decide_eq_true k
        simpa [Str.length] using this
      | non => rw [q] at p; exact p.elim
      | bl _ => rw [q] at p; exact p.elim
      | int _ => rw [q] at p; exact p.elim
      | pk _ => rw [q] at p; exact p.elim
      | cell _ => rw [q] at p; exact p.elim
      | ins _ _ => rw [q] at p; exact p.elim

/-! ### ranges, zip, enumerate -/
theorem walks_rng {Fr : Addr → Prop} {s : ST} {σ : L2.St} (lo c : Int) (n : Nat) {J : It} (h1 : ∀ i H, n ≤ i → J.stop i H) (h2 : ∀ i H, i < n → J.go i H) (h3 : ∀ i H x H', J.yld i H x H' → H' = H ∧ x = .int (lo + (i : Nat) * c)) : Walks G Fr s σ (rng lo n c) J := by
  intro H1 Z _ _ i
  have hl : (rng lo n c).length = n := by simp [rng]
  refine ⟨fun h => h1 i H1 (by rw [← hl]; exact h), fun d hd => ?_⟩
  have hi : i < n := by rw [← hl]; exact (List.getElem?_eq_some_iff.mp hd).1
  refine ⟨h2 i H1 hi, fun x H' y => ?_⟩
  obtain ⟨e1, e2⟩ := h3 i H1 x H' y
  subst e1 e2
  refine ⟨.inl rfl, ?_⟩
  have : d = .int (lo + (i : Int) * c) := by
    unfold rng at hd
    rw [List.getElem?_map, List.getElem?_range hi] at hd
    exact (Option.some.inj hd).symm
  rw [this]
  rfl
theorem rng_len (lo c : Int) (n : Nat) : (rng lo n c).length = n := by simp [rng]
theorem ev_rng (en : Env) (st : Store) : evI T0 F (.rng ia) en st = (evalE T0 F ia en st).bind fun r en st => (Out.of (rngL (listO r)) en st).bind fun d en st => .of (iterD d) en st := by
  show ((evalE T0 F ia en st).bind _).bind _ = _
  rw [Out.bind_assoc]
theorem ev_zip (en : Env) (st : Store) : evI T0 F (.zip ia) en st = (evalE T0 F ia en st).bind fun r en st => (Out.of (zipL (listO r)) en st).bind fun d en st => .of (iterD d) en st := by
  show ((evalE T0 F ia en st).bind _).bind _ = _
  rw [Out.bind_assoc]
theorem ev_enum (en : Env) (st : Store) : evI T0 F (.enum ia) en st = (evalE T0 F ia en st).bind fun r en st => (Out.of (enumL (listO r)) en st).bind fun d en st => .of (iterD d) en st := by
  show ((evalE T0 F ia en st).bind _).bind _ = _
  rw [Out.bind_assoc]
theorem RepVs.one {Fr : Addr → Prop} {base s : ST} {σ : L2.St} {d : D} {vs : List V} (r : RepVs G Fr base s σ [d] vs) : ∃ v, vs = [v] ∧ RepV G.K G.CA Fr base s σ d v := by
  obtain ⟨v, r, e, rv, e0, _⟩ := r
  subst e0
  exact ⟨v, e, rv.mon (fun _ z => .inl z) Ext.refl⟩
theorem RepVs.two {Fr : Addr → Prop} {base s : ST} {σ : L2.St} {d d2 : D} {vs : List V} (r : RepVs G Fr base s σ [d, d2] vs) : ∃ v w, vs = [v, w] ∧ RepV G.K G.CA Fr base s σ d v ∧ RepV G.K G.CA Fr base s σ d2 w := by
  obtain ⟨v, r, e, rv, w, r2, e2, rw', e0, _⟩ := r
  subst e0 e2
  exact ⟨v, w, e, rv.mon (fun _ z => .inl z) Ext.refl, rw'.mon (fun a z => .inl (frOf.more d v a z)) Ext.refl⟩
theorem RepVs.three {Fr : Addr → Prop} {base s : ST} {σ : L2.St} {d d2 d3 : D} {vs : List V} (r : RepVs G Fr base s σ [d, d2, d3] vs) : ∃ v w u, vs = [v, w, u] ∧ RepV G.K G.CA Fr base s σ d v ∧ RepV G.K G.CA Fr base s σ d2 w ∧ RepV G.K G.CA Fr base s σ d3 u := by
  obtain ⟨v, r, e, rv, t⟩ := r
  obtain ⟨w, u, e2, r2, r3⟩ := RepVs.two t
  subst e2
  exact ⟨v, w, u, e, rv.mon (fun _ z => .inl z) Ext.refl, r2.mon (frOf.more d v) Ext.refl, r3.mon (frOf.more d v) Ext.refl⟩
theorem rngL1 {ds : List D} {d : D} (hl : ds.length = 1) (h : rngL ds = some d) : ∃ j, ds = [.int j] ∧ -(2 ^ 62) ≤ j ∧ j < 2 ^ 62 ∧ j.toNat ≤ lim ∧ d = .tup (rng 0 j.toNat 1) := by
  match ds, hl with
  | [x], _ =>
    cases x <;> first | (cases h; done) | skip
    obtain ⟨k, rfl⟩ := chk_some (show chk _ _ = some d from h)
    simp only [rngOk, Bool.and_eq_true, decide_eq_true_eq] at k
    exact ⟨_, rfl, k.1.1, k.1.2, k.2, rfl⟩
theorem rngL2 {ds : List D} {d : D} (hl : ds.length = 2) (h : rngL ds = some d) : ∃ i j, ds = [.int i, .int j] ∧ (-(2 ^ 62) ≤ i ∧ i < 2 ^ 62 ∧ -(2 ^ 62) ≤ j ∧ j < 2 ^ 62) ∧ (j - i).toNat ≤ lim ∧ d = .tup (rng i (j - i).toNat 1) := by
  match ds, hl with
  | [x, y], _ =>
    cases x <;> cases y <;> first | (cases h; done) | skip
    obtain ⟨k, rfl⟩ := chk_some (show chk _ _ = some d from h)
    simp only [rngOk, Bool.and_eq_true, decide_eq_true_eq] at k
    exact ⟨_, _, rfl, ⟨k.1.1.1, k.1.1.2, k.1.2.1, k.1.2.2⟩, k.2, rfl⟩
theorem rngL3 {ds : List D} {d : D} (hl : ds.length = 3) (h : rngL ds = some d) : ∃ (i j c : Int) (n : Nat), ds = [.int i, .int j, .int c] ∧ RgC i j c n ∧ n ≤ lim ∧ d = .tup (rng i n c) := by
  match ds, hl with
  | [x, y, z], _ =>
    cases x <;> cases y <;> cases z <;> first | (cases h; done) | skip
    obtain ⟨k, rfl⟩ := chk_some (show chk _ _ = some d from h)
    simp only [Bool.and_eq_true, decide_eq_true_eq] at k
    exact ⟨_, _, _, _, rfl, ⟨k.1.1.1.1, k.1.1.1.2, k.1.1.2, by have := k.1.2; omega⟩, k.2, rfl⟩
/-- how many arguments there are, none starred -/
def argLen : E → Option Nat
  | .nil => some 0
  | .cons _ b => (argLen b).map (· + 1)
  | _ => none
theorem argLen_ok : ∀ {i : E} {n : Nat} {en : Env} {st : Store} {r : D} {en' : Env} {st' : Store}, argLen i = some n → evalE T0 F i en st = .ok r en' st' → (listO r).length = n
  | .nil, n, en, st, r, en', st', h, e => by
    cases h
    simp only [evalE] at e
    cases e; rfl
  | .cons x b, n, en, st, r, en', st', h, e => by
    obtain ⟨k, hk, rfl⟩ := Option.map_eq_some_iff.mp h
    simp only [evalE] at e
    cases q : evalE T0 F x en st with
    | bad => rw [q] at e; cases e
    | exc c vs en st => rw [q] at e; cases e
    | ok d en1 st1 =>
      rw [q] at e
      cases q2 : evalE T0 F b en1 st1 with
      | bad => simp only [Out.bind, q2] at e; cases e
      | exc c vs en st => simp only [Out.bind, q2] at e; cases e
      | ok r2 en2 st2 =>
        simp only [Out.bind, q2] at e
        cases e
        show (listO r2).length + 1 = _
        rw [argLen_ok hk q2]
  | .var _, _, _, _, _, _, _, h, _ => by cases h
  | .pk _, _, _, _, _, _, _, h, _ => by cases h
  | .ref _, _, _, _, _, _, _, h, _ => by cases h
  | .lit _, _, _, _, _, _, _, h, _ => by cases h
  | .glob _ _, _, _, _, _, _, _, h, _ => by cases h
  | .star _ _, _, _, _, _, _, _, h, _ => by cases h
  | .tup _, _, _, _, _, _, _, h, _ => by cases h
  | .lst _, _, _, _, _, _, _, h, _ => by cases h
  | .bin _ _ _, _, _, _, _, _, _, h, _ => by cases h
  | .neg _, _, _, _, _, _, _, h, _ => by cases h
  | .not _, _, _, _, _, _, _, h, _ => by cases h
  | .cmp _ _ _, _, _, _, _, _, _, h, _ => by cases h
  | .chain _ _ _ _ _, _, _, _, _, _, _, h, _ => by cases h
  | .and _ _, _, _, _, _, _, _, h, _ => by cases h
  | .or _ _, _, _, _, _, _, _, h, _ => by cases h
  | .orL _ _, _, _, _, _, _, _, h, _ => by cases h
  | .ite _ _ _, _, _, _, _, _, _, h, _ => by cases h
  | .idx _ _, _, _, _, _, _, _, h, _ => by cases h
  | .slice _ _ _, _, _, _, _, _, _, h, _ => by cases h
  | .rev _, _, _, _, _, _, _, h, _ => by cases h
  | .no, _, _, _, _, _, _, h, _ => by cases h
  | .bad, _, _, _, _, _, _, h, _ => by cases h
  | .call _ _, _, _, _, _, _, _, h, _ => by cases h
  | .attr _ _, _, _, _, _, _, _, h, _ => by cases h
  | .bi _ _, _, _, _, _, _, _, h, _ => by cases h
  | .bm _ _ _, _, _, _, _, _, _, h, _ => by cases h
  | .isi _ _, _, _, _, _, _, _, h, _ => by cases h
  | .comp _ _ _ _ _, _, _, _, _, _, _, h, _ => by cases h
  | .comp2 _ _ _ _ _ _ _ _ _, _, _, _, _, _, _, h, _ => by cases h
  | .rng _, _, _, _, _, _, _, h, _ => by cases h
  | .zip _, _, _, _, _, _, _, h, _ => by cases h
  | .enum _, _, _, _, _, _, _, h, _ => by cases h
theorem i_rng1 (hg : Gl X "range") (hm : X.mg "range" = none) (ha : PA X [a] (rAs G W T0 F ia)) (hl : argLen ia = some 1) (hst : ∀ x p, a ≠ .Starred x p) : PI X tg (.Call (.Name "range" p1) [a] [] pos) (rIt G W T0 F (.rng ia)) :=
  PI.imp (pi_range1 hg hm ha (by rw [starEach_plain hst]; rfl)) fun σ H Rk h => by
    refine (R.bind (rep := rA G) (h.congr ev_rng)).imp fun vs H1 ⟨Fr, s, s1, d, eH, h1, x1, ⟨ds, ed, rr⟩, p1, _, eo⟩ => ?_
    subst eH ed
    obtain ⟨d2, q, p2⟩ := p1.ofB
    obtain ⟨j, rfl, k1, k2, k3, rfl⟩ := rngL1 (argLen_ok hl eo) q
    obtain ⟨v, rfl, rv⟩ := rr.one
    cases rv
    exact ⟨j, rfl, k1, k2, Post.here (a := rng 0 j.toNat 1) p2 h1 ⟨walks_rng 0 1 _ (fun _ _ z => z) (fun _ _ z => z) (fun i H x H' y => ⟨y.1, by rw [y.2]; simp⟩), fun _ => by rw [rng_len]; exact k3⟩⟩
theorem i_rng2 (hg : Gl X "range") (hm : X.mg "range" = none) (ha : PA X [a, b] (rAs G W T0 F ia)) (hl : argLen ia = some 2) (hs1 : ∀ x p, a ≠ .Starred x p) (hs2 : ∀ x p, b ≠ .Starred x p) : PI X tg (.Call (.Name "range" p1) [a, b] [] pos) (rIt G W T0 F (.rng ia)) :=
  PI.imp (pi_range2 hg hm ha (by rw [starEach_plain hs1, starEach_plain hs2]; rfl) (by rw [starEach_plain hs2]; rfl)) fun σ H Rk h => by
    refine (R.bind (rep := rA G) (h.congr ev_rng)).imp fun vs H1 ⟨Fr, s, s1, d, eH, h1, x1, ⟨ds, ed, rr⟩, p1, _, eo⟩ => ?_
    subst eH ed
    obtain ⟨d2, q, p2⟩ := p1.ofB
    obtain ⟨i, j, rfl, k1, k3, rfl⟩ := rngL2 (argLen_ok hl eo) q
    obtain ⟨v, w, rfl, rv, rw'⟩ := rr.two
    cases rv
    cases rw'
    exact ⟨i, j, rfl, k1, Post.here (a := rng i (j - i).toNat 1) p2 h1 ⟨walks_rng i 1 _ (fun _ _ z => z) (fun _ _ z => z) (fun k H x H' y => ⟨y.1, by rw [y.2]; simp⟩), fun _ => by rw [rng_len]; exact k3⟩⟩
theorem i_rng3 (hg : Gl X "range") (hm : X.mg "range" = none) (ha : PA X [a, b, c] (rAs G W T0 F ia)) (hl : argLen ia = some 3) (hs1 : ∀ x p, a ≠ .Starred x p) (hs2 : ∀ x p, b ≠ .Starred x p) (hs3 : ∀ x p, c ≠ .Starred x p) :
    PI X tg (.Call (.Name "range" p1) [a, b, c] [] pos) (rIt G W T0 F (.rng ia)) :=
  PI.imp (pi_range3 hg hm ha (starEach_plain hs1 _) (by rw [starEach_plain hs2, starEach_plain hs3]; rfl)) fun σ H Rk h => by
    refine (R.bind (rep := rA G) (h.congr ev_rng)).imp fun vs H1 ⟨Fr, s, s1, d, eH, h1, x1, ⟨ds, ed, rr⟩, p1, _, eo⟩ => ?_
    subst eH ed
    obtain ⟨d2, q, p2⟩ := p1.ofB
    obtain ⟨i, j, c, n, rfl, k1, k3, rfl⟩ := rngL3 (argLen_ok hl eo) q
    obtain ⟨v, w, u, rfl, rv, rw', ru⟩ := rr.three
    cases rv
    cases rw'
    cases ru
    exact ⟨i, j, c, n, rfl, k1, Post.here (a := rng i n c) p2 h1 ⟨walks_rng i c _ (fun _ _ z => z) (fun _ _ z => z) (fun k H x H' y => ⟨y.1, by rw [y.2]⟩), fun _ => by rw [rng_len]; exact k3⟩⟩
/-- a list, not written to -/
theorem RepV.lstAt {Fr : Addr → Prop} {base s : ST} {σ : L2.St} {d : D} {v : V} {xs : List D} (r : RepV G.K G.CA Fr base s σ d v) (e : d.seqL = some xs) : ∃ a vs, v = .ref a ∧ (∀ (H1 : Hp) (Z : Addr → Prop), (∀ b u, s.H b = some u → ¬ Av Fr s σ b → H1 b = some u ∧ ¬ Z b) → SqL G.K H1 a vs) ∧
    (HLen s.H → vs.length ≤ sizeLine) ∧ Reps G.K G.CA (Av Fr s σ) s.H xs vs := by
  cases d <;> simp only [D.seqL, Option.some.injEq, reduceCtorEq] at e
  · subst e; obtain ⟨a, vs, ev, n, e2, r⟩ := r; exact ⟨a, vs, ev, fun H1 Z k => SqL.of (k a _ e2 n).1, fun hl => hl.1 a vs e2, r⟩
  · subst e; obtain ⟨a, vs, ev, _, e2, n, r, _⟩ := r; exact ⟨a, vs, ev, fun H1 Z k => SqL.of (k a _ e2 n).1, fun hl => hl.1 a vs e2, Reps.mono (Av.less fun b z => .inl z) _ _ r⟩
  · subst e; obtain ⟨a, vs, ev, e2, r⟩ := r; exact ⟨a, vs, ev, fun H1 Z k => (e2.mono k).sq, e2.len, r⟩
theorem RepV.tupAt {Fr : Addr → Prop} {base s : ST} {σ : L2.St} {d : D} {v : V} {xs : List D} (r : RepV G.K G.CA Fr base s σ d v) (e : d.seqT = some xs) : ∃ a vs, v = .ref a ∧ TupAt G.K (Av Fr s σ) s.H a vs ∧ Reps G.K G.CA (Av Fr s σ) s.H xs vs := by
  cases d <;> simp only [D.seqT, Option.some.injEq, reduceCtorEq] at e
  subst e; exact r
theorem sqOf {H : Hp} {a : Addr} {vs : List V} (e : H a = some (.lst vs) ∨ ∃ o, H a = some (.frz o (.lst vs))) : SqL G.K H a vs := by
  rcases e with e | ⟨o, e⟩
  · exact .inl (.inl e)
  · exact .inl (.inr ⟨o, e⟩)
theorem zipD_get : ∀ {xs ys : List D} {i : Nat} {d : D}, (zipD xs ys)[i]? = some d → ∃ x y, xs[i]? = some x ∧ ys[i]? = some y ∧ d = .tup [x, y]
  | x :: xs, y :: ys, 0, d, h => by
    simp [zipD] at h
    exact ⟨x, y, rfl, rfl, h.symm⟩
  | x :: xs, y :: ys, i + 1, d, h => by
    obtain ⟨a, b, h1, h2, h3⟩ := zipD_get (xs := xs) (ys := ys) (i := i) (by simpa [zipD] using h)
    exact ⟨a, b, by simpa using h1, by simpa using h2, h3⟩
  | [], _, _, _, h => by simp [zipD] at h
  | _ :: _, [], _, _, h => by simp [zipD] at h
theorem zipD_len : ∀ (xs ys : List D), (zipD xs ys).length = min xs.length ys.length
  | x :: xs, y :: ys => by simp [zipD, zipD_len xs ys]
  | [], _ => by simp [zipD]
  | _ :: _, [] => by simp [zipD]
theorem enumD_get : ∀ {xs : List D} {k i : Nat} {d : D}, (enumD k xs)[i]? = some d → ∃ x, xs[i]? = some x ∧ d = .tup [.int ((k + i : Nat) : Int), x]
  | x :: xs, k, 0, d, h => by
    simp [enumD] at h
    exact ⟨x, rfl, by rw [← h]; simp⟩
  | x :: xs, k, i + 1, d, h => by
    obtain ⟨a, h1, h3⟩ := enumD_get (xs := xs) (k := k + 1) (i := i) (by simpa [enumD] using h)
    refine ⟨a, by simpa using h1, ?_⟩
    rw [h3]
    have : k + 1 + i = k + (i + 1) := by omega
    rw [this]
  | [], _, _, _, h => by simp [enumD] at h
theorem enumD_len : ∀ (xs : List D) (k : Nat), (enumD k xs).length = xs.length
  | [], _ => rfl
  | x :: xs, k => by simp [enumD, enumD_len xs]
/-- a new pair -/
theorem pair_new {Z : Addr → Prop} {H1 : Hp} {T : Addr} {d e : D} {x y : V} (hT : H1 T = none) (hz : ∀ a, Z a → H1 a ≠ none) (r1 : Rep G.K G.CA Z H1 d x) (r2 : Rep G.K G.CA Z H1 e y) : Rep G.K G.CA Z (upd H1 T (.tup [x, y])) (.tup [d, e]) (.ref T) := by
  have k : ∀ a u, H1 a = some u → ¬ Z a → (upd H1 T (.tup [x, y])) a = some u ∧ ¬ Z a := fun a u q n => ⟨by rw [upd_ne (ne_of_none q hT)]; exact q, n⟩
  exact ⟨T, [x, y], rfl, .inl ⟨fun z => hz T z hT, upd_same⟩, x, [y], rfl, Rep.mono k _ _ r1, y, [], rfl, Rep.mono k _ _ r2, rfl⟩
theorem i_zip {es' : List Expr} {kk : Nat} {tpos : Pos} (hK : X.K = G.K) (hg : Gl X "zip") (hm : X.mg "zip" = none) (ha : PA X [a, b] (rAs G W T0 F ia)) (hl : argLen ia = some 2) (hs1 : ∀ x p, a ≠ .Starred x p) (hs2 : ∀ x p, b ≠ .Starred x p) :
    PI X (.Tuple es' kk tpos) (.Call (.Name "zip" p1) [a, b] [] pos) (rIt G W T0 F (.zip ia)) :=
  PI.imp (RZ.pi_zipA hg hm ha (starEach_plain hs1 _) (by rw [starEach_plain hs2]; rfl)) fun σ H Rk h => by
    refine (R.bind (rep := rA G) (h.congr ev_zip)).imp fun vs H1 ⟨Fr, s, s1, d, eH, h1, x1, ⟨ds, ed, rr⟩, p1, _, eo⟩ => ?_
    subst eH ed
    obtain ⟨d2, q, p2⟩ := p1.ofB
    have hl2 := argLen_ok hl eo
    match ds, hl2 with
    | [da, db], _ =>
    obtain ⟨v, w, rfl, rv, rw'⟩ := rr.two
    have q : zipL [da, db] = some d2 := q
    have tup : ∀ xs ys, da.seqT = some xs → db.seqT = some ys → d2 = .tup (zipD xs ys) → RZ.iZipA X.K (fun _ _ k => k [v, w] s1.H) σ s1.H Rk := fun xs ys e1 e2 e3 => by
      subst e3
      obtain ⟨aa, va, rfl, ta, ra⟩ := rv.tupAt e1
      obtain ⟨ab, vb, rfl, tb, rb⟩ := rw'.tupAt e2
      refine ⟨aa, ab, va, vb, rfl, .inr ⟨hK ▸ ta.sq, hK ▸ tb.sq, (congrArg (fun k => Rk (RZ.ItzT k aa ab) s1.H) hK).mpr (Post.here (a := zipD xs ys) p2 h1 ⟨fun H1 Z k1 k2 i => ?_, fun hl => ?_⟩)⟩⟩
      · have ea : SqT G.K H1 aa va := by
          rcases ta with ⟨n, e⟩ | t
          · exact .inl (.inl (k1 aa _ e n).1)
          · exact .inr t
        have eb : SqT G.K H1 ab vb := by
          rcases tb with ⟨n, e⟩ | t
          · exact .inl (.inl (k1 ab _ e n).1)
          · exact .inr t
        refine ⟨fun hi => ⟨va, vb, ea, eb, ?_⟩, fun d hd => ?_⟩
        · rw [zipD_len] at hi
          rw [ra.length, rb.length]; omega
        · obtain ⟨x, y, hx, hy, rfl⟩ := zipD_get hd
          obtain ⟨xv, hxv, rx⟩ := Reps.get (Reps.mono k1 _ _ ra) hx
          obtain ⟨yv, hyv, ry⟩ := Reps.get (Reps.mono k1 _ _ rb) hy
          refine ⟨⟨va, vb, xv, yv, ea, eb, hxv, hyv⟩, fun z H' ⟨T, x', y', ez, hT, eH, q1, q2⟩ => ?_⟩
          have e1 := q1 va ea
          have e2 := q2 vb eb
          rw [hxv] at e1
          rw [hyv] at e2
          cases e1; cases e2
          subst ez eH
          exact ⟨.inr ⟨T, _, hT, rfl⟩, pair_new hT k2 rx ry⟩
      · rw [zipD_len, ← ra.length]
        rcases ta with ⟨_, t⟩ | ⟨o, its, n, _, _, _, z, rv'⟩
        · have := hl.2.1 aa va t
          rw [lim_eq] at this
          omega
        · have := rv'.length
          simp only [Array.length_toList] at this
          rw [lim_eq] at z
          omega
    have lst : ∀ xs ys, da.seqL = some xs → db.seqL = some ys → d2 = .tup (zipD xs ys) → RZ.iZipA X.K (fun _ _ k => k [v, w] s1.H) σ s1.H Rk := fun xs ys e1 e2 e3 => by
      subst e3
      obtain ⟨aa, va, rfl, ta, la, ra⟩ := rv.lstAt e1
      obtain ⟨ab, vb, rfl, tb, lb, rb⟩ := rw'.lstAt e2
      refine ⟨aa, ab, va, vb, rfl, .inl ⟨hK ▸ ta s1.H _ (fun _ _ q n => ⟨q, n⟩), hK ▸ tb s1.H _ (fun _ _ q n => ⟨q, n⟩), (congrArg (fun k => Rk (Itz k aa ab) s1.H) hK).mpr (Post.here (a := zipD xs ys) p2 h1 ⟨fun H1 Z k1 k2 i => ?_, fun hl => ?_⟩)⟩⟩
      · have ea : SqL G.K H1 aa va := ta H1 Z k1
        have eb : SqL G.K H1 ab vb := tb H1 Z k1
        refine ⟨fun hi => ⟨va, vb, ea, eb, ?_⟩, fun d hd => ?_⟩
        · rw [zipD_len] at hi
          rw [ra.length, rb.length]; omega
        · obtain ⟨x, y, hx, hy, rfl⟩ := zipD_get hd
          obtain ⟨xv, hxv, rx⟩ := Reps.get (Reps.mono k1 _ _ ra) hx
          obtain ⟨yv, hyv, ry⟩ := Reps.get (Reps.mono k1 _ _ rb) hy
          refine ⟨⟨va, vb, xv, yv, ea, eb, hxv, hyv⟩, fun z H' ⟨T, x', y', ez, hT, eH, q1, q2⟩ => ?_⟩
          have e1 := q1 va ea
          have e2 := q2 vb eb
          rw [hxv] at e1
          rw [hyv] at e2
          cases e1; cases e2
          subst ez eH
          exact ⟨.inr ⟨T, _, hT, rfl⟩, pair_new hT k2 rx ry⟩
      · rw [zipD_len, ← ra.length]
        have : va.length ≤ sizeLine := la hl
        rw [lim_eq] at this
        omega
    cases e1 : da.seqL with
    | some xs =>
      cases e2 : db.seqL with
      | some ys =>
        simp only [zipL, e1, e2] at q
        cases q
        exact lst xs ys e1 e2 rfl
      | none =>
        have : da.seqT = none := by cases da <;> first | rfl | cases e1
        simp only [zipL, e1, e2, this] at q
        cases q
    | none =>
      cases e3 : da.seqT with
      | none => simp only [zipL, e1, e3] at q; cases q
      | some xs =>
        cases e4 : db.seqT with
        | none => simp only [zipL, e1, e3, e4] at q; cases q
        | some ys =>
          simp only [zipL, e1, e3, e4] at q
          cases q
          exact tup xs ys e3 e4 rfl
theorem i_enum {es' : List Expr} {kk : Nat} {tpos : Pos} (hK : X.K = G.K) (hg : Gl X "enumerate") (hm : X.mg "enumerate" = none) (ha : PA X [a] (rAs G W T0 F ia)) (hl : argLen ia = some 1) (hs1 : ∀ x p, a ≠ .Starred x p) :
    PI X (.Tuple es' kk tpos) (.Call (.Name "enumerate" p1) [a] [] pos) (rIt G W T0 F (.enum ia)) :=
  PI.imp (pi_enumA hg hm ha (by rw [starEach_plain hs1]; rfl)) fun σ H Rk h => by
    refine (R.bind (rep := rA G) (h.congr ev_enum)).imp fun vs H1 ⟨Fr, s, s1, d, eH, h1, x1, ⟨ds, ed, rr⟩, p1, _, eo⟩ => ?_
    subst eH ed
    obtain ⟨d2, q, p2⟩ := p1.ofB
    have hl2 := argLen_ok hl eo
    match ds, hl2 with
    | [da], _ =>
    obtain ⟨v, rfl, rv⟩ := rr.one
    obtain ⟨xs, e1, rfl⟩ := Option.map_eq_some_iff.mp (show da.seq.map (fun xs => D.tup (enumD 0 xs)) = some d2 from q)
    have e1 : da.seqL = some xs ∨ da.seqT = some xs := by cases da <;> first | exact .inl e1 | exact .inr e1 | exact nomatch e1
    rcases e1 with e1 | e1
    · obtain ⟨aa, va, rfl, ta, la, ra⟩ := rv.lstAt e1
      refine ⟨aa, va, rfl, .inl ⟨hK ▸ ta s1.H _ (fun _ _ q n => ⟨q, n⟩), (congrArg (fun k => Rk (Ite k aa) s1.H) hK).mpr (Post.here (a := enumD 0 xs) p2 h1 ⟨fun H1 Z k1 k2 i => ?_, fun hl => ?_⟩)⟩⟩
      · have ea : SqL G.K H1 aa va := ta H1 Z k1
        refine ⟨fun hi => ⟨va, ea, ?_⟩, fun d hd => ?_⟩
        · rw [enumD_len] at hi
          rw [ra.length]; omega
        · obtain ⟨x, hx, rfl⟩ := enumD_get hd
          obtain ⟨xv, hxv, rx⟩ := Reps.get (Reps.mono k1 _ _ ra) hx
          refine ⟨⟨va, xv, ea, hxv⟩, fun z H' ⟨T, x', ez, hT, eH, q1⟩ => ?_⟩
          have e1 := q1 va ea
          rw [hxv] at e1
          cases e1
          subst ez eH
          refine ⟨.inr ⟨T, _, hT, rfl⟩, ?_⟩
          rw [Nat.zero_add]
          exact pair_new hT k2 (show Rep G.K G.CA Z H1 (.int (i : Nat)) (.int (i : Nat)) from rfl) rx
      · rw [enumD_len, ← ra.length]
        have : va.length ≤ sizeLine := la hl
        rw [lim_eq] at this
        omega
    · obtain ⟨aa, va, rfl, ta, ra⟩ := rv.tupAt e1
      refine ⟨aa, va, rfl, .inr ⟨hK ▸ ta.sq, (congrArg (fun k => Rk (IteT k aa) s1.H) hK).mpr (Post.here (a := enumD 0 xs) p2 h1 ⟨fun H1 Z k1 k2 i => ?_, fun hl => ?_⟩)⟩⟩
      · have ea : SqT G.K H1 aa va := by
          rcases ta with ⟨n, e⟩ | t
          · exact .inl (.inl (k1 aa _ e n).1)
          · exact .inr t
        refine ⟨fun hi => ⟨va, ea, ?_⟩, fun d hd => ?_⟩
        · rw [enumD_len] at hi
          rw [ra.length]; omega
        · obtain ⟨x, hx, rfl⟩ := enumD_get hd
          obtain ⟨xv, hxv, rx⟩ := Reps.get (Reps.mono k1 _ _ ra) hx
          refine ⟨⟨va, xv, ea, hxv⟩, fun z H' ⟨T, x', ez, hT, eH, q1⟩ => ?_⟩
          have e1 := q1 va ea
          rw [hxv] at e1
          cases e1
          subst ez eH
          refine ⟨.inr ⟨T, _, hT, rfl⟩, ?_⟩
          rw [Nat.zero_add]
          exact pair_new hT k2 (show Rep G.K G.CA Z H1 (.int (i : Nat)) (.int (i : Nat)) from rfl) rx
      · rw [enumD_len, ← ra.length]
        rcases ta with ⟨_, t⟩ | ⟨o, its, n, _, _, _, z, rv'⟩
        · have := hl.2.1 aa va t
          rw [lim_eq] at this
          omega
        · have := rv'.length
          simp only [Array.length_toList] at this
          rw [lim_eq] at z
          omega
end
end Ev

end
section
set_option linter.all false
set_option maxRecDepth 100000
/-! Snd9: stores, targets. -/
namespace Ev
open PySem PySem.Spec PyProof.Rows L2
section
variable {K : PySem.W.Frag} {CA : Nat → Addr} {Fr : Addr → Prop} {s : ST} {σ : L2.St}
/-- a list of one's own is written -/
theorem SR.writeOwn {i : Nat} {xs ys : List D} {ws : List V} (h : SR K CA Fr s σ) (e : s.en[i]? = some (some (.own xs))) (r : Reps K CA (Av Fr s σ) s.H ys ws) :
    ∃ a vs, σ[i]? = some (some (.ref a)) ∧ s.H a = some (.lst vs) ∧ Reps K CA (Av Fr s σ) s.H xs vs ∧ SR K CA Fr { s with en := setS s.en i (.own ys), H := upd s.H a (.lst ws) } σ ∧ Ext s { s with en := setS s.en i (.own ys), H := upd s.H a (.lst ws) } σ σ := by
  obtain ⟨v, e1, a, ev, vs, e2, r0⟩ := h.slots i _ e
  subst ev
  have hi : i < s.en.length := (List.getElem?_eq_some_iff.mp e).1
  have oa : ownAt s.en σ i a := ⟨xs, e, e1⟩
  have ow : ∀ j b, ownAt (setS s.en i (.own ys)) σ j b → ownAt s.en σ j b := fun j b ⟨zs, q1, q2⟩ => by
    rw [getElem_setS] at q1
    by_cases hij : i = j
    · subst hij
      exact ⟨xs, e, q2⟩
    · rw [if_neg hij] at q1
      exact ⟨zs, q1, q2⟩
  have wr : ∀ b, Wr { s with en := setS s.en i (.own ys), H := upd s.H a (.lst ws) } σ b → Wr s σ b := fun b z => z.imp id fun ⟨j, z⟩ => ⟨j, ow j b z⟩
  have wa : Wr s σ a := .inr ⟨i, oa⟩
  have kd : ∀ b u, s.H b = some u → ¬ Av Fr s σ b → (upd s.H a (.lst ws)) b = some u ∧ ¬ Av Fr { s with en := setS s.en i (.own ys), H := upd s.H a (.lst ws) } σ b := fun b u q n =>
    ⟨by rw [upd_ne (fun (z : b = a) => n (.inl (z ▸ wa)))]; exact q, fun z => n (z.imp (wr b) id)⟩
  have sm : ∀ b, s.H b ≠ none → (upd s.H a (.lst ws)) b ≠ none := fun b z => by
    by_cases q : b = a
    · subst q; rw [upd_same]; simp
    · rw [upd_ne q]; exact z
  refine ⟨a, vs, e1, e2, r0, ⟨fun b z => sm b (h.trk b z), h.ml, fun n zs q => ?_, h.nd, fun j x q => ?_, fun j k b z1 z2 => h.inj j k b (ow j b z1) (ow k b z2), fun j b z => h.noc j b (ow j b z), fun j b z => h.nfr j b (ow j b z), ?_⟩,
    ⟨fun b u q n => by show (upd s.H a (.lst ws)) b = some u; rw [upd_ne (fun (z : b = a) => n (z ▸ wa))]; exact q, fun b z => .inl (wr b z), sm, [], by simp⟩⟩
  · obtain ⟨b, q1, o⟩ := h.cells n zs q
    refine ⟨b, q1, o.mono kd ?_⟩
    show (upd s.H a (.lst ws)) b = _
    rw [upd_ne (fun (z : b = a) => h.noc i a oa (z ▸ List.mem_of_getElem? q1))]
  · have q : (setS s.en i (.own ys))[j]? = some (some x) := q
    rw [getElem_setS] at q
    by_cases hij : i = j
    · subst hij
      rw [if_pos rfl, if_pos hi] at q
      cases q
      exact ⟨.ref a, e1, a, rfl, ws, upd_same, Reps.mono kd _ _ r⟩
    · rw [if_neg hij] at q
      obtain ⟨w, q1, o⟩ := h.slots j x q
      refine ⟨w, q1, o.mono kd (fun zs b z1 z2 => ?_) ⟨[], by simp⟩⟩
      subst z1 z2
      show (upd s.H a (.lst ws)) b = _
      rw [upd_ne (fun (z : b = a) => hij (h.inj i j a oa ⟨zs, q, z ▸ q1⟩))]
  · show (setS s.en i _).length = _
    unfold setS
    rw [List.length_set]; exact h.len
/-- a list in the store is written -/
theorem SR.writeCell {n : Nat} {xs ys : List D} {ws : List V} (h : SR K CA Fr s σ) (e : s.st[n]? = some xs) (r : Reps K CA (Av Fr s σ) s.H ys ws) :
    ∃ a vs, s.m[n]? = some a ∧ s.H a = some (.lst vs) ∧ Reps K CA (Av Fr s σ) s.H xs vs ∧ SR K CA Fr { s with st := s.st.set n ys, H := upd s.H a (.lst ws) } σ ∧ Ext s { s with st := s.st.set n ys, H := upd s.H a (.lst ws) } σ σ := by
  obtain ⟨a, e1, vs, e2, r0⟩ := h.cells n xs e
  have wa : Wr s σ a := .inl (List.mem_of_getElem? e1)
  have kd : ∀ b u, s.H b = some u → ¬ Av Fr s σ b → (upd s.H a (.lst ws)) b = some u ∧ ¬ Av Fr { s with st := s.st.set n ys, H := upd s.H a (.lst ws) } σ b := fun b u q n =>
    ⟨by rw [upd_ne (fun (z : b = a) => n (.inl (z ▸ wa)))]; exact q, fun z => n z⟩
  have sm : ∀ b, s.H b ≠ none → (upd s.H a (.lst ws)) b ≠ none := fun b z => by
    by_cases q : b = a
    · subst q; rw [upd_same]; simp
    · rw [upd_ne q]; exact z
  refine ⟨a, vs, e1, e2, r0, ⟨fun b z => sm b (h.trk b z), by show s.m.length = (s.st.set n ys).length; rw [List.length_set]; exact h.ml, fun k zs q => ?_, h.nd, fun j x q => ?_, h.inj, h.noc, h.nfr, h.len⟩,
    ⟨fun b u q n => by show (upd s.H a (.lst ws)) b = some u; rw [upd_ne (fun (z : b = a) => n (z ▸ wa))]; exact q, fun b z => .inl z, sm, [], by simp⟩⟩
  · have q : (s.st.set n ys)[k]? = some zs := q
    rw [List.getElem?_set] at q
    by_cases hnk : n = k
    · subst hnk
      rw [if_pos rfl] at q
      split at q
      · cases q
        exact ⟨a, e1, ws, upd_same, Reps.mono kd _ _ r⟩
      · cases q
    · rw [if_neg hnk] at q
      obtain ⟨b, q1, o⟩ := h.cells k zs q
      refine ⟨b, q1, o.mono kd ?_⟩
      show (upd s.H a (.lst ws)) b = _
      rw [upd_ne (fun (z : b = a) => ?_)]
      subst z
      obtain ⟨l1, z1⟩ := List.getElem?_eq_some_iff.mp e1
      obtain ⟨l2, z2⟩ := List.getElem?_eq_some_iff.mp q1
      exact hnk ((List.getElem_inj h.nd).mp (z1.trans z2.symm))
  · obtain ⟨w, q1, o⟩ := h.slots j x q
    refine ⟨w, q1, o.mono kd (fun zs b z1 z2 => ?_) ⟨[], by simp⟩⟩
    subst z1 z2
    show (upd s.H a (.lst ws)) b = _
    rw [upd_ne (fun (z : b = a) => h.noc j b ⟨zs, q, q1⟩ (z ▸ List.mem_of_getElem? e1))]
end
/-- names stay, but those in l -/
def offEq (l : List Nat) (σ σ' : L2.St) : Prop := σ'.length = σ.length ∧ ∀ j, j ∉ l → σ'[j]? = σ[j]?
theorem offEq.refl {l : List Nat} {σ : L2.St} : offEq l σ σ := ⟨rfl, fun _ _ => rfl⟩
theorem offEq.trans {l l' : List Nat} {σ σ1 σ2 : L2.St} (a : offEq l σ σ1) (b : offEq l' σ1 σ2) : offEq (l ++ l') σ σ2 :=
  ⟨b.1.trans a.1, fun j h => (b.2 j fun z => h (List.mem_append_right _ z)).trans (a.2 j fun z => h (List.mem_append_left _ z))⟩
/-- the names that a target stores -/
def tgs : T → List Nat
  | .nm i => [i]
  | .tp a => tgs a
  | .nil => []
  | .cons a b => tgs a ++ tgs b
  | .ix _ _ => []
section
variable (G : Gm) (W : WX)
def PostG (Fr : Addr → Prop) (s : ST) (σ : L2.St) (l : List Nat) (Q : L2.St → Hp → Prop) : Out Unit → Prop
  | .ok _ en st => ∀ s' σ', s'.en = en → s'.st = st → SR G.K G.CA Fr s' σ' → Ext s s' σ σ' → offEq l σ σ' → Q σ' s'.H
  | .exc c vs en st => ∀ d s' σ', s'.en = en → s'.st = st → SR G.K G.CA Fr s' σ' → Ext s s' σ σ' → XdR G Fr s' σ' d c vs → W (.ref (G.CA c)) (some d) σ' s'.H
  | .bad => False
/-- a target gets plain data -/
def rG (T0 : Tab) (F : Fn) (t : T) : TG := fun v σ H Q => ∃ Fr s d, s.H = H ∧ SR G.K G.CA Fr s σ ∧ Rep G.K G.CA (Av Fr s σ) s.H d v ∧ PostG G W Fr s σ (tgs t) Q (assignT T0 F t d s.en s.st)
def rGs (T0 : Tab) (F : Fn) (t : T) : TGs := fun vs σ H Q => ∃ Fr s ds, s.H = H ∧ SR G.K G.CA Fr s σ ∧ Reps G.K G.CA (Av Fr s σ) s.H ds vs ∧ PostG G W Fr s σ (tgs t) Q (assignT T0 F t (.tup ds) s.en s.st)
end
section
variable {G : Gm} {W : WX} {X : Cx} {T0 : Tab} {F : Fn} {tg a b c : Expr} {es : List Expr} {ia ib ic ir : E} {t u : T} {pos p1 p2 p3 p4 : Pos}
theorem PG.imp {g g' : TG} (h : PG X tg g) (k : ∀ v σ H Q, g' v σ H Q → g v σ H Q) : PG X tg g' := ⟨fun p s σ H v u Q I r q => h.run p s σ H v u Q I r (k v σ H Q q)⟩
theorem PGs.imp {g g' : TGs} (h : PGs X es g) (k : ∀ v σ H Q, g' v σ H Q → g v σ H Q) : PGs X es g' := ⟨fun p s σ H v u Q I r q => h.run p s σ H v u Q I r (k v σ H Q q)⟩
theorem PG.or {g g' : TG} (h : PG X tg g) (h' : PG X tg g') : PG X tg (fun v σ H Q => g v σ H Q ∨ g' v σ H Q) := ⟨fun p s σ H v u Q I r q => q.elim (h.run p s σ H v u Q I r) (h'.run p s σ H v u Q I r)⟩
theorem g_nm {i : Nat} {x : Str} (nd : X.N.Nodup) (hi : X.N[i]? = some x) (hx : Loc X.env.scope x) (hf : X.fn x = true ∨ X.env.scope.names.lookup x = some .local) : PG X (.Name x pos) (rG G W T0 F (.nm i)) :=
  PG.imp (pg_name nd hi hx hf) fun v σ H Q ⟨Fr, s, d, eH, hs, r, p⟩ => by
    subst eH
    have p : PostG G W Fr s σ [i] Q ((Out.of (dataD d) s.en s.st).bind fun d en st => if i < en.length then .ok () (setS en i d) st else .bad) := p
    have go : dataD d = some d → (∀ xs, d ≠ .own xs) → (∀ Z m H, Rep G.K G.CA Z H d v → SlotRep G.K G.CA Z m H d v) → Q (σ.set i (some v)) s.H := fun e nd k => by
      rw [e] at p
      have p : PostG G W Fr s σ [i] Q (if i < s.en.length then .ok () (setS s.en i d) s.st else .bad) := p
      by_cases hi : i < s.en.length
      · rw [if_pos hi] at p
        have wr : ∀ b, Wr { s with en := setS s.en i d } (σ.set i (some v)) b → Wr s σ b := fun b z => z.imp id fun ⟨j, z⟩ => ⟨j, (own_set nd z).1⟩
        obtain ⟨h1, x1⟩ := hs.put hi nd (k _ s.m s.H (Rep.mono (fun b u q n => ⟨q, fun z => n (z.imp (wr b) id)⟩) _ _ r))
        refine p { s with en := setS s.en i d } (σ.set i (some v)) rfl rfl h1 x1 ⟨by rw [List.length_set], fun j hj => ?_⟩
        rw [List.getElem?_set_ne fun z => hj (by simp [z])]
      · rw [if_neg hi] at p
        exact p.elim
    cases d with
    | non => exact go rfl (fun _ z => nomatch z) fun _ _ _ r => r
    | bl _ => exact go rfl (fun _ z => nomatch z) fun _ _ _ r => r
    | int _ => exact go rfl (fun _ z => nomatch z) fun _ _ _ r => r
    | str _ => exact go rfl (fun _ z => nomatch z) fun _ _ _ r => r
    | tup _ => exact go rfl (fun _ z => nomatch z) fun _ _ _ r => r
    | lst _ => exact go rfl (fun _ z => nomatch z) fun _ _ _ r => r
    | ins _ _ => exact go rfl (fun _ z => nomatch z) fun _ _ _ r => r
    | own _ => exact p.elim
    | pk _ => exact p.elim
    | frz _ => exact p.elim
    | cell _ => exact p.elim
theorem gs_nil : PGs X [] (rGs G W T0 F .nil) := PGs.imp pgs_nil fun vs σ H Q ⟨Fr, s, ds, eH, hs, r, p⟩ => by
  subst eH
  cases ds with
  | nil => exact ⟨r, p s σ rfl rfl hs Ext.refl offEq.refl⟩
  | cons d ds => exact p.elim
theorem assignEach_plain {e : Expr} (h : ∀ x p, e ≠ .Starred x p) (env : PySem.Env) : assignEach (e :: es) env = (false, assign e env) :: assignEach es env := by
  cases e <;> first | rfl | exact absurd rfl (h _ _)
theorem PostG.bind {Fr : Addr → Prop} {s : ST} {σ : L2.St} {l l' : List Nat} {Q : L2.St → Hp → Prop} {o : Out Unit} {g : Unit → Env → Store → Out Unit} (h : PostG G W Fr s σ (l ++ l') Q (o.bind g)) :
    PostG G W Fr s σ l (fun σ1 H1 => ∃ s1, s1.H = H1 ∧ SR G.K G.CA Fr s1 σ1 ∧ Ext s s1 σ σ1 ∧ PostG G W Fr s1 σ1 l' Q (g () s1.en s1.st)) o := by
  cases o with
  | bad => exact h
  | exc c vs en st => exact h
  | ok u en st =>
    intro s1 σ1 e1 e2 h1 x1 o1
    subst e1 e2
    refine ⟨s1, rfl, h1, x1, ?_⟩
    have h : PostG G W Fr s σ (l ++ l') Q (g () s1.en s1.st) := h
    cases q : g () s1.en s1.st with
    | bad => rw [q] at h; exact h
    | exc c vs en st =>
      rw [q] at h
      exact fun d s2 σ2 e1 e2 h2 x2 z => h d s2 σ2 e1 e2 h2 (x1.trans x2) z
    | ok u en st =>
      rw [q] at h
      exact fun s2 σ2 e1 e2 h2 x2 z => h s2 σ2 e1 e2 h2 (x1.trans x2) (o1.trans z)
theorem gs_cons (ha : PG X a (rG G W T0 F t)) (hb : PGs X es (rGs G W T0 F u)) (hst : ∀ x p, a ≠ .Starred x p) : PGs X (a :: es) (rGs G W T0 F (.cons t u)) :=
  PGs.imp (pgs_cons ha hb (by rw [assignEach_plain hst]; rfl)) fun vs σ H Q ⟨Fr, s, ds, eH, hs, r, p⟩ => by
    subst eH
    cases ds with
    | nil => exact p.elim
    | cons d ds =>
      obtain ⟨v, rv, e, r1, r2⟩ := r
      refine ⟨v, rv, e, Fr, s, d, rfl, hs, r1, ?_⟩
      have p : PostG G W Fr s σ (tgs t ++ tgs u) Q ((assignT T0 F t d s.en s.st).bind fun _ en st => assignT T0 F u (.tup ds) en st) := p
      have p2 := p.bind
      cases q : assignT T0 F t d s.en s.st with
      | bad => rw [q] at p2; exact p2
      | exc c vs en st => rw [q] at p2; exact p2
      | ok w en st =>
        rw [q] at p2
        intro s1 σ1 e1 e2 h1 x1 o1
        obtain ⟨s2, e3, h2, x2, p3⟩ := p2 s1 σ1 e1 e2 h1 x1 o1
        exact ⟨Fr, s2, ds, e3, h2, x2.reps r2, p3⟩
theorem assignEach_len {es : List Expr} (h : ∀ e ∈ es, ∀ x p, e ≠ .Starred x p) (env : PySem.Env) : (assignEach es env).length = es.length ∧ (assignEach es env).findIdx? (·.1) = none := by
  induction es with
  | nil => exact ⟨rfl, rfl⟩
  | cons e es ih =>
    obtain ⟨h1, h2⟩ := ih fun e' he => h e' (List.mem_cons_of_mem _ he)
    rw [assignEach_plain (h e List.mem_cons_self)]
    refine ⟨by simp [h1], ?_⟩
    rw [List.findIdx?_cons]
    simp [h2]
end
end Ev

end
section
set_option linter.all false
set_option maxRecDepth 100000
/-! Snd10: tuple targets, subscript targets. -/
namespace Ev
open PySem PySem.Spec PyProof.Rows L2
section
variable {K : PySem.W.Frag} {CA : Nat → Addr} {H : Hp}
theorem Reps.set {Z : Addr → Prop} {d : D} {v : V} (h : Rep K CA Z H d v) : ∀ {ds : List D} {vs : List V} {i : Nat}, Reps K CA Z H ds vs → Reps K CA Z H (ds.set i d) (vs.set i v)
  | [], vs, i, e => by
    cases (show vs = [] from e)
    exact e
  | x :: ds, _, i, ⟨w, r, e, h1, t⟩ => by
    subst e
    cases i with
    | zero => exact ⟨v, r, rfl, h, t⟩
    | succ i => exact ⟨w, r.set i v, rfl, h1, Reps.set h t⟩
end
section
variable {G : Gm} {W : WX} {X : Cx} {T0 : Tab} {F : Fn} {tg a b c : Expr} {es : List Expr} {ia ib ic ir : E} {t u : T} {pos p1 p2 p3 p4 : Pos}
theorem g_tup {k : Nat} (hK : X.K = G.K) (hc : X.calm = true) (hn : tgLen t = some es.length) (hs : ∀ e ∈ es, ∀ x p, e ≠ .Starred x p) (h : PGs X es (rGs G W T0 F t)) : PG X (.Tuple es k pos) (rG G W T0 F (.tp t)) :=
  PG.imp (PG.or (pg_tup hc h (assignEach_len hs _).1 (assignEach_len hs _).2) (pg_unl hc h (assignEach_len hs _).1 (assignEach_len hs _).2)) fun v σ H Q ⟨Fr, s, d, eH, hs, r, p⟩ => by
    subst eH
    cases d with
    | tup ds =>
      have p : PostG G W Fr s σ (tgs t) Q (if tgLen t = some ds.length then assignT T0 F t (.tup ds) s.en s.st else .bad) := p
      by_cases hl : tgLen t = some ds.length
      · rw [if_pos hl] at p
        obtain ⟨a, vs, sq, sqt, tt, rr⟩ := (RepW.ofRep r).seqT rfl
        rw [hn] at hl
        refine .inl ⟨a, vs, sq, hK ▸ sqt, rr.length.trans (Option.some.inj hl).symm, Fr, s, ds, rfl, hs, rr, p⟩
      · rw [if_neg hl] at p; exact p.elim
    | lst ds =>
      have p : PostG G W Fr s σ (tgs t) Q (if tgLen t = some ds.length then assignT T0 F t (.tup ds) s.en s.st else .bad) := p
      by_cases hl : tgLen t = some ds.length
      · rw [if_pos hl] at p
        obtain ⟨a, vs, sq, sqt, rr⟩ := (RepW.ofRep r).seqL rfl
        rw [hn] at hl
        refine .inr ⟨a, vs, sq, hK ▸ sqt, rr.length.trans (Option.some.inj hl).symm, Fr, s, ds, rfl, hs, rr, p⟩
      · rw [if_neg hl] at p; exact p.elim
    | non => exact p.elim
    | bl _ => exact p.elim
    | int _ => exact p.elim
    | str _ => exact p.elim
    | own _ => exact p.elim
    | pk _ => exact p.elim
    | frz _ => exact p.elim
    | cell _ => exact p.elim
    | ins _ _ => exact p.elim
theorem dataD_some {d x : D} (h : dataD d = some x) : x = d := by
  cases d <;> cases h <;> rfl
theorem g_ix {i : Nat} {x : Str} (hi : X.N[i]? = some x) (hv : Vis X.env.scope x) (hd : (x == ("__debug__" : Str)) = false) (hcd : (x == ("__classdict__" : Str)) = false)
    (hp : ∀ v, assign (.Subscript (.Name x p1) b pos) X.env v = (do
      let ov ← holding [v] (eval (.Name x p1) X.env)
      let iv ← holding [v, ov] (eval b X.env)
      standAt pos
      holding [v, ov, iv] (setItem ov iv v)
      release [v, ov, iv] []))
    (hb : PE X b (rE G W T0 F ib)) : PG X (.Subscript (.Name x p1) b pos) (rG G W T0 F (.ix i ib)) :=
  PG.imp (pg_sub (pe_var hi hv hd hcd) hb set_list hp) fun v σ H Q ⟨Fr, s, d, eH, hs, r, p0⟩ => by
    subst eH
    have p : PostG G W Fr s σ [] Q ((Out.of (getS s.en i) s.en s.st).bind fun _ en st => (Out.of (dataD d) en st).bind fun x en st => (evalE T0 F ib en st).bind fun k en st => storeAt i k x en st) := p0
    clear p0
    cases q : getS s.en i with
    | none => rw [q] at p; exact p.elim
    | some d0 =>
    rw [q] at p
    cases qd : dataD d with
    | none => rw [qd] at p; exact p.elim
    | some x =>
    rw [qd] at p
    have := dataD_some qd
    subst this
    have p : PostG G W Fr s σ [] Q ((evalE T0 F ib s.en s.st).bind fun k en st => storeAt i k x en st) := p
    obtain ⟨w, e0, _⟩ := hs.slots i d0 (getS_some q)
    refine ⟨w, e0, Fr, s, rfl, hs, ?_⟩
    cases qe : evalE T0 F ib s.en s.st with
    | bad => rw [qe] at p; exact p.elim
    | exc c vs en st =>
      rw [qe] at p
      exact fun d s' e1 e2 h x z => p d s' σ e1 e2 h x z
    | ok k en st =>
      rw [qe] at p
      intro kv s1 e1 e2 h1 x1 rk
      subst e1 e2
      have p : PostG G W Fr s σ [] Q (storeAt i k x s1.en s1.st) := p
      have r1 := x1.rep r
      cases k with
      | int k =>
        have ek : kv = .int k := rk
        subst ek
        unfold storeAt at p
        cases q1 : getS s1.en i with
        | none => simp only [q1] at p; exact p.elim
        | some d1 =>
          cases d1 with
          | own xs =>
            simp only [q1] at p
            cases qi : ixN xs.length k with
            | none => simp only [qi] at p; exact p.elim
            | some j =>
              simp only [qi] at p
              obtain ⟨v', f1, a, f2, vs, f3, f4⟩ := h1.slots i _ (getS_some q1)
              obtain ⟨a', vs', g1, g2, g3, g4, g5⟩ := h1.writeOwn (ys := xs.set j x) (ws := vs.set j v) (getS_some q1) (Reps.set r1 f4)
              subst f2
              rw [f1] at g1
              cases g1
              rw [f1] at e0
              cases e0
              refine ⟨a, vs, k, j, rfl, rfl, f3, by rw [f4.length]; exact qi, ?_⟩
              exact p { s1 with en := setS s1.en i (.own (xs.set j x)), H := upd s1.H a (.lst (vs.set j v)) } σ rfl rfl g4 (x1.trans g5) offEq.refl
          | cell n =>
            simp only [q1] at p
            cases qx : s1.st[n]? with
            | none => simp only [qx] at p; exact p.elim
            | some xs =>
            simp only [qx] at p
            cases qi : ixN xs.length k with
            | none => simp only [qi] at p; exact p.elim
            | some j =>
              simp only [qi] at p
              obtain ⟨v', f1, a, f2, f3⟩ := h1.slots i _ (getS_some q1)
              obtain ⟨a2, f4, vs, f5, f6⟩ := h1.cells n xs qx
              obtain ⟨a', vs', g1, g2, g3, g4, g5⟩ := h1.writeCell (ys := xs.set j x) (ws := vs.set j v) qx (Reps.set r1 f6)
              subst f2
              rw [f3] at g1 f4
              cases g1
              cases f4
              rw [f1] at e0
              cases e0
              refine ⟨a, vs, k, j, rfl, rfl, f5, by rw [f6.length]; exact qi, ?_⟩
              exact p { s1 with st := s1.st.set n (xs.set j x), H := upd s1.H a (.lst (vs.set j v)) } σ rfl rfl g4 (x1.trans g5) offEq.refl
          | _ => simp only [q1] at p; exact p.elim
      | _ => exact p.elim
end
end Ev

end
section
set_option linter.all false
set_option maxRecDepth 100000
/-! Snd11: comprehensions. -/
namespace Ev
open PySem PySem.Spec PyProof.Rows L2
theorem wipeE_length (en : Env) : ∀ vs, (wipeE en vs).length = en.length
  | [] => rfl
  | v :: vs => by unfold wipeE; rw [List.length_set, wipeE_length en vs]
theorem wipeE_some {en : Env} {i : Nat} {x : D} : ∀ {vs : List Nat}, (wipeE en vs)[i]? = some (some x) → en[i]? = some (some x) ∧ i ∉ vs
  | [], h => ⟨h, by simp⟩
  | v :: vs, h => by
    unfold wipeE at h
    by_cases hi : v = i
    · subst hi
      by_cases hv : v < (wipeE en vs).length
      · rw [List.getElem?_set_self hv] at h; cases h
      · rw [List.getElem?_eq_none (by simpa using hv)] at h; cases h
    · rw [List.getElem?_set_ne hi] at h
      obtain ⟨h1, h2⟩ := wipeE_some h
      exact ⟨h1, fun m => (List.mem_cons.mp m).elim (fun e => hi e.symm) h2⟩
theorem backE_length (old new : Env) : ∀ vs, (backE old new vs).length = new.length
  | [] => rfl
  | v :: vs => by unfold backE; rw [List.length_set, backE_length old new vs]
theorem backE_out {old new : Env} {i : Nat} : ∀ {vs : List Nat}, i ∉ vs → (backE old new vs)[i]? = new[i]?
  | [], _ => rfl
  | v :: vs, h => by
    unfold backE
    rw [List.getElem?_set_ne (fun e => h (by rw [e]; exact List.mem_cons_self))]
    exact backE_out fun m => h (List.mem_cons_of_mem _ m)
theorem backE_in {old new : Env} (hl : old.length = new.length) {i : Nat} : ∀ {vs : List Nat}, i ∈ vs → (backE old new vs)[i]? = old[i]?
  | v :: vs, h => by
    unfold backE
    by_cases hi : v = i
    · subst hi
      by_cases hv : v < old.length
      · rw [List.getElem?_set_self (by rw [backE_length, ← hl]; exact hv)]
        simp [List.getD, List.getElem?_eq_getElem hv]
      · rw [List.getElem?_eq_none (by rw [List.length_set, backE_length, ← hl]; omega), List.getElem?_eq_none (by omega)]
    · rw [List.getElem?_set_ne hi]
      exact backE_in hl ((List.mem_cons.mp h).elim (fun e => absurd e.symm hi) id)
theorem wipe_ext {σ τ : L2.St} {vs : List Nat} (hl : σ.length = τ.length) (h : ∀ j, j ∉ vs → σ[j]? = τ[j]?) : wipe σ vs = wipe τ vs := by
  apply List.ext_getElem?
  intro j
  by_cases hj : j ∈ vs
  · have key : ∀ ρ : L2.St, (wipe ρ vs)[j]? = if j < ρ.length then some none else none := fun ρ => by
      by_cases hr : j < ρ.length
      · rw [if_pos hr]
        cases q : (wipe ρ vs)[j]? with
        | none => rw [List.getElem?_eq_none_iff, wipe_length] at q; omega
        | some o =>
          cases o with
          | none => rfl
          | some x => exact absurd hj (wipe_some q).2
      · rw [if_neg hr, List.getElem?_eq_none (by rw [wipe_length]; omega)]
    rw [key, key, hl]
  · rw [wipe_out hj, wipe_out hj, h j hj]
theorem wipe_off {σ σ2 : L2.St} {vs l : List Nat} (o : offEq l (wipe σ vs) σ2) (hl : ∀ i ∈ l, i ∈ vs) : wipe σ2 vs = wipe σ vs := by
  apply wipe_ext
  · rw [o.1, wipe_length]
  · intro j hj
    rw [o.2 j fun z => hj (hl j z), wipe_out hj]
theorem isOwn_of {en : Env} {i : Nat} {xs : List D} (h : en[i]? = some (some (.own xs))) : isOwn en i = true := by
  unfold isOwn getS
  rw [h]
section
variable {K : PySem.W.Frag} {CA : Nat → Addr} {Fr : Addr → Prop} {s s1 : ST} {σ : L2.St} {ow : List Nat}
/-- a block's own names are forgotten -/
theorem SR.wipd (h : SR K CA Fr s σ) (ow : List Nat) : SR K CA Fr { s with en := wipeE s.en ow } (wipe σ ow) ∧ Ext s { s with en := wipeE s.en ow } σ (wipe σ ow) := by
  have o : ∀ j b, ownAt (wipeE s.en ow) (L2.wipe σ ow) j b → ownAt s.en σ j b := fun j b ⟨xs, e1, e2⟩ => ⟨xs, (wipeE_some e1).1, (wipe_some e2).1⟩
  have wr : ∀ b, Wr { s with en := wipeE s.en ow } (L2.wipe σ ow) b → Wr s σ b := fun b z => z.imp id fun ⟨j, z⟩ => ⟨j, o j b z⟩
  have kd : ∀ b u, s.H b = some u → ¬ Av Fr s σ b → s.H b = some u ∧ ¬ Av Fr { s with en := wipeE s.en ow } (L2.wipe σ ow) b := fun b u q n => ⟨q, fun z => n (z.imp (wr b) id)⟩
  refine ⟨⟨h.trk, h.ml, fun n xs q => ?_, h.nd, fun j x q => ?_, fun j k b z1 z2 => h.inj j k b (o j b z1) (o k b z2), fun j b z => h.noc j b (o j b z), fun j b z => h.nfr j b (o j b z), ?_⟩,
    ⟨fun b u q _ => q, fun b z => .inl (wr b z), fun _ z => z, [], by simp⟩⟩
  · obtain ⟨a, q1, r⟩ := h.cells n xs q
    exact ⟨a, q1, r.mono kd rfl⟩
  · obtain ⟨q1, n1⟩ := wipeE_some q
    obtain ⟨v, q2, r⟩ := h.slots j x q1
    exact ⟨v, by rw [wipe_out n1]; exact q2, r.mono kd (fun _ _ _ _ => rfl) ⟨[], by simp⟩⟩
  · show (wipeE s.en ow).length = _
    rw [wipeE_length, wipe_length]; exact h.len
/-- behind the block -/
theorem SR.back (h : SR K CA Fr s σ) (no : ow.any (isOwn s.en) = false) {Fr' : Addr → Prop} (h1 : SR K CA Fr' s1 (wipe σ ow)) (k : ∀ a, Fr' a → Fr a ∨ s.H a = none) (x : Ext s s1 σ (wipe σ ow)) :
    SR K CA Fr' { s1 with en := backE s.en s1.en ow } σ ∧ Ext s { s1 with en := backE s.en s1.en ow } σ σ ∧ ∀ b, Wr { s1 with en := backE s.en s1.en ow } σ b → Wr s1 (L2.wipe σ ow) b := by
  have hl : s.en.length = s1.en.length := by rw [h.len, h1.len, wipe_length]
  have o : ∀ j b, ownAt (backE s.en s1.en ow) σ j b → ownAt s1.en (L2.wipe σ ow) j b := fun j b ⟨xs, e1, e2⟩ => by
    by_cases hj : j ∈ ow
    · rw [backE_in hl hj] at e1
      rw [List.any_eq_false] at no
      exact absurd (isOwn_of e1) (no j hj)
    · rw [backE_out hj] at e1
      exact ⟨xs, e1, by rw [wipe_out hj]; exact e2⟩
  have wr : ∀ b, Wr { s1 with en := backE s.en s1.en ow } σ b → Wr s1 (L2.wipe σ ow) b := fun b z => z.imp id fun ⟨j, z⟩ => ⟨j, o j b z⟩
  have kd : ∀ b u, s1.H b = some u → ¬ Av Fr' s1 (L2.wipe σ ow) b → s1.H b = some u ∧ ¬ Av Fr' { s1 with en := backE s.en s1.en ow } σ b := fun b u q n => ⟨q, fun z => n (z.imp (wr b) id)⟩
  have kd0 : ∀ b u, s.H b = some u → ¬ Av Fr s σ b → s1.H b = some u ∧ ¬ Av Fr' { s1 with en := backE s.en s1.en ow } σ b := fun b u q n => by
    refine ⟨x.keep b u q fun z => n (.inl z), fun z => ?_⟩
    rcases z with z | z
    · exact x.nwr (by rw [q]; simp) (fun z => n (.inl z)) (wr b z)
    · rcases k b z with z | z
      · exact n (.inr z)
      · rw [q] at z; cases z
  refine ⟨⟨h1.trk, h1.ml, fun n xs q => ?_, h1.nd, fun j d q => ?_, fun j k b z1 z2 => h1.inj j k b (o j b z1) (o k b z2), fun j b z => h1.noc j b (o j b z), fun j b z => h1.nfr j b (o j b z), ?_⟩,
    ⟨x.keep, fun b z => x.wr b (wr b z), x.sm, x.pre⟩, wr⟩
  · obtain ⟨a, q1, r⟩ := h1.cells n xs q
    exact ⟨a, q1, r.mono kd rfl⟩
  · have q : (backE s.en s1.en ow)[j]? = some (some d) := q
    by_cases hj : j ∈ ow
    · rw [backE_in hl hj] at q
      obtain ⟨v, q2, r⟩ := h.slots j d q
      refine ⟨v, q2, r.mono kd0 (fun xs a e1 e2 => ?_) x.pre⟩
      subst e1
      rw [List.any_eq_false] at no
      exact absurd (isOwn_of q) (no j hj)
    · rw [backE_out hj] at q
      obtain ⟨v, q2, r⟩ := h1.slots j d q
      exact ⟨v, by rw [wipe_out hj] at q2; exact q2, r.mono kd (fun _ _ _ _ => rfl) ⟨[], by simp⟩⟩
  · show (backE s.en s1.en ow).length = _
    rw [backE_length, ← hl]; exact h.len
/-- a list kept away from is written -/
theorem SR.writeFr {D0 : Addr} {vs ws : List V} (h : SR K CA Fr s σ) (fd : Fr D0) (n : ¬ Wr s σ D0) (e : s.H D0 = some (.lst vs)) : SR K CA Fr { s with H := upd s.H D0 (.lst ws) } σ ∧
    (∀ a u, s.H a = some u → ¬ Av Fr s σ a → (upd s.H D0 (.lst ws)) a = some u ∧ ¬ Av Fr { s with H := upd s.H D0 (.lst ws) } σ a) := by
  have wr : ∀ b, Wr { s with H := upd s.H D0 (.lst ws) } σ b → Wr s σ b := fun b z => z
  have kd : ∀ b u, s.H b = some u → ¬ Av Fr s σ b → (upd s.H D0 (.lst ws)) b = some u ∧ ¬ Av Fr { s with H := upd s.H D0 (.lst ws) } σ b := fun b u q n =>
    ⟨by rw [upd_ne (fun (z : b = D0) => n (.inr (z ▸ fd)))]; exact q, fun z => n z⟩
  have kw : ∀ b, Wr s σ b → (upd s.H D0 (.lst ws)) b = s.H b := fun b z => upd_ne fun q => n (q ▸ z)
  refine ⟨⟨fun b z => ?_, h.ml, fun m xs q => ?_, h.nd, fun j x q => ?_, h.inj, h.noc, h.nfr, h.len⟩, kd⟩
  · show (upd s.H D0 (.lst ws)) b ≠ none
    by_cases q : b = D0
    · subst q; rw [upd_same]; simp
    · rw [upd_ne q]; exact h.trk b z
  · obtain ⟨a, q1, o⟩ := h.cells m xs q
    exact ⟨a, q1, o.mono kd (kw a (.inl (List.mem_of_getElem? q1)))⟩
  · obtain ⟨v, q1, o⟩ := h.slots j x q
    refine ⟨v, q1, o.mono kd (fun xs a e1 e2 => ?_) ⟨[], by simp⟩⟩
    subst e1 e2
    exact kw a (.inr ⟨j, xs, q, q1⟩)
end
/-- nothing is raised -/
abbrev WF : WX := fun _ _ _ _ => False
theorem noX_ok {α : Type} {o : Out α} {a : α} {en : Env} {st : Store} (h : noX o = .ok a en st) : o = .ok a en st := by
  cases o <;> first | exact h | cases h
theorem Out.bind_ok {α β : Type} {o : Out α} {f : α → Env → Store → Out β} {b : β} {en : Env} {st : Store} (h : o.bind f = .ok b en st) : ∃ a en1 st1, o = .ok a en1 st1 ∧ f a en1 st1 = .ok b en st := by
  cases o with
  | ok a en1 st1 => exact ⟨a, en1, st1, rfl, h⟩
  | exc _ _ _ _ => cases h
  | bad => cases h
theorem Out.of_ok {α : Type} {o : Option α} {a : α} {en en1 : Env} {st st1 : Store} (h : Out.of o en st = .ok a en1 st1) : o = some a ∧ en1 = en ∧ st1 = st := by
  cases o with
  | none => cases h
  | some x => cases h; exact ⟨rfl, rfl, rfl⟩
section
variable {G : Gm} {W : WX} {α β : Type} {rep : RepT α β} {Fr : Addr → Prop} {s : ST} {σ : L2.St}
/-- what is evaluated without a raise -/
theorem Post.okay {o : Out α} {a : α} {en : Env} {st : Store} (e : o = .ok a en st) {Q : β → Hp → Prop} (k : ∀ b s', s'.en = en → s'.st = st → SR G.K G.CA Fr s' σ → Ext s s' σ σ → rep Fr s s' σ a b → Q b s'.H) : Post G W rep Fr s σ Q o := by
  subst e; exact k
end
end Ev

end
section
set_option linter.all false
set_option maxRecDepth 100000
/-! Snd12: list comprehensions. -/
namespace Ev
open PySem PySem.Spec PyProof.Rows L2
theorem Ext.writeFr {s s1 : ST} {σ σ' : L2.St} {D0 : Addr} {o : HO} (x : Ext s s1 σ σ') (n : s.H D0 = none) : Ext s { s1 with H := upd s1.H D0 o } σ σ' :=
  ⟨fun a u e w => by show upd s1.H D0 o a = some u; rw [upd_ne (ne_of_none e n)]; exact x.keep a u e w, fun a z => x.wr a z, fun a z => by
    show upd s1.H D0 o a ≠ none
    by_cases q : a = D0
    · subst q; rw [upd_same]; simp
    · rw [upd_ne q]; exact x.sm a z, x.pre⟩
section
variable {G : Gm} {W : WX} {X : Cx} {T0 : Tab} {F : Fn} {tg elt iter : Expr} {ifs : List Expr} {it c e : E} {t : T} {pos : Pos} {scope : Scope} {own : List (Str × Nat)}
def turn1 (T0 : Tab) (F : Fn) (t : T) (c e : E) (ow : List Nat) (d : D) (acc : List D) (en : Env) (st : Store) : Out (List D) :=
  (assignT T0 F t d en st).bind fun _ en st => (evT T0 F c en st).bind fun b en st =>
    if b then (evalE T0 F e en st).bind fun x en st => (Out.of x.item en st).bind fun x en st => .ok (acc ++ [x]) (wipeE en ow) st else .ok acc (wipeE en ow) st
/-- something may be laid by the way -/
theorem laid_or {K : PySem.W.Frag} {CA : Nat → Addr} {Fr : Addr → Prop} {s : ST} {σ : L2.St} {H' : Hp} (h : SR K CA Fr s σ) (q : H' = s.H ∨ ∃ p o, s.H p = none ∧ H' = upd s.H p o) :
    ∃ s2, s2.H = H' ∧ s2.en = s.en ∧ s2.st = s.st ∧ s2.m = s.m ∧ SR K CA Fr s2 σ ∧ Ext s s2 σ σ := by
  rcases q with q | ⟨p, o, hp, q⟩
  · exact ⟨s, q.symm, rfl, rfl, rfl, h, Ext.refl⟩
  · exact ⟨s.laid p o, q.symm, rfl, rfl, rfl, h.laid hp, Ext.laid hp⟩
theorem comp_imp {ow : List Nat} (htg : ∀ i ∈ tgs t, i ∈ ow) (σ : L2.St) (H : Hp) (Q : VK) (h : rE G W T0 F (.comp ow t it c e) σ H Q) :
    tLc (fun σ H R => rIt G W T0 F it σ H fun J H1 => HLen H1 → R J H1) (rG G WF T0 F t) (rT G WF T0 F c) (rE G WF T0 F e) ow σ H Q := by
    obtain ⟨Fr, s, eH, h0, p0⟩ := h
    subst eH
    have p : Post G W (rV G) Fr s σ Q ((evI T0 F it s.en s.st).bind fun ds en st => if ow.any (isOwn en) then .bad else
      (noX (accL (turn1 T0 F t c e ow) ds [] (wipeE en ow) st)).bind fun ds en' st => .ok (.own ds) (backE en en' ow) st) := p0
    clear p0
    refine ⟨Fr, s, rfl, h0, (Post.bind (rep := rI G) p).imp fun J H1 ⟨s1, ds, eH, h1, x1, r1, _, p1, _⟩ hl D0 hD => ?_⟩
    subst eH
    have hl := r1.2 hl
    cases no : ow.any (isOwn s1.en) with
    | true => simp only [no] at p1; exact p1.elim
    | false =>
    simp only [no] at p1
    cases qa : accL (turn1 T0 F t c e ow) ds [] (wipeE s1.en ow) s1.st with
    | bad => rw [qa] at p1; exact p1.elim
    | exc _ _ _ _ => rw [qa] at p1; exact p1.elim
    | ok acc enF stF =>
    rw [qa] at p1
    have p1 : Post G W (rV G) Fr s σ Q (.ok (.own acc) (backE s1.en enF ow) stF) := p1
    obtain ⟨hw1, xw⟩ := h1.wipd ow
    have kf : ∀ a, And1 Fr D0 a → Fr a ∨ s1.H a = none := fun a z => z.imp id fun (q : a = D0) => by rw [q]; exact hD
    refine ⟨fun i m H => ∃ si a av, si.H = H ∧ SR G.K G.CA (And1 Fr D0) si (wipe σ ow) ∧ Ext s1 si σ (wipe σ ow) ∧ ¬ Wr si (wipe σ ow) D0 ∧ H D0 = some (.lst av) ∧ Reps G.K G.CA (Av (And1 Fr D0) si (wipe σ ow)) si.H a av ∧
      m = ds.length - i ∧ a.length ≤ i ∧ i ≤ ds.length ∧ accL (turn1 T0 F t c e ow) (ds.drop i) a si.en si.st = .ok acc enF stF,
      ⟨ds.length, ({ s1 with en := wipeE s1.en ow } : ST).laid D0 (.lst []), [], [], rfl, hw1.more hD, xw.trans (Ext.laid hD), fun z => hw1.wrTrk z hD, upd_same, rfl, rfl, Nat.le_refl _, Nat.zero_le _, qa⟩, ?_⟩
    rintro i m H ⟨si, a, av, eH, hsi, xi, nw, eD, ra, em, la, li, qi⟩
    subst eH
    have hz : ∀ b u, s1.H b = some u → ¬ Av Fr s1 σ b → si.H b = some u ∧ ¬ Av (And1 Fr D0) si (wipe σ ow) b := fun b u q n => by
      refine ⟨xi.keep b u q fun z => n (.inl z), fun z => ?_⟩
      rcases z with z | z
      · exact xi.nwr (by rw [q]; simp) (fun z => n (.inl z)) z
      · rcases kf b z with z | z
        · exact n (.inr z)
        · rw [q] at z; cases z
    obtain ⟨w1, w2⟩ := r1.1 si.H _ hz (fun b z => hsi.avTrk z) i
    by_cases hi : i < ds.length
    · obtain ⟨go, yl⟩ := w2 ds[i] (List.getElem?_eq_getElem hi)
      rw [List.drop_eq_getElem_cons hi] at qi
      obtain ⟨a1, en1, st1, q1, q2⟩ := Out.bind_ok (show (turn1 T0 F t c e ow ds[i] a si.en si.st).bind (fun acc en st => accL (turn1 T0 F t c e ow) (ds.drop (i + 1)) acc en st) = _ from qi)
      obtain ⟨_, en2, st2, q3, q4⟩ := Out.bind_ok (show (assignT T0 F t ds[i] si.en si.st).bind _ = _ from q1)
      obtain ⟨b, en3, st3, q5, q6⟩ := Out.bind_ok q4
      refine .inr ⟨go, _, fun H' z => ⟨ds.length - (i + 1), by omega, z⟩, fun x H' y => ?_⟩
      obtain ⟨hh, rx⟩ := yl x H' y
      obtain ⟨s2, eH, e2, e3, e4, h2, x2⟩ := laid_or hsi hh
      subst eH
      have rx : Rep G.K G.CA (Av (And1 Fr D0) s2 (wipe σ ow)) s2.H ds[i] x := Rep.mono (fun b u q n => ⟨q, fun z => n (z.imp (fun z => by unfold Wr at z ⊢; rw [e4, e2] at z; exact z) id)⟩) _ _ rx
      refine ⟨And1 Fr D0, s2, ds[i], rfl, h2, rx, ?_⟩
      rw [e2, e3, q3]
      intro s3 σ2 e5 e6 h3 x3 off
      have ew := wipe_off off htg
      refine ⟨ew, And1 Fr D0, s3, rfl, h3, Post.okay (by rw [e5, e6]; exact q5) fun b' s4 e7 e8 h4 x4 eb => ?_⟩
      cases (show b = b' from eb)
      have x14 := (x2.trans x3).trans x4
      cases b with
      | false =>
        cases (show Out.ok a (wipeE en3 ow) st3 = .ok a1 en1 st1 from q6)
        obtain ⟨h5, x5⟩ := h4.wipd ow
        rw [ew] at h5 x5
        have x15 := x14.trans x5
        rw [if_neg (by simp)]
        exact ⟨{ s4 with en := wipeE s4.en ow }, a, av, rfl, h5, xi.trans x15, x15.nwr (by rw [eD]; simp) nw, x15.keep _ _ eD nw, x15.reps ra, rfl, by omega, hi, by show accL _ _ _ (wipeE s4.en ow) s4.st = _; rw [e7, e8]; exact q2⟩
      | true =>
        obtain ⟨x0, en5, st5, q7, q8⟩ := Out.bind_ok (show (evalE T0 F e en3 st3).bind _ = _ from q6)
        obtain ⟨x1', en6, st6, q9, q10⟩ := Out.bind_ok q8
        obtain ⟨qx, rfl, rfl⟩ := Out.of_ok q9
        cases (show Out.ok (a ++ [x1']) (wipeE en6 ow) st6 = .ok a1 en1 st1 from q10)
        rw [if_pos rfl]
        refine ⟨And1 Fr D0, s4, rfl, h4, Post.okay (by rw [e7, e8]; exact q7) fun yv s5 e9 e10 h5 x5 ry => ?_⟩
        have x15 := x14.trans x5
        have eD5 := x15.keep _ _ eD nw
        have nw5 := x15.nwr (by rw [eD]; simp) nw
        obtain ⟨h6, kd⟩ := h5.writeFr (ws := av ++ [yv]) (.inr rfl) nw5 eD5
        obtain ⟨h7, x7⟩ := h6.wipd ow
        rw [ew] at h7 x7
        refine ⟨av, eD5, by rw [ra.length, lim_eq]; omega, { s5 with en := wipeE s5.en ow, H := upd s5.H D0 (.lst (av ++ [yv])) }, a ++ [x1'], av ++ [yv], rfl, h7, Ext.trans ((xi.trans x15).writeFr hD) x7, x7.nwr (by show upd _ _ _ _ ≠ none; rw [upd_same]; simp) nw5, upd_same, ?_, rfl, ?_, hi, ?_⟩
        · exact x7.reps (Reps.mono kd _ _ ((x15.reps ra).append ⟨yv, [], rfl, ry.item qx, rfl⟩))
        · rw [List.length_append]; simp; omega
        · show accL _ _ _ (wipeE s5.en ow) s5.st = _
          rw [e9, e10]; exact q2
    · have hi : i = ds.length := by omega
      subst hi
      rw [List.drop_length] at qi
      cases (show Out.ok a si.en si.st = .ok acc enF stF from qi)
      refine .inl ⟨w1 (Nat.le_refl _), ?_⟩
      obtain ⟨h2, x2, k2⟩ := h1.back no hsi kf xi
      refine p1 (.ref D0) { si with en := backE s1.en si.en ow } rfl rfl (h2.less fun b z => .inl z) (x1.trans x2) ⟨D0, av, rfl, x1.none_of hD, eD, fun z => ?_, ?_, h2⟩
      · rcases z with z | z
        · exact nw (k2 _ z)
        · exact h1.trk _ z hD
      · exact Reps.mono (fun b u q n => ⟨q, fun z => n (z.imp (k2 b) id)⟩) _ _ ra
theorem e_comp (hc : X.calm = true) (hN : X.N.Nodup) (ok : BlkOk X.N X.env.scope scope own) (hi : PI X tg iter (rIt G W T0 F it))
    (hg : ∀ (s : Shared) (H : Hp) (C : Addr) (cl : List (Str × Addr)) (fp : List Addr), PG (X.blk s H scope (compEnvC scope cl C X.env) fp) tg (rG G WF T0 F t))
    (ht : ∀ (s : Shared) (H : Hp) (C : Addr) (cl : List (Str × Addr)) (fp : List Addr), PTs (X.blk s H scope (compEnvC scope cl C X.env) fp) ifs (rT G WF T0 F c))
    (he : ∀ (s : Shared) (H : Hp) (C : Addr) (cl : List (Str × Addr)) (fp : List Addr), PE (X.blk s H scope (compEnvC scope cl C X.env) fp) elt (rE G WF T0 F e))
    (hs : ∀ x, foldedSetIterable iter X.env x = pure x) (htg : ∀ i ∈ tgs t, i ∈ own.map (·.2)) :
    PE X (.ListComp elt [⟨tg, iter, ifs, 0⟩] scope pos) (rE G W T0 F (.comp (own.map (·.2)) t it c e)) :=
  PE.imp (pe_lc hc hN (PI.len hi) ok hg ht he hs) (comp_imp htg)
end
end Ev

end
section
set_option linter.all false
set_option maxRecDepth 100000
/-! Snd13: built-in functions. -/
namespace Ev
open PySem PySem.Spec PyProof.Rows L2
def RepWs (K : PySem.W.Frag) (CA : Nat → Addr) (Z : Addr → Prop) (H : Hp) : List D → List V → Prop
  | [], vs => vs = []
  | d :: ds, vs => ∃ v r, vs = v :: r ∧ RepW K CA Z H d v ∧ RepWs K CA Z H ds r
section
variable {K : PySem.W.Frag} {CA : Nat → Addr} {Fr : Addr → Prop} {s : ST} {σ : L2.St} {H : Hp}
theorem RepW.less {Z Z' : Addr → Prop} (k : ∀ a, Z' a → Z a) {d : D} {v : V} (r : RepW K CA Z H d v) : RepW K CA Z' H d v := by
  have kd : ∀ a u, H a = some u → ¬ Z a → H a = some u ∧ ¬ Z' a := fun a u e n => ⟨e, fun z => n (k a z)⟩
  cases d with
  | own xs => obtain ⟨a, vs, e, q, r⟩ := r; exact ⟨a, vs, e, q, Reps.mono kd _ _ r⟩
  | lst xs => obtain ⟨a, vs, e, q, r⟩ := r; exact ⟨a, vs, e, q, Reps.mono kd _ _ r⟩
  | pk _ => exact r
  | cell _ => exact r
  | non => exact Rep.mono kd _ v r
  | bl _ => exact Rep.mono kd _ v r
  | int _ => exact Rep.mono kd _ v r
  | str _ => exact Rep.mono kd _ v r
  | tup _ => exact Rep.mono kd _ v r
  | frz _ => exact Rep.mono kd _ v r
  | ins _ _ => exact Rep.mono kd _ v r
theorem RepVs.res {G : Gm} {base : ST} : ∀ {ds : List D} {vs : List V} {Fr : Addr → Prop}, RepVs G Fr base s σ ds vs → RepWs G.K G.CA (Av Fr s σ) s.H (ds.map fun d => Ev.res d s.en s.st) vs
  | [], vs, Fr, ⟨e, _⟩ => e
  | d :: ds, vs, Fr, ⟨v, r, e, h1, t⟩ => ⟨v, r, e, (h1.res ((RepVs.srAll t).less (FrO.less (frOf.more d v) ds r)) Ext.refl).less (fun a z => z.imp id .inl), RepWs.more (frOf.more d v) (RepVs.res t)⟩
where
  RepWs.more {Fr Fr' : Addr → Prop} (k : ∀ a, Fr a → Fr' a) : ∀ {ds : List D} {vs : List V}, RepWs G.K G.CA (Av Fr' s σ) s.H ds vs → RepWs G.K G.CA (Av Fr s σ) s.H ds vs
    | [], vs, e => e
    | d :: ds, vs, ⟨v, r, e, h1, t⟩ => ⟨v, r, e, h1.less fun a z => z.imp id (k a), RepWs.more k t⟩
end
section
variable {G : Gm} {W : WX} {X : Cx} {T0 : Tab} {F : Fn} {a b c : Expr} {es : List Expr} {ia ib ic ir : E} {pos p1 p2 p3 p4 : Pos}
def rBi (G : Gm) (f : Bi) : List V → Hp → VK → Prop := fun vs H Q => ∃ Fr s σ ds d, s.H = H ∧ SR G.K G.CA Fr s σ ∧ RepWs G.K G.CA (Av Fr s σ) H ds vs ∧ bi f ds = some d ∧ Fin G Fr s σ d Q
theorem RepWs.one {K : PySem.W.Frag} {CA : Nat → Addr} {Z : Addr → Prop} {H : Hp} {d : D} {vs : List V} (h : RepWs K CA Z H [d] vs) : ∃ v, vs = [v] ∧ RepW K CA Z H d v := by
  obtain ⟨v, r, e, h, e2⟩ := h
  cases (show r = [] from e2)
  exact ⟨v, e, h⟩
theorem RepWs.two {K : PySem.W.Frag} {CA : Nat → Addr} {Z : Addr → Prop} {H : Hp} {d e : D} {vs : List V} (h : RepWs K CA Z H [d, e] vs) : ∃ v w, vs = [v, w] ∧ RepW K CA Z H d v ∧ RepW K CA Z H e w := by
  obtain ⟨v, r, e', h, h2⟩ := h
  obtain ⟨w, e2, h3⟩ := RepWs.one h2
  exact ⟨v, w, by rw [e', e2], h, h3⟩
theorem bi_one {f : Bi} {ds : List D} {d : D} (h : bi f ds = some d) (n : ∀ x y, bi2 f x y = none) : ∃ x, ds = [x] ∧ bi1 f x = some d := by
  match ds, h with
  | [x], h => exact ⟨x, rfl, h⟩
  | [x, y], h => rw [show bi f [x, y] = bi2 f x y from rfl, n] at h; cases h
theorem bi_two {f : Bi} {ds : List D} {d : D} (h : bi f ds = some d) (n : ∀ x, bi1 f x = none) : ∃ x y, ds = [x, y] ∧ bi2 f x y = some d := by
  match ds, h with
  | [x], h => rw [show bi f [x] = bi1 f x from rfl, n] at h; cases h
  | [x, y], h => exact ⟨x, y, rfl, h⟩
theorem CallR.imp {f : Value} {r r' : List V → Hp → VK → Prop} (h : CallR X f r) (k : ∀ vs H Q, r' vs H Q → r vs H Q) : CallR X f r' := fun pins s σ H xs us Q I rv q => h pins s σ H xs us Q I rv (k _ _ _ q)
theorem bi_len (hK : X.K = G.K) : CallR X (.builtin "len") (rBi G .len) := CallR.imp (CallR.or call_len_seq call_len_str) fun vs H Q ⟨Fr, s, σ, ds, d, eH, hs, r0, e0, f⟩ => by
  subst eH
  obtain ⟨x, rfl, e⟩ := bi_one e0 fun _ _ => rfl
  obtain ⟨v, rfl, r⟩ := RepWs.one r0
  have go : ∀ xs, x.seq = some xs → D.int xs.length = d → ∃ p ys, [v] = [V.ref p] ∧ (SqL X.K s.H p ys ∨ SqT X.K s.H p ys) ∧ Q (.int ys.length) s.H := fun xs q e => by
    subst e
    obtain ⟨a, ws, rfl, sq, t⟩ := r.seq q
    exact ⟨a, ws, rfl, hK ▸ sq, by rw [t.length]; exact f.int hs⟩
  cases x with
  | str z =>
    obtain ⟨k, rfl⟩ := chk_some (show chk (decide (z.length ≤ lim)) (D.int z.length) = some d from e)
    cases (show v = .str z from r)
    exact .inr ⟨z, rfl, by rw [lim_eq]; exact of_decide_eq_true k, f.int hs⟩
  | tup xs => exact .inl (go xs rfl (Option.some.inj e))
  | lst xs => exact .inl (go xs rfl (Option.some.inj e))
  | own xs => exact .inl (go xs rfl (Option.some.inj e))
  | frz xs => exact .inl (go xs rfl (Option.some.inj e))
  | non => cases e
  | bl _ => cases e
  | int _ => cases e
  | pk _ => cases e
  | cell _ => cases e
  | ins _ _ => cases e
theorem seq_or {d : D} {xs : List D} (h : d.seq = some xs) : d.seqL = some xs ∨ d.seqT = some xs := by
  cases d <;> first | exact .inl h | exact .inr h | exact nomatch h
theorem bi_sum (hK : X.K = G.K) (hc : X.calm = true) : CallR X (.builtin "sum") (rBi G .sum) := CallR.imp (CallR.or (cr_sum hc) (cr_sumT hc)) fun vs H Q ⟨Fr, s, σ, ds, d, eH, hs, r0, e0, f⟩ => by
  subst eH
  obtain ⟨x, rfl, e⟩ := bi_one e0 fun _ _ => rfl
  obtain ⟨v, rfl, r⟩ := RepWs.one r0
  have e : (match x.seq with
    | some xs => (asInts xs).map fun is => D.int is.sum
    | none => none) = some d := e
  cases q : x.seq with
  | none => rw [q] at e; cases e
  | some xs =>
    rw [q] at e
    obtain ⟨ns, q2, rfl⟩ := Option.map_eq_some_iff.mp e
    rcases seq_or q with q | q
    · obtain ⟨a, ws, rfl, sq, t⟩ := r.seqL q
      cases t.ints q2
      exact .inl ⟨a, ns, rfl, hK ▸ sq, f.int hs⟩
    · obtain ⟨a, ws, rfl, sq, _, t⟩ := r.seqT q
      cases t.ints q2
      exact .inr ⟨a, ns, rfl, hK ▸ sq, f.int hs⟩
theorem foldl_max : ∀ (xs : List Int) (x : Int), (xs.foldl max x = x ∨ xs.foldl max x ∈ xs) ∧ x ≤ xs.foldl max x ∧ ∀ y ∈ xs, y ≤ xs.foldl max x
  | [], x => ⟨.inl rfl, Int.le_refl _, fun _ h => by cases h⟩
  | y :: r, x => by
    obtain ⟨h1, h2, h3⟩ := foldl_max r (max x y)
    have e : (y :: r).foldl max x = r.foldl max (max x y) := rfl
    rw [e]
    refine ⟨?_, by omega, fun z hz => ?_⟩
    · rcases h1 with h1 | h1
      · by_cases c : x ≤ y
        · right; rw [h1, Int.max_eq_right c]; exact List.mem_cons_self
        · left; rw [h1, Int.max_eq_left (by omega)]
      · exact .inr (List.mem_cons_of_mem _ h1)
    · rcases List.mem_cons.mp hz with rfl | hz
      · omega
      · exact h3 z hz
theorem foldl_min : ∀ (xs : List Int) (x : Int), (xs.foldl min x = x ∨ xs.foldl min x ∈ xs) ∧ xs.foldl min x ≤ x ∧ ∀ y ∈ xs, xs.foldl min x ≤ y
  | [], x => ⟨.inl rfl, Int.le_refl _, fun _ h => by cases h⟩
  | y :: r, x => by
    obtain ⟨h1, h2, h3⟩ := foldl_min r (min x y)
    have e : (y :: r).foldl min x = r.foldl min (min x y) := rfl
    rw [e]
    refine ⟨?_, by omega, fun z hz => ?_⟩
    · rcases h1 with h1 | h1
      · by_cases c : x ≤ y
        · left; rw [h1, Int.min_eq_left c]
        · right; rw [h1, Int.min_eq_right (by omega)]; exact List.mem_cons_self
      · exact .inr (List.mem_cons_of_mem _ h1)
    · rcases List.mem_cons.mp hz with rfl | hz
      · omega
      · exact h3 z hz
theorem listMax_eq {ns : List Int} {m k : Int} (h : listMax ns = some m) (h1 : k ∈ ns) (h2 : ∀ y ∈ ns, y ≤ k) : k = m := by
  cases ns with
  | nil => cases h
  | cons x r =>
    cases h
    obtain ⟨g1, g2, g3⟩ := foldl_max r x
    have a1 : k ≤ r.foldl max x := by
      rcases List.mem_cons.mp h1 with rfl | h1
      · exact g2
      · exact g3 k h1
    have a2 : r.foldl max x ≤ k := by
      rcases g1 with g1 | g1
      · rw [g1]; exact h2 x List.mem_cons_self
      · exact h2 _ (List.mem_cons_of_mem _ g1)
    omega
theorem listMin_eq {ns : List Int} {m k : Int} (h : listMin ns = some m) (h1 : k ∈ ns) (h2 : ∀ y ∈ ns, k ≤ y) : k = m := by
  cases ns with
  | nil => cases h
  | cons x r =>
    cases h
    obtain ⟨g1, g2, g3⟩ := foldl_min r x
    have a1 : r.foldl min x ≤ k := by
      rcases List.mem_cons.mp h1 with rfl | h1
      · exact g2
      · exact g3 k h1
    have a2 : k ≤ r.foldl min x := by
      rcases g1 with g1 | g1
      · rw [g1]; exact h2 x List.mem_cons_self
      · exact h2 _ (List.mem_cons_of_mem _ g1)
    omega
theorem listMax_ne {ns : List Int} {m : Int} (h : listMax ns = some m) : 0 < ns.length := by cases ns with
  | nil => cases h
  | cons x r => simp
theorem listMin_ne {ns : List Int} {m : Int} (h : listMin ns = some m) : 0 < ns.length := by cases ns with
  | nil => cases h
  | cons x r => simp
theorem bi_max1 (hK : X.K = G.K) (hc : X.calm = true) : CallR X (.builtin "max") (rBi G .max1) := CallR.imp (CallR.or (cr_max hc) (cr_maxT hc)) fun vs H Q ⟨Fr, s, σ, ds, d, eH, hs, r0, e0, f⟩ => by
  subst eH
  obtain ⟨x, rfl, e⟩ := bi_one e0 fun _ _ => rfl
  obtain ⟨v, rfl, r⟩ := RepWs.one r0
  have e : (match x.seq with
    | some xs => (match asInts xs with
      | some is => (listMax is).map D.int
      | none => none)
    | none => none) = some d := e
  cases q : x.seq with
  | none => rw [q] at e; cases e
  | some xs =>
    rw [q] at e
    cases q2 : asInts xs with
    | none => simp only [q2] at e; cases e
    | some ns =>
    simp only [q2] at e
    obtain ⟨m, q3, rfl⟩ := Option.map_eq_some_iff.mp e
    rcases seq_or q with q | q
    · obtain ⟨a, ws, rfl, sq, t⟩ := r.seqL q
      cases t.ints q2
      exact .inl ⟨a, ns, rfl, hK ▸ sq, listMax_ne q3, fun k h1 h2 => by rw [listMax_eq q3 h1 h2]; exact f.int hs⟩
    · obtain ⟨a, ws, rfl, sq, _, t⟩ := r.seqT q
      cases t.ints q2
      exact .inr ⟨a, ns, rfl, hK ▸ sq, listMax_ne q3, fun k h1 h2 => by rw [listMax_eq q3 h1 h2]; exact f.int hs⟩
theorem bi_min1 (hK : X.K = G.K) (hc : X.calm = true) : CallR X (.builtin "min") (rBi G .min1) := CallR.imp (CallR.or (cr_min hc) (cr_minT hc)) fun vs H Q ⟨Fr, s, σ, ds, d, eH, hs, r0, e0, f⟩ => by
  subst eH
  obtain ⟨x, rfl, e⟩ := bi_one e0 fun _ _ => rfl
  obtain ⟨v, rfl, r⟩ := RepWs.one r0
  have e : (match x.seq with
    | some xs => (match asInts xs with
      | some is => (listMin is).map D.int
      | none => none)
    | none => none) = some d := e
  cases q : x.seq with
  | none => rw [q] at e; cases e
  | some xs =>
    rw [q] at e
    cases q2 : asInts xs with
    | none => simp only [q2] at e; cases e
    | some ns =>
    simp only [q2] at e
    obtain ⟨m, q3, rfl⟩ := Option.map_eq_some_iff.mp e
    rcases seq_or q with q | q
    · obtain ⟨a, ws, rfl, sq, t⟩ := r.seqL q
      cases t.ints q2
      exact .inl ⟨a, ns, rfl, hK ▸ sq, listMin_ne q3, fun k h1 h2 => by rw [listMin_eq q3 h1 h2]; exact f.int hs⟩
    · obtain ⟨a, ws, rfl, sq, _, t⟩ := r.seqT q
      cases t.ints q2
      exact .inr ⟨a, ns, rfl, hK ▸ sq, listMin_ne q3, fun k h1 h2 => by rw [listMin_eq q3 h1 h2]; exact f.int hs⟩
theorem bi2_max2 {x y d : D} (h : bi2 .max2 x y = some d) : ∃ i j, x = .int i ∧ y = .int j ∧ .int (if j > i then j else i) = d := by
  cases x <;> cases y <;> first | exact ⟨_, _, rfl, rfl, Option.some.inj h⟩ | exact nomatch h
theorem bi2_min2 {x y d : D} (h : bi2 .min2 x y = some d) : ∃ i j, x = .int i ∧ y = .int j ∧ .int (if j < i then j else i) = d := by
  cases x <;> cases y <;> first | exact ⟨_, _, rfl, rfl, Option.some.inj h⟩ | exact nomatch h
theorem bi_max2 (hc : X.calm = true) : CallR X (.builtin "max") (rBi G .max2) := CallR.imp (call_max2 hc) fun vs H Q ⟨Fr, s, σ, ds, d, eH, hs, r0, e0, f⟩ => by
  subst eH
  obtain ⟨x, y, rfl, e⟩ := bi_two e0 fun x => by cases x <;> rfl
  obtain ⟨i, j, rfl, rfl, rfl⟩ := bi2_max2 e
  obtain ⟨v, w, rfl, r1, r2⟩ := RepWs.two r0
  cases (show v = .int i from r1)
  cases (show w = .int j from r2)
  exact ⟨i, j, rfl, f.int hs⟩
theorem bi_min2 (hc : X.calm = true) : CallR X (.builtin "min") (rBi G .min2) := CallR.imp (call_min2 hc) fun vs H Q ⟨Fr, s, σ, ds, d, eH, hs, r0, e0, f⟩ => by
  subst eH
  obtain ⟨x, y, rfl, e⟩ := bi_two e0 fun x => by cases x <;> rfl
  obtain ⟨i, j, rfl, rfl, rfl⟩ := bi2_min2 e
  obtain ⟨v, w, rfl, r1, r2⟩ := RepWs.two r0
  cases (show v = .int i from r1)
  cases (show w = .int j from r2)
  exact ⟨i, j, rfl, f.int hs⟩
theorem bi1_abs {x d : D} (h : bi1 .abs x = some d) : ∃ i, x = .int i ∧ .int (if i < 0 then -i else i) = d := by
  cases x <;> first | exact ⟨_, rfl, Option.some.inj h⟩ | exact nomatch h
theorem bi1_int {x d : D} (h : bi1 .toInt x = some d) : (∃ i, x = .int i ∧ .int i = d) ∨ ∃ b, x = .bl b ∧ .int (if b then 1 else 0) = d := by
  cases x <;> first | exact .inl ⟨_, rfl, Option.some.inj h⟩ | exact .inr ⟨_, rfl, Option.some.inj h⟩ | exact nomatch h
theorem bi_abs : CallR X (.builtin "abs") (rBi G .abs) := CallR.imp call_abs fun vs H Q ⟨Fr, s, σ, ds, d, eH, hs, r0, e0, f⟩ => by
  subst eH
  obtain ⟨x, rfl, e⟩ := bi_one e0 fun _ _ => rfl
  obtain ⟨i, rfl, rfl⟩ := bi1_abs e
  obtain ⟨v, rfl, r1⟩ := RepWs.one r0
  cases (show v = .int i from r1)
  exact ⟨i, rfl, f.int hs⟩
theorem bi_int : CallR X (.type "int") (rBi G .toInt) := CallR.imp call_int1 fun vs H Q ⟨Fr, s, σ, ds, d, eH, hs, r0, e0, f⟩ => by
  subst eH
  obtain ⟨x, rfl, e⟩ := bi_one e0 fun _ _ => rfl
  obtain ⟨v, rfl, r1⟩ := RepWs.one r0
  rcases bi1_int e with ⟨i, rfl, rfl⟩ | ⟨b, rfl, rfl⟩
  · cases (show v = .int i from r1)
    exact .inl ⟨i, rfl, f.int hs⟩
  · cases (show v = .bl b from r1)
    exact .inr ⟨b, rfl, f.int hs⟩
theorem bi_tuple (hK : X.K = G.K) : CallR X (.type "tuple") (rBi G .toTup) := CallR.imp call_tuple_of fun vs H Q ⟨Fr, s, σ, ds, d, eH, hs, r0, e0, f⟩ => by
  subst eH
  obtain ⟨x, rfl, e⟩ := bi_one e0 fun _ _ => rfl
  obtain ⟨v, rfl, r⟩ := RepWs.one r0
  obtain ⟨xs, q, rfl⟩ := Option.map_eq_some_iff.mp (show x.seq.map D.tup = some d from e)
  rcases seq_or q with q | q
  · obtain ⟨a, ws, rfl, sq, t⟩ := r.seqL q
    exact ⟨a, ws, rfl, .inl ⟨hK ▸ sq, f.tup hs t⟩⟩
  · cases x with
    | tup ys =>
      cases q
      obtain ⟨a, ws, rfl, sq, _, t⟩ := r.seqT (xs := _) rfl
      exact ⟨a, ws, rfl, .inr ⟨hK ▸ sq, f.tupOld hs r⟩⟩
    | _ => cases q
theorem bi_list (hK : X.K = G.K) : CallR X (.type "list") (rBi G .toLst) := CallR.imp call_list_of fun vs H Q ⟨Fr, s, σ, ds, d, eH, hs, r0, e0, f⟩ => by
  subst eH
  obtain ⟨x, rfl, e⟩ := bi_one e0 fun _ _ => rfl
  obtain ⟨v, rfl, r⟩ := RepWs.one r0
  obtain ⟨xs, q, rfl⟩ := Option.map_eq_some_iff.mp (show x.seq.map D.own = some d from e)
  obtain ⟨a, ws, rfl, sq, t⟩ := r.seq q
  exact ⟨a, ws, rfl, hK ▸ sq, f.own hs t⟩
theorem sortI_eq {ns ms : List Int} (h1 : ms.Perm ns) (h2 : ms.Pairwise (· ≤ ·)) : ms = sortI ns := by
  have s1 : (sortI ns).Pairwise (fun a b => decide (a ≤ b) = true) := List.pairwise_mergeSort (fun a b c h h' => by simp at h h' ⊢; omega) (fun a b => by simp; omega) ns
  have s2 : (sortI ns).Pairwise (· ≤ ·) := s1.imp fun h => of_decide_eq_true h
  have p : ms.Perm (sortI ns) := h1.trans (List.mergeSort_perm ns _).symm
  exact p.eq_of_pairwise (fun a b _ _ h h' => Int.le_antisymm h h') h2 s2
theorem bi_sorted (hK : X.K = G.K) : CallR X (.builtin "sorted") (rBi G .sorted) := CallR.imp cr_sortedI fun vs H Q ⟨Fr, s, σ, ds, d, eH, hs, r0, e0, f⟩ => by
  subst eH
  obtain ⟨x, rfl, e⟩ := bi_one e0 fun _ _ => rfl
  obtain ⟨v, rfl, r⟩ := RepWs.one r0
  have e : (match x.seqL with
    | some xs => (asInts xs).map fun is => D.own ((sortI is).map .int)
    | none => none) = some d := e
  cases q : x.seqL with
  | none => rw [q] at e; cases e
  | some xs =>
    rw [q] at e
    obtain ⟨ns, q2, rfl⟩ := Option.map_eq_some_iff.mp e
    obtain ⟨a, ws, rfl, sq, t⟩ := r.seqL q
    cases t.ints q2
    refine ⟨a, ns, rfl, hK ▸ sq, fun ms p h1 h2 hp => ?_⟩
    rw [sortI_eq h1 h2]
    exact f.own hs (Reps.ofInts _) p hp
theorem bi_all (hK : X.K = G.K) (hc : X.calm = true) : CallR X (.builtin "all") (rBi G .all) := CallR.imp (cr_all hc) fun vs H Q ⟨Fr, s, σ, ds, d, eH, hs, r0, e0, f⟩ => by
  subst eH
  obtain ⟨x, rfl, e⟩ := bi_one e0 fun _ _ => rfl
  obtain ⟨v, rfl, r⟩ := RepWs.one r0
  have e : (match x.seqL with
    | some xs => (asBools xs).map fun is => D.bl (is.all id)
    | none => none) = some d := e
  cases q : x.seqL with
  | none => rw [q] at e; cases e
  | some xs =>
    rw [q] at e
    obtain ⟨ns, q2, rfl⟩ := Option.map_eq_some_iff.mp e
    obtain ⟨a, ws, rfl, sq, t⟩ := r.seqL q
    cases t.bools q2
    exact ⟨a, ns, rfl, hK ▸ sq, f.bl hs⟩
theorem bi_any (hK : X.K = G.K) (hc : X.calm = true) : CallR X (.builtin "any") (rBi G .any) := CallR.imp (cr_any hc) fun vs H Q ⟨Fr, s, σ, ds, d, eH, hs, r0, e0, f⟩ => by
  subst eH
  obtain ⟨x, rfl, e⟩ := bi_one e0 fun _ _ => rfl
  obtain ⟨v, rfl, r⟩ := RepWs.one r0
  have e : (match x.seqL with
    | some xs => (asBools xs).map fun is => D.bl (is.any id)
    | none => none) = some d := e
  cases q : x.seqL with
  | none => rw [q] at e; cases e
  | some xs =>
    rw [q] at e
    obtain ⟨ns, q2, rfl⟩ := Option.map_eq_some_iff.mp e
    obtain ⟨a, ws, rfl, sq, t⟩ := r.seqL q
    cases t.bools q2
    exact ⟨a, ns, rfl, hK ▸ sq, f.bl hs⟩
/-- the builtin's name, its value -/
def biVal : Bi → Value
  | .len => .builtin "len" | .sum => .builtin "sum" | .max1 => .builtin "max" | .min1 => .builtin "min" | .max2 => .builtin "max" | .min2 => .builtin "min" | .abs => .builtin "abs"
  | .toInt => .type "int" | .toStr => .none | .toTup => .type "tuple" | .toLst => .type "list" | .sorted => .builtin "sorted" | .sortset => .none | .all => .builtin "all" | .any => .builtin "any"
theorem bi_all_of (hK : X.K = G.K) (hc : X.calm = true) {f : Bi} (hf : biVal f ≠ .none) : CallR X (biVal f) (rBi G f) := by
  cases f with
  | len => exact bi_len hK
  | sum => exact bi_sum hK hc
  | max1 => exact bi_max1 hK hc
  | min1 => exact bi_min1 hK hc
  | max2 => exact bi_max2 hc
  | min2 => exact bi_min2 hc
  | abs => exact bi_abs
  | toInt => exact bi_int
  | toTup => exact bi_tuple hK
  | toLst => exact bi_list hK
  | sorted => exact bi_sorted hK
  | all => exact bi_all hK hc
  | any => exact bi_any hK hc
  | toStr => exact absurd rfl hf
  | sortset => exact absurd rfl hf
theorem bi_te {f : Bi} {σ : L2.St} {H : Hp} {Q : VK} (h : rE G W T0 F (.bi f ia) σ H Q) : tCB (rBi G f) (rAs G W T0 F ia) σ H Q :=
  (R.bind (rep := rA G) h).imp fun vs H1 ⟨Fr, s, s1, d1, e, h1, x1, ⟨ds, e1, r1⟩, p1, _⟩ => by
    subst e e1
    obtain ⟨d, q, p2⟩ := p1.of
    exact ⟨Fr, s1, σ, _, d, rfl, h1, r1.res, q, p2⟩
theorem e_biF {f : Bi} {x : Str} {id : String} (hK : X.K = G.K) (hc : X.calm = true) (hid : biVal f = .builtin id) (hg : Gl X x) (hm : X.mg x = none) (hv : bootBuiltins x = some (.builtin id)) (ha : PA X (a :: es) (rAs G W T0 F ia)) (hn : x ≠ "__name__") (hdb : (x == ("__debug__" : Str)) = false)
    (he : starEach (a :: es) X.env = (false, eval a X.env) :: starEach es X.env) (hpl : (backTo pos (starEach es X.env)).any (·.1) = false) : PE X (.Call (.Name x p1) (a :: es) [] pos) (rE G W T0 F (.bi f ia)) :=
  PE.imp (pe_callB (hid ▸ bi_all_of hK hc (by rw [hid]; exact fun z => nomatch z)) hg hm hv ha hn hdb he hpl) fun _ _ _ h => bi_te h
theorem e_biT {f : Bi} {x : Str} {id : String} (hK : X.K = G.K) (hc : X.calm = true) (hid : biVal f = .type id) (hg : Gl X x) (hm : X.mg x = none) (hv : bootBuiltins x = some (.type id)) (ha : PA X (a :: es) (rAs G W T0 F ia)) (hn : x ≠ "__name__") (hdb : (x == ("__debug__" : Str)) = false)
    (he : starEach (a :: es) X.env = (false, eval a X.env) :: starEach es X.env) (hpl : (backTo pos (starEach es X.env)).any (·.1) = false) : PE X (.Call (.Name x p1) (a :: es) [] pos) (rE G W T0 F (.bi f ia)) :=
  PE.imp (pe_callTy (hid ▸ bi_all_of hK hc (by rw [hid]; exact fun z => nomatch z)) hg hm hv ha hn hdb he hpl) fun _ _ _ h => bi_te h
end
end Ev

end
section
set_option linter.all false
set_option maxRecDepth 100000
/-! Snd14: isinstance, index, or of lists. -/
namespace Ev
open PySem PySem.Spec PyProof.Rows L2
def tyName : Ty → String
  | .int => "int" | .bool => "bool" | .str => "str" | .list => "list" | .tuple => "tuple" | .own _ => ""
def tyD : D → String
  | .non => "NoneType" | .bl _ => "bool" | .int _ => "int" | .str _ => "str" | .tup _ => "tuple" | .lst _ => "list" | .own _ => "list" | .frz _ => "list" | _ => ""
section
variable {G : Gm} {W : WX} {X : Cx} {T0 : Tab} {F : Fn} {a b c : Expr} {es : List Expr} {ia ib ic ir : E} {pos p1 p2 p3 p4 : Pos}
/-- a value's type's name -/
theorem tyx_of {Fr : Addr → Prop} {s : ST} {σ : L2.St} {d : D} {v : V} (r : RepW G.K G.CA (Av Fr s σ) s.H d v) {k : Ty} {b : Bool} (h : isTy d k = some b) :
    TyX G.K s.H v (.type (tyD d)) ∧ kitB (tyD d) (tyName k) = some b := by
  have sq : ∀ {a : Addr} {vs : List V}, SqL G.K s.H a vs → TyX G.K s.H (.ref a) (.type "list") := fun {a vs} h => by
    rcases h with (h | ⟨o, h⟩) | h
    · exact .base (.lst h)
    · exact .base (.frz h)
    · obtain ⟨o, its, n, h1, h2, _⟩ := h
      exact .kList h1 h2
  have sqt : ∀ {a : Addr} {vs : List V}, TupAt G.K (Av Fr s σ) s.H a vs → TyX G.K s.H (.ref a) (.type "tuple") := fun {a vs} h => by
    rcases h with ⟨_, h⟩ | h
    · exact .base (.tup h)
    · obtain ⟨o, its, n, h1, h2, _⟩ := h
      exact .kTuple h1 h2
  cases d with
  | non =>
    cases (show v = .non from r)
    cases k <;> cases h <;> exact ⟨.base .non, by show kitB "NoneType" _ = _; decide +kernel⟩
  | bl x =>
    cases (show v = .bl x from r)
    cases k <;> cases h <;> exact ⟨.base (.bl x), by show kitB "bool" _ = _; decide +kernel⟩
  | int x =>
    cases (show v = .int x from r)
    cases k <;> cases h <;> exact ⟨.base (.int x), by show kitB "int" _ = _; decide +kernel⟩
  | str x =>
    cases (show v = .str x from r)
    cases k <;> cases h <;> exact ⟨.base (.str x), by show kitB "str" _ = _; decide +kernel⟩
  | tup xs =>
    obtain ⟨a, vs, rfl, q, t, _⟩ := r.seqT (xs := xs) rfl
    cases k <;> cases h <;> exact ⟨sqt t, by show kitB "tuple" _ = _; decide +kernel⟩
  | lst xs =>
    obtain ⟨a, vs, rfl, q, t⟩ := r.seqL (xs := xs) rfl
    cases k <;> cases h <;> exact ⟨sq q, by show kitB "list" _ = _; decide +kernel⟩
  | own xs =>
    obtain ⟨a, vs, rfl, q, t⟩ := r.seqL (xs := xs) rfl
    cases k <;> cases h <;> exact ⟨sq q, by show kitB "list" _ = _; decide +kernel⟩
  | frz xs =>
    obtain ⟨a, vs, rfl, q, t⟩ := r.seqL (xs := xs) rfl
    cases k <;> cases h <;> exact ⟨sq q, by show kitB "list" _ = _; decide +kernel⟩
  | pk _ => cases h
  | cell _ => cases h
  | ins _ _ => cases h
/-- the second argument: classes -/
theorem kit_tys {Fr : Addr → Prop} {s : ST} {σ : L2.St} {d : D} {v : V} (r : RepW G.K G.CA (Av Fr s σ) s.H d v) : ∀ {ks : List Ty} {b : Bool}, isTys d ks = some b → PySem.W.kitAny G.K (.type (tyD d)) (ks.map fun k => .type (tyName k)) = some b
  | [], b, h => h
  | k :: ks, b, h => by
    have h : (match isTy d k, isTys d ks with
      | some b, some c => some (b || c)
      | _, _ => none) = some b := h
    cases q : isTy d k with
    | none => rw [q] at h; cases h
    | some c =>
      cases q2 : isTys d ks with
      | none => rw [q, q2] at h; cases h
      | some c2 =>
        rw [q, q2] at h
        cases h
        obtain ⟨t, kb⟩ := tyx_of r q
        exact kitAny_cons (kit_ty kb) (fun e => by rw [e, Bool.false_or]; exact kit_tys r q2) (fun e => by rw [e, Bool.true_or])
/-- a list of classes' names -/
def tyV (k : Ty) : V := .ty (tyName k)
inductive TyNames (X : Cx) : List Expr → List Ty → Prop where
  | nil : TyNames X [] []
  | cons {x : Str} {p : Pos} {k : Ty} {es : List Expr} {ks : List Ty} (hg : Gl X x) (hm : X.mg x = none) (hv : bootBuiltins x = some (.type (tyName k))) (hn : x ≠ "__name__") (hd : (x == ("__debug__" : Str)) = false) (h : TyNames X es ks) : TyNames X (.Name x p :: es) (k :: ks)
theorem pa_tys : ∀ {es : List Expr} {ks : List Ty}, TyNames X es ks → PA X es (fun _ H Q => Q (ks.map tyV) H)
  | _, _, .nil => PA.imp pa_nil fun _ _ _ h => h
  | _, _, .cons hg hm hv hn hd h => PA.imp (pa_cons (pe_bltn hg hm hv (v := tyV _) rfl hn hd) (pa_tys h) rfl) fun _ _ _ h => h
theorem tys_cls : ∀ ks : List Ty, Paired ClsV (ks.map tyV) (ks.map fun k => .type (tyName k))
  | [] => .nil
  | k :: ks => .cons (.ty _) (tys_cls ks)
theorem e_isi1 {x : Str} {k : Ty} (hK : X.K = G.K) (hg : Gl X "isinstance") (hm : X.mg "isinstance" = none) (ha : PE X a (rE G W T0 F ia)) (hs : ∀ x p, a ≠ .Starred x p)
    (hT : TyNames X [.Name x p2] [k]) : PE X (.Call (.Name "isinstance" p1) [a, .Name x p2] [] pos) (rE G W T0 F (.isi ia [k])) :=
  PE.imp (pe_callB call_isi hg hm (by decide +kernel) (pa_cons ha (pa_tys hT) (starEach_plain hs _)) (by decide) (by decide) (starEach_plain hs _) rfl) fun σ H Q h => by
    refine (R.bind (rep := rV G) h).imp fun v H1 ⟨Fr, s, s1, d1, e, h1, x1, r1, p1, _⟩ => ?_
    subst e
    obtain ⟨d, q, p2⟩ := p1.of
    obtain ⟨b, q2, rfl⟩ := Option.map_eq_some_iff.mp q
    have r2 := r1.res h1 Ext.refl
    have q3 : isTy (Ev.res d1 s1.en s1.st) k = some b := by
      unfold isTys at q2
      cases q4 : isTy (Ev.res d1 s1.en s1.st) k with
      | none => rw [q4] at q2; cases q2
      | some c =>
        rw [q4] at q2
        have e : (c || false) = b := Option.some.inj q2
        rw [Bool.or_false] at e
        rw [e]
    obtain ⟨t, kb⟩ := tyx_of r2 q3
    exact ⟨v, tyV k, _, _, b, rfl, .ty _, hK ▸ t, kit_ty kb, Fin.bl p2 h1⟩
theorem e_isiT {k : Nat} {ks : List Ty} (hK : X.K = G.K) (hg : Gl X "isinstance") (hm : X.mg "isinstance" = none) (ha : PE X a (rE G W T0 F ia)) (hs : ∀ x p, a ≠ .Starred x p)
    (hl : ks.length ≤ lim) (hne : ks ≠ []) (hT : TyNames X es ks) : PE X (.Call (.Name "isinstance" p1) [a, .Tuple es k p2] [] pos) (rE G W T0 F (.isi ia ks)) :=
  PE.imp (pe_callB call_isiT hg hm (by decide +kernel) (pa_cons ha (pa_cons (pe_tup (pa_tys hT)) pa_nil rfl) (starEach_plain hs _)) (by decide) (by decide) (starEach_plain hs _) rfl) fun σ H Q h => by
    refine (R.bind (rep := rV G) h).imp fun v H1 ⟨Fr, s, s1, d1, e, h1, x1, r1, p1, _⟩ => ?_
    subst e
    obtain ⟨d, q, p2⟩ := p1.of
    obtain ⟨b, q2, rfl⟩ := Option.map_eq_some_iff.mp q
    refine ⟨by rw [List.length_map, lim_eq]; exact hl, fun p hp => ?_⟩
    have h2 := h1.laid (o := .tup (ks.map tyV)) hp
    have r2 := r1.res h2 (Ext.laid hp)
    obtain ⟨k0, k1, rfl⟩ : ∃ k0 k1, ks = k0 :: k1 := by cases ks with
      | nil => exact absurd rfl hne
      | cons a b => exact ⟨a, b, rfl⟩
    have t : TyX G.K (s1.laid p (.tup ((k0 :: k1).map tyV))).H v (.type (tyD (Ev.res d1 s1.en s1.st))) := by
      unfold isTys at q2
      cases q4 : isTy (Ev.res d1 s1.en s1.st) k0 with
      | none => rw [q4] at q2; cases q2
      | some c => exact (tyx_of r2 q4).1
    exact ⟨v, p, _, _, _, b, rfl, upd_same, tys_cls _, hK ▸ t, hK ▸ kit_tys r2 q2, p2 (.bl b) (s1.laid p (.tup ((k0 :: k1).map tyV))) rfl rfl h2 (Ext.laid hp) rfl⟩
/-- xs.index(i) -/
theorem idxOf_spec {x : Int} : ∀ {is : List Int} {k j : Nat}, idxOf x is k = some j → ∃ m, j = k + m ∧ is[m]? = some x ∧ ∀ n z, n < m → is[n]? = some z → z ≠ x
  | [], k, j, h => by cases h
  | y :: r, k, j, h => by
    have h : (if y = x then some k else idxOf x r (k + 1)) = some j := h
    by_cases c : y = x
    · rw [if_pos c] at h
      cases h
      exact ⟨0, rfl, by rw [c]; rfl, fun n z hn => absurd hn (Nat.not_lt_zero _)⟩
    · rw [if_neg c] at h
      obtain ⟨m, rfl, h1, h2⟩ := idxOf_spec h
      refine ⟨m + 1, by omega, h1, fun n z hn hz => ?_⟩
      cases n with
      | zero => cases hz; exact c
      | succ n => exact h2 n z (by omega) hz
theorem bm_index {x d : D} {ds : List D} (h : bm .index x ds = some d) : ∃ (xs : List D) (is : List Int) (i : Int) (j : Nat), x.seqL = some xs ∧ asInts xs = some is ∧ ds = [.int i] ∧ idxOf i is 0 = some j ∧ D.int j = d := by
  unfold bm at h
  split at h
  · split at h
    · split at h
      · obtain ⟨j, q, e⟩ := Option.map_eq_some_iff.mp h
        exact ⟨_, _, _, j, by assumption, by assumption, rfl, q, e⟩
      · cases h
    · cases h
  · cases h
theorem e_index {o : Expr} {io : E} (hK : X.K = G.K) (ho : PE X o (rE G W T0 F io)) (ha : PA X [a] (rAs G W T0 F ia)) (hbase : attributeBase o "index" X.env (eval o X.env) = eval o X.env)
    (hfew : ((backTo pos (starEach [a] X.env)).all (fun x => !x.1) && (backToKw pos (keywordEach [] X.env)).all (fun x => x.1.isSome)
      && decide (([a] : List Expr).length + ([] : List Keyword).length + (if ([] : List Keyword).isEmpty then 0 else 1) < 30)) = true)
    (hline : (p1.endLine == pos.line) = true) (hs : starEach [a] X.env = (false, eval a X.env) :: starEach [] X.env) (hpl : (backTo pos (starEach [] X.env)).any (·.1) = false) :
    PE X (.Call (.Attribute o "index" p1) [a] [] pos) (rE G W T0 F (.bm .index io ia)) :=
  PE.imp (pe_bm PySem.F.plainAttrs_list PySem.F.slot_list_index PySem.F.type_list_index mt_index ho ha hbase hfew hline hs hpl) fun σ H Q h => by
    refine (R.bind (rep := rV G) h).imp fun v H1 ⟨Fr, s, s1, d1, e, h1, x1, r1, p1, _⟩ => ?_
    subst e
    obtain ⟨xs, q, p2⟩ := p1.ofB
    obtain ⟨p, vs, rfl, sq, rr⟩ := (r1.res h1 Ext.refl).seqL q
    refine ⟨.inl ⟨rfl, vs, hK ▸ sq⟩, Fr, s1, rfl, h1, (Post.bind (rep := rA G) p2).imp fun ws H2 ⟨s2, r, e, h2, x2, ⟨ds, er, r2⟩, p3, p4, _⟩ => ?_⟩
    subst e er
    obtain ⟨d, q2, p5⟩ := p3.of
    obtain ⟨ys, is, i, j, q3, q4, rfl, q5, rfl⟩ := bm_index q2
    obtain ⟨w, r, ew, rw_, r3⟩ := r2
    obtain ⟨er, _⟩ := r3
    subst er ew
    cases (show w = .int i from rw_)
    obtain ⟨p', vs', ev, sq', rr'⟩ := (r1.res h2 x2).seqL q3
    cases ev
    cases rr'.ints q4
    obtain ⟨m, ej, hm, hn⟩ := idxOf_spec q5
    have ej : j = m := by omega
    subst ej
    refine ⟨p, is.map V.int, .int i, j, .int i, rfl, rfl, hK ▸ sq', rfl, by rw [List.all_map]; exact List.all_eq_true.mpr fun _ _ => rfl, by rw [List.getElem?_map, hm]; rfl, by show (i == i) = true; exact beq_self_eq_true i, fun n z hl hz => ?_, Fin.int p5 h2⟩
    rw [List.getElem?_map] at hz
    obtain ⟨y, hy, rfl⟩ := Option.map_eq_some_iff.mp hz
    have := hn n y hl hy
    show (y == i) = false
    exact beq_eq_false_iff_ne.mpr this
theorem e_orL (hK : X.K = G.K) {rest : List Expr} (ha : PE X a (rE G W T0 F ia)) (hb : PE X (.BoolOp .Or (b :: rest) pos) (rE G W T0 F ib)) : PE X (.BoolOp .Or (a :: b :: rest) pos) (rE G W T0 F (.orL ia ib)) :=
  PE.imp (pe_orT ha hb) fun σ H Q h => by
    refine (R.bind (rep := rV G) h).imp fun v H1 ⟨Fr, s, s1, d1, e, h1, x1, r1, p1, p0, _⟩ => ?_
    subst e
    cases d1 with
    | own xs =>
      obtain ⟨p, vs, rfl, sq, rr⟩ := (r1.res h1 Ext.refl).seqL (xs := xs) rfl
      refine ⟨!vs.isEmpty, .inl ⟨vs, hK ▸ sq, rfl⟩, ?_⟩
      cases xs with
      | nil =>
        cases (show vs = [] from rr)
        exact ⟨Fr, s1, rfl, h1, p1⟩
      | cons y r =>
        obtain ⟨w, t, rfl, _⟩ := rr
        exact p0 (.ref p) s1 rfl rfl h1 x1 r1
    | _ => exact p1.elim
end
end Ev

end
section
set_option linter.all false
set_option maxRecDepth 100000
/-! Snd15: statements. -/
namespace Ev
open PySem PySem.Spec PyProof.Rows L2
section
variable (G : Gm) (W : WX)
def PostS (Fr : Addr → Prop) (s : ST) (σ : L2.St) (D : Ends) : Out Flow → Prop
  | .ok .nx en st => ∀ s' σ', s'.en = en → s'.st = st → SR G.K G.CA Fr s' σ' → Ext s s' σ σ' → D.nx σ' s'.H
  | .ok .bk en st => ∀ s' σ', s'.en = en → s'.st = st → SR G.K G.CA Fr s' σ' → Ext s s' σ σ' → D.bk σ' s'.H
  | .ok .ct en st => ∀ s' σ', s'.en = en → s'.st = st → SR G.K G.CA Fr s' σ' → Ext s s' σ σ' → D.ct σ' s'.H
  | .ok (.rt d) en st => ∀ v s' σ', s'.en = en → s'.st = st → SR G.K G.CA Fr s' σ' → Ext s s' σ σ' → RepV G.K G.CA Fr s s' σ' d v → D.rt v s'.H
  | .exc c vs en st => ∀ d s' σ', s'.en = en → s'.st = st → SR G.K G.CA Fr s' σ' → Ext s s' σ σ' → XdR G Fr s' σ' d c vs → W (.ref (G.CA c)) (some d) σ' s'.H
  | .bad => False
/-- a statement's reading by the evaluator -/
def rS (f : Env → Store → Out Flow) : TS := fun D σ H => ∃ Fr s, s.H = H ∧ SR G.K G.CA Fr s σ ∧ PostS G W Fr s σ D (f s.en s.st)
end
section
variable {G : Gm} {W : WX} {Fr : Addr → Prop} {s s1 : ST} {σ σ1 : L2.St} {D D' : Ends}
theorem RepV.base {d : Ev.D} {v : V} (k : ∀ a, s1.H a = none → s.H a = none) {s' : ST} (r : RepV G.K G.CA Fr s1 s' σ d v) : RepV G.K G.CA Fr s s' σ d v := by
  cases d with
  | own xs => obtain ⟨a, vs, e, h, r⟩ := r; exact ⟨a, vs, e, k a h, r⟩
  | _ => exact r
theorem PostS.later {o : Out Flow} (h : PostS G W Fr s σ D o) (x : Ext s s1 σ σ1) : PostS G W Fr s1 σ1 D o := by
  cases o with
  | bad => exact h
  | exc c vs en st => exact fun d s' σ' e1 e2 r y => h d s' σ' e1 e2 r (x.trans y)
  | ok f en st =>
    cases f with
    | nx => exact fun s' σ' e1 e2 r y => h s' σ' e1 e2 r (x.trans y)
    | bk => exact fun s' σ' e1 e2 r y => h s' σ' e1 e2 r (x.trans y)
    | ct => exact fun s' σ' e1 e2 r y => h s' σ' e1 e2 r (x.trans y)
    | rt d => exact fun v s' σ' e1 e2 r y q => h v s' σ' e1 e2 r (x.trans y) (q.base fun a z => x.none_of z)
/-- an expression ahead of what is left of a statement -/
theorem PostS.bindE {α β : Type} {rep : RepT α β} {o : Out α} {g : α → Env → Store → Out Flow} (h : PostS G W Fr s σ D (o.bind g)) :
    Post G W rep Fr s σ (fun b H1 => ∃ s1 a, s1.H = H1 ∧ SR G.K G.CA Fr s1 σ ∧ Ext s s1 σ σ ∧ rep Fr s s1 σ a b ∧ PostS G W Fr s1 σ D (g a s1.en s1.st) ∧ PostS G W Fr s σ D (g a s1.en s1.st) ∧ o = .ok a s1.en s1.st) o := by
  cases o with
  | bad => exact h
  | exc c vs en st => exact fun d s' e1 e2 r y => h d s' σ e1 e2 r y
  | ok a en st =>
    intro b s1 e1 e2 h1 x1 r1
    subst e1 e2
    exact ⟨s1, a, rfl, h1, x1, r1, PostS.later h x1, h, rfl⟩
theorem PostS.bindR {α β : Type} {rep : RepT α β} {f : Env → Store → Out α} {g : α → Env → Store → Out Flow} {H : Hp} (h : rS G W (fun en st => (f en st).bind g) D σ H) :
    R G W rep f σ H fun b H1 => ∃ Fr s s1 a, s1.H = H1 ∧ SR G.K G.CA Fr s1 σ ∧ Ext s s1 σ σ ∧ rep Fr s s1 σ a b ∧ PostS G W Fr s1 σ D (g a s1.en s1.st) ∧ PostS G W Fr s σ D (g a s1.en s1.st) := by
  obtain ⟨Fr, s, eH, hs, p⟩ := h
  exact ⟨Fr, s, eH, hs, (PostS.bindE (rep := rep) p).imp fun b H1 ⟨s1, a, e, h1, x, r, p1, p2, q⟩ => ⟨Fr, s, s1, a, e, h1, x, r, p1, p2⟩⟩
theorem PostS.ofB {α : Type} {o : Option α} {en : Env} {st : Store} {g : α → Env → Store → Out Flow} (h : PostS G W Fr s σ D ((Out.of o en st).bind g)) : ∃ a, o = some a ∧ PostS G W Fr s σ D (g a en st) := by
  cases o with
  | none => exact h.elim
  | some a => exact ⟨a, rfl, h⟩
/-- a store ahead of what is left -/
theorem PostS.bindG {l : List Nat} {o : Out Unit} {g : Unit → Env → Store → Out Flow} (h : PostS G W Fr s σ D (o.bind g)) :
    PostG G W Fr s σ l (fun σ' H' => ∃ s', s'.H = H' ∧ SR G.K G.CA Fr s' σ' ∧ Ext s s' σ σ' ∧ PostS G W Fr s' σ' D (g () s'.en s'.st)) o := by
  cases o with
  | bad => exact h
  | exc c vs en st => exact h
  | ok a en st =>
    intro s1 σ1 e1 e2 h1 x1 _
    subst e1 e2
    exact ⟨s1, rfl, h1, x1, PostS.later h x1⟩
/-- a part's ends -/
theorem PostS.bindF {o : Out Flow} {g : Flow → Env → Store → Out Flow} (h : PostS G W Fr s σ D (o.bind g)) (hn : ∀ s' σ', SR G.K G.CA Fr s' σ' → Ext s s' σ σ' → PostS G W Fr s σ D (g .nx s'.en s'.st) → D'.nx σ' s'.H)
    (hc : ∀ s' σ', SR G.K G.CA Fr s' σ' → Ext s s' σ σ' → PostS G W Fr s σ D (g .ct s'.en s'.st) → D'.ct σ' s'.H) (hb : ∀ s' σ', SR G.K G.CA Fr s' σ' → Ext s s' σ σ' → PostS G W Fr s σ D (g .bk s'.en s'.st) → D'.bk σ' s'.H)
    (hr : ∀ d en st, g (.rt d) en st = .ok (.rt d) en st) (er : D'.rt = D.rt) : PostS G W Fr s σ D' o := by
  cases o with
  | bad => exact h
  | exc c vs en st => exact h
  | ok f en st =>
    cases f with
    | nx => exact fun s' σ' e1 e2 r y => hn s' σ' r y (by rw [e1, e2]; exact h)
    | bk => exact fun s' σ' e1 e2 r y => hb s' σ' r y (by rw [e1, e2]; exact h)
    | ct => exact fun s' σ' e1 e2 r y => hc s' σ' r y (by rw [e1, e2]; exact h)
    | rt d =>
      have h : PostS G W Fr s σ D (g (.rt d) en st) := h
      rw [hr] at h
      intro v s' σ' e1 e2 r y q
      rw [er]
      exact h v s' σ' e1 e2 r y q
end
section
variable {G : Gm} {W : WX} {X : Cx} {T0 : Tab} {F : Fn} {w : Nat} {a b c e : Expr} {es : List Expr} {st : Stmt} {rest body orelse : List Stmt} {ia ib ic ie : E} {sa sb : S} {t : T} {pos p1 p2 p3 p4 : Pos}
abbrev rSt (G : Gm) (W : WX) (T0 : Tab) (F : Fn) (w : Nat) (i : S) : TS := rS G W (evalS T0 F w i)
theorem s_skip : PSs X [] (rSt G W T0 F w .skip) := PSs.imp pss_nil fun D σ H ⟨Fr, s, eH, hs, p⟩ => by
  subst eH
  exact p s σ rfl rfl hs Ext.refl
theorem s_seq (h1 : PS X st (rSt G W T0 F w sa)) (h2 : PSs X rest (rSt G W T0 F w sb)) : PSs X (st :: rest) (rSt G W T0 F w (.seq sa sb)) := PSs.imp (pss_cons h1 h2) fun D σ H ⟨Fr, s, eH, hs, p⟩ => by
  subst eH
  have p : PostS G W Fr s σ D ((evalS T0 F w sa s.en s.st).bind fun f en st => match f with
    | .nx => evalS T0 F w sb en st
    | f => .ok f en st) := p
  refine ⟨Fr, s, rfl, hs, PostS.bindF p (fun s' σ' r y q => ⟨Fr, s', rfl, r, q.later y⟩) (fun s' σ' r y q => q s' σ' rfl rfl r y) (fun s' σ' r y q => q s' σ' rfl rfl r y) (fun _ _ _ => rfl) rfl⟩
theorem s_pass : PS X (.Pass pos) (rSt G W T0 F w .skip) := PS.imp ps_pass fun D σ H ⟨Fr, s, eH, hs, p⟩ => by
  subst eH
  exact p s σ rfl rfl hs Ext.refl
theorem s_brk : PS X (.Break pos) (rSt G W T0 F w .brk) := PS.imp ps_break fun D σ H ⟨Fr, s, eH, hs, p⟩ => by
  subst eH
  exact p s σ rfl rfl hs Ext.refl
theorem s_cont : PS X (.Continue pos) (rSt G W T0 F w .cont) := PS.imp ps_continue fun D σ H ⟨Fr, s, eH, hs, p⟩ => by
  subst eH
  exact p s σ rfl rfl hs Ext.refl
theorem s_asg {tg : Expr} (he : PE X e (rE G W T0 F ie)) (hg : PG X tg (rG G W T0 F t)) (hs : swapsWithSole [tg] e pos.line X.env = pure false) (hw : swappedStores [tg] e X.env = pure none)
    (h1 : (assignEach [tg] X.env).map (·.2) = [assign tg X.env]) : PS X (.Assign [tg] e pos) (rSt G W T0 F w (.asg t ie)) := PS.imp (ps_asg he hg hs hw h1) fun D σ H h => by
  refine (PostS.bindR (rep := rV G) h).imp fun v H1 ⟨Fr, s, s1, d, e, h1, x1, r1, p1, _⟩ => ?_
  subst e
  obtain ⟨x, q, p2⟩ := p1.ofB
  refine ⟨Fr, s1, x, rfl, h1, r1.item q, ?_⟩
  have := PostS.bindG (l := tgs t) p2
  cases q2 : assignT T0 F t x s1.en s1.st with
  | bad => rw [q2] at this; exact this
  | exc c vs en st => rw [q2] at this; exact this
  | ok u en st =>
    rw [q2] at this
    intro s2 σ2 e1 e2 h2 x2 o2
    obtain ⟨s3, e3, h3, x3, p3⟩ := this s2 σ2 e1 e2 h2 x2 o2
    rw [← e3]
    exact p3 s3 σ2 rfl rfl h3 Ext.refl
theorem s_ex (he : PE X e (rE G W T0 F ie)) (hs : swapsWith e none pos.line X.env = pure false) : PS X (.Expr e pos) (rSt G W T0 F w (.ex ie)) := PS.imp (ps_expr he hs) fun D σ H h => by
  refine (PostS.bindR (rep := rV G) h).imp fun v H1 ⟨Fr, s, s1, d, e, h1, x1, r1, p1, _⟩ => ?_
  subst e
  exact p1 s1 σ rfl rfl h1 Ext.refl
theorem retD_some {d x : Ev.D} (h : retD d = some x) : x = d := by cases d <;> cases h <;> rfl
theorem s_ret (he : PE X e (rE G W T0 F ie)) : PS X (.Return (some e) pos) (rSt G W T0 F w (.ret ie)) := PS.imp (ps_ret he) fun D σ H h => by
  refine (PostS.bindR (rep := rV G) h).imp fun v H1 ⟨Fr, s, s1, d, e, h1, x1, r1, _, p1⟩ => ?_
  subst e
  obtain ⟨x, q, p2⟩ := p1.ofB
  cases retD_some q
  exact p2 v s1 σ rfl rfl h1 x1 r1
theorem s_retN : PS X (.Return none pos) (rSt G W T0 F w (.ret (.lit .non))) := PS.imp ps_retN fun D σ H ⟨Fr, s, eH, hs, p⟩ => by
  subst eH
  exact p .non s σ rfl rfl hs Ext.refl rfl
theorem s_if (hc : PT X c (rT G W T0 F ic)) (ha : PSs X body (rSt G W T0 F w sa)) (hb : PSs X orelse (rSt G W T0 F w sb)) : PS X (.If c body orelse pos) (rSt G W T0 F w (.ite ic sa sb)) := PS.imp (ps_if hc ha hb) fun D σ H h => by
  refine (PostS.bindR (rep := rB) (f := evT T0 F ic) h).imp fun v H1 ⟨Fr, s, s1, d, e, h1, x1, r1, p1, _⟩ => ?_
  subst e
  cases (show d = v from r1)
  cases v with
  | true => exact ⟨Fr, s1, rfl, h1, p1⟩
  | false => exact ⟨Fr, s1, rfl, h1, p1⟩
theorem s_while (hp : PassesOwn (model X.prog X.w) X.A X.env X.xe) (hc : PT X c (rT G W T0 F ic)) (hb : PSs X body (rSt G W T0 F w sb)) : PS X (.While c body [] pos) (rSt G W T0 F w (.while ic sb)) := PS.imp (ps_while hp hc hb) fun D σ H ⟨Fr, s, eH, hs, p⟩ => by
  subst eH
  have p : PostS G W Fr s σ D (whileL (evT T0 F ic) (evalS T0 F w sb) w s.en s.st) := p
  refine ⟨fun m σi Hi => ∃ si, si.H = Hi ∧ SR G.K G.CA Fr si σi ∧ PostS G W Fr si σi D (whileL (evT T0 F ic) (evalS T0 F w sb) m si.en si.st), ⟨w, s, rfl, hs, p⟩, ?_⟩
  rintro m σi Hi ⟨si, rfl, hsi, pi⟩
  cases m with
  | zero => exact pi.elim
  | succ m =>
    have pi : PostS G W Fr si σi D ((evT T0 F ic si.en si.st).bind fun b en st => if b then (evalS T0 F w sb en st).bind fun f en st => match f with
      | .nx => whileL (evT T0 F ic) (evalS T0 F w sb) m en st
      | .ct => whileL (evT T0 F ic) (evalS T0 F w sb) m en st
      | .bk => .ok .nx en st
      | .rt d => .ok (.rt d) en st
      else .ok .nx en st) := pi
    refine ⟨Fr, si, rfl, hsi, (PostS.bindE (rep := rB) pi).imp fun b H1 ⟨s1, k, e, h1, x1, r1, p1, _, _⟩ => ?_⟩
    subst e
    cases (show k = b from r1)
    cases b with
    | false => exact p1 s1 σi rfl rfl h1 Ext.refl
    | true =>
      rw [if_pos rfl] at p1 ⊢
      refine ⟨fun σ' H' => ∃ s', s'.H = H' ∧ SR G.K G.CA Fr s' σ' ∧ PostS G W Fr s' σ' D (whileL (evT T0 F ic) (evalS T0 F w sb) m s'.en s'.st), fun σ' H' q => ⟨m, Nat.lt_succ_self m, q⟩, Fr, s1, rfl, h1, ?_⟩
      exact PostS.bindF p1 (fun s' σ' r y q => ⟨s', rfl, r, q.later y⟩) (fun s' σ' r y q => ⟨s', rfl, r, q.later y⟩) (fun s' σ' r y q => q s' σ' rfl rfl r y) (fun _ _ _ => rfl) rfl
theorem s_for {tg iter : Expr} {it : E} (hp : PassesOwn (model X.prog X.w) X.A X.env X.xe) (hc : X.calm = true) (hi : PI X tg iter (rIt G W T0 F it)) (hg : PG X tg (rG G W T0 F t)) (hb : PSs X body (rSt G W T0 F w sb))
    (hs : ∀ x, foldedSetIterable iter X.env x = pure x) : PS X (.For tg iter body [] pos) (rSt G W T0 F w (.for t it sb)) := PS.imp (ps_for hp hc hi hg hb hs) fun D σ H h => by
  refine (PostS.bindR (rep := rI G) (f := evI T0 F it) h).imp fun J H1 ⟨Fr, s, s1, ds, e, h1, x1, r1, p1, _⟩ => ?_
  subst e
  refine ⟨fun i m σi Hi => ∃ si, si.H = Hi ∧ SR G.K G.CA Fr si σi ∧ Ext s1 si σ σi ∧ m = ds.length - i ∧ PostS G W Fr si σi D (forL (fun d en st => (assignT T0 F t d en st).bind fun _ en st => evalS T0 F w sb en st) (ds.drop i) si.en si.st),
    ⟨ds.length, s1, rfl, h1, Ext.refl, rfl, p1⟩, ?_⟩
  rintro i m σi Hi ⟨si, rfl, hsi, xi, em, pi⟩
  obtain ⟨w1, w2⟩ := r1.1 si.H _ xi.data (fun b z => hsi.avTrk z) i
  by_cases hi : i < ds.length
  · obtain ⟨go, yl⟩ := w2 ds[i] (List.getElem?_eq_getElem hi)
    rw [List.drop_eq_getElem_cons hi] at pi
    have pi : PostS G W Fr si σi D (((assignT T0 F t ds[i] si.en si.st).bind fun _ en st => evalS T0 F w sb en st).bind fun f en st => match f with
      | .nx => forL (fun d en st => (assignT T0 F t d en st).bind fun _ en st => evalS T0 F w sb en st) (ds.drop (i + 1)) en st
      | .ct => forL (fun d en st => (assignT T0 F t d en st).bind fun _ en st => evalS T0 F w sb en st) (ds.drop (i + 1)) en st
      | .bk => .ok .nx en st
      | .rt d => .ok (.rt d) en st) := pi
    rw [Out.bind_assoc] at pi
    refine .inr ⟨go, _, fun σ' H' z => ⟨ds.length - (i + 1), by omega, z⟩, fun x H' y => ?_⟩
    obtain ⟨hh, rx⟩ := yl x H' y
    obtain ⟨s2, eH, e2, e3, e4, h2, x2⟩ := laid_or hsi hh
    subst eH
    have rx : Rep G.K G.CA (Av Fr s2 σi) s2.H ds[i] x := Rep.mono (fun b u q n => ⟨q, fun z => n (z.imp (fun z => by unfold Wr at z ⊢; rw [e4, e2] at z; exact z) id)⟩) _ _ rx
    refine ⟨Fr, s2, ds[i], rfl, h2, rx, ?_⟩
    rw [e2, e3]
    have pg := PostS.bindG (l := tgs t) (pi.later x2)
    cases q2 : assignT T0 F t ds[i] si.en si.st with
    | bad => rw [q2] at pg; exact pg
    | exc c vs en st => rw [q2] at pg; exact pg
    | ok u en st =>
      rw [q2] at pg
      intro s3 σ3 e5 e6 h3 x3 o3
      obtain ⟨s4, e7, h4, x4, p4⟩ := pg s3 σ3 e5 e6 h3 x3 o3
      rw [← e7]
      refine ⟨Fr, s4, rfl, h4, ?_⟩
      have xs := (xi.trans x2).trans x4
      exact PostS.bindF p4 (fun s' σ' r y q => ⟨s', rfl, r, xs.trans y, rfl, q.later y⟩) (fun s' σ' r y q => ⟨s', rfl, r, xs.trans y, rfl, q.later y⟩) (fun s' σ' r y q => q s' σ' rfl rfl r y) (fun _ _ _ => rfl) rfl
  · rw [List.drop_eq_nil_of_le (by omega)] at pi
    exact .inl ⟨w1 (by omega), pi si σi rfl rfl hsi Ext.refl⟩
end
end Ev

end
section
set_option linter.all false
set_option maxRecDepth 100000
/-! Snd16: names that are set, lists that change. -/
namespace Ev
open PySem PySem.Spec PyProof.Rows L2
section
variable {K : PySem.W.Frag} {CA : Nat → Addr} {Z Z0 Fr : Addr → Prop} {s base : ST} {σ σb : L2.St}
/-- a slot gets a fresh list -/
theorem SR.putOwn {i : Nat} {a : Addr} {xs : List D} {vs : List V} (h : SR K CA (And1 Z a) s σ) (hi : i < s.en.length) (eH : s.H a = some (.lst vs)) (n : ¬ Av Z s σ a) (r : Reps K CA (Av (And1 Z a) s σ) s.H xs vs) :
    SR K CA Z { s with en := setS s.en i (.own xs) } (σ.set i (some (.ref a))) ∧ ∀ b, Wr { s with en := setS s.en i (.own xs) } (σ.set i (some (.ref a))) b → Wr s σ b ∨ b = a := by
  have hi2 : i < σ.length := by rw [← h.len]; exact hi
  have o : ∀ j b, ownAt (setS s.en i (.own xs)) (σ.set i (some (.ref a))) j b → (j = i ∧ b = a) ∨ (j ≠ i ∧ ownAt s.en σ j b) := fun j b ⟨ys, q1, q2⟩ => by
    rw [getElem_setS] at q1
    by_cases hij : i = j
    · subst hij
      rw [List.getElem?_set_self hi2] at q2
      cases q2
      exact .inl ⟨rfl, rfl⟩
    · rw [if_neg hij] at q1
      rw [List.getElem?_set_ne hij] at q2
      exact .inr ⟨fun e => hij e.symm, ys, q1, q2⟩
  have wr : ∀ b, Wr { s with en := setS s.en i (.own xs) } (σ.set i (some (.ref a))) b → Wr s σ b ∨ b = a := fun b z => by
    rcases z with z | ⟨j, z⟩
    · exact .inl (.inl z)
    · rcases o j b z with ⟨_, z⟩ | ⟨_, z⟩
      · exact .inr z
      · exact .inl (.inr ⟨j, z⟩)
  have kd : ∀ b u, s.H b = some u → ¬ Av (And1 Z a) s σ b → s.H b = some u ∧ ¬ Av Z { s with en := setS s.en i (.own xs) } (σ.set i (some (.ref a))) b := fun b u q nb => by
    refine ⟨q, fun z => ?_⟩
    rcases z with z | z
    · rcases wr b z with z | z
      · exact nb (.inl z)
      · exact nb (.inr (.inr z))
    · exact nb (.inr (.inl z))
  refine ⟨⟨fun b z => h.trk b (.inl z), h.ml, fun m ys q => ?_, h.nd, fun j x q => ?_, fun j k b z1 z2 => ?_, fun j b z => ?_, fun j b z => ?_, ?_⟩, wr⟩
  · obtain ⟨b, q1, r1⟩ := h.cells m ys q
    exact ⟨b, q1, r1.mono kd rfl⟩
  · have q : (setS s.en i (.own xs))[j]? = some (some x) := q
    rw [getElem_setS] at q
    by_cases hij : i = j
    · subst hij
      rw [if_pos rfl, if_pos hi] at q
      cases q
      exact ⟨.ref a, by rw [List.getElem?_set_self hi2], a, rfl, vs, eH, Reps.mono kd _ _ r⟩
    · rw [if_neg hij] at q
      obtain ⟨v, q1, r1⟩ := h.slots j x q
      exact ⟨v, by rw [List.getElem?_set_ne hij]; exact q1, r1.mono kd (fun _ _ _ _ => rfl) ⟨[], by simp⟩⟩
  · rcases o j b z1 with ⟨e1, e2⟩ | ⟨e1, e2⟩
    · rcases o k b z2 with ⟨e3, e4⟩ | ⟨e3, e4⟩
      · rw [e1, e3]
      · exact absurd (.inl (.inr ⟨k, by rw [← e2]; exact e4⟩)) n
    · rcases o k b z2 with ⟨e3, e4⟩ | ⟨e3, e4⟩
      · exact absurd (.inl (.inr ⟨j, by rw [← e4]; exact e2⟩)) n
      · exact h.inj j k b e2 e4
  · rcases o j b z with ⟨e1, e2⟩ | ⟨e1, e2⟩
    · intro q
      exact n (.inl (.inl (by rw [← e2]; exact q)))
    · exact h.noc j b e2
  · rcases o j b z with ⟨e1, e2⟩ | ⟨e1, e2⟩
    · intro q
      exact n (.inr (by rw [← e2]; exact q))
    · exact fun q => h.nfr j b e2 (.inl q)
  · show (setS s.en i _).length = _
    unfold setS
    rw [List.length_set, List.length_set]; exact h.len
end
section
variable {G : Gm} {Z0 Fr : Addr → Prop} {s s' base : ST} {σ σ' σb : L2.St}
/-- the others stay what they are -/
theorem RepVs.put {d : D} {v : V} (hput : ∀ Z, (∀ b, Z b → Z0 b) → SR G.K G.CA (frOf Z d v) s σ → SR G.K G.CA Z s' σ') (hwr : ∀ b, Wr s' σ' b → Wr s σ b ∨ Owns [d] [v] b) (eH : s'.H = s.H) (em : s'.m = s.m) : ∀ {ds : List D} {r : List V} {Fr : Addr → Prop}, (∀ j, D.pk j ∉ ds) → (∀ b, FrO Fr ds r b → Z0 b) → RepVs G (frOf Fr d v) base s σ ds r → RepVs G Fr base s' σ' ds r
  | [], r, Fr, _, hz, ⟨e, z⟩ => by
    subst e
    exact ⟨rfl, hput Fr (fun b z => hz b (.inl z)) z⟩
  | d2 :: ds, _, Fr, np, hz, ⟨v2, r2, e, h, t⟩ => by
    subst e
    have hz2 : ∀ b, FrO Fr ds r2 b → Z0 b := fun b z => hz b (z.imp id fun z => Owns_cons.mpr (.inr z))
    have hz3 : ∀ b, FrO (frOf Fr d2 v2) ds r2 b → Z0 b := fun b z => by
      rcases z with z | z
      · rcases frOf_iff.mp z with z | z
        · exact hz b (.inl z)
        · exact hz b (.inr (Owns_cons.mpr (.inl z)))
      · exact hz b (.inr (Owns_cons.mpr (.inr z)))
    have av : ∀ b, Av (FrO Fr ds r2) s' σ' b → Av (FrO (frOf Fr d v) ds r2) s σ b := fun b z => by
      rcases z with z | z | z
      · rcases hwr b z with z | z
        · exact .inl z
        · exact .inr (.inl (frOf_iff.mpr (.inr z)))
      · exact .inr (.inl (frOf.more d v b z))
      · exact .inr (.inr z)
    have kd : ∀ b u, s.H b = some u → ¬ Av (FrO (frOf Fr d v) ds r2) s σ b → s'.H b = some u ∧ ¬ Av (FrO Fr ds r2) s' σ' b := fun b u q n => ⟨by rw [eH]; exact q, fun z => n (av b z)⟩
    refine ⟨v2, r2, rfl, ?_, RepVs.put hput hwr eH em (fun j z => np j (List.mem_cons_of_mem _ z)) hz3 ?_⟩
    · cases d2 with
      | own xs =>
        obtain ⟨a, vs, rfl, h0, h1, n, r, z⟩ := h
        refine ⟨a, vs, rfl, h0, by rw [eH]; exact h1, fun z => n (av a z), Reps.mono (fun b u q n => ⟨by rw [eH]; exact q, fun z => ?_⟩) _ _ r, hput _ (fun b z => ?_) (z.less fun b z => ?_)⟩
        · rcases z with z | z | z
          · rcases hwr b z with z | z
            · exact n (.inl z)
            · exact n (.inr (.inl (.inl (frOf_iff.mpr (.inr z)))))
          · rcases z with z | z
            · exact n (.inr (.inl (.inl (frOf.more d v b z))))
            · exact n (.inr (.inl (.inr z)))
          · exact n (.inr (.inr z))
        · rcases z with z | z
          · exact hz2 b z
          · exact hz b (.inr (.inl z))
        · rcases frOf_iff.mp z with z | z
          · rcases z with z | z
            · exact .inl (z.imp (frOf.more d v b) id)
            · exact .inr z
          · exact .inl (.inl (frOf_iff.mpr (.inr z)))
      | cell n => obtain ⟨a, e, q⟩ := h; exact ⟨a, e, by rw [em]; exact q⟩
      | pk j => exact absurd List.mem_cons_self (np j)
      | non => exact Rep.mono kd _ v2 h
      | bl _ => exact Rep.mono kd _ v2 h
      | int _ => exact Rep.mono kd _ v2 h
      | str _ => exact Rep.mono kd _ v2 h
      | tup _ => exact Rep.mono kd _ v2 h
      | lst _ => exact Rep.mono kd _ v2 h
      | frz _ => exact Rep.mono kd _ v2 h
      | ins _ _ => exact Rep.mono kd _ v2 h
    · refine RepVs.mon Ext.refl (fun b z => ?_) t
      rcases frOf_iff.mp z with z | z
      · rcases frOf_iff.mp z with z | z
        · exact frOf.more d2 v2 _ (frOf.more d v b z)
        · exact frOf_iff.mpr (.inr z)
      · exact frOf.more d2 v2 _ (frOf_iff.mpr (.inr z))
def setAll (σ : L2.St) : List Nat → List V → L2.St
  | i :: is, v :: vs => setAll (σ.set i (some v)) is vs
  | _, _ => σ
theorem slotD_some {d x : D} (h : slotD d = some x) : x = d ∧ (∀ j, d ≠ .pk j) ∧ ∀ n, d ≠ .cell n := by
  cases d <;> cases h <;> exact ⟨rfl, (fun _ z => nomatch z), (fun _ z => nomatch z)⟩
theorem parS_slots : ∀ {is : List Nat} {ds : List D} {en en' : Env} {st st' : Store} {f : Flow}, parS is ds en st = .ok f en' st' → ∀ j, D.pk j ∉ ds
  | [], [], _, _, _, _, _, _, j => by simp
  | i :: is, d :: ds, en, en', st, st', f, h, j => by
    have h : (Out.of (slotD d) en st).bind (fun d en st => if i < en.length then parS is ds (setS en i d) st else .bad) = .ok f en' st' := h
    cases q : slotD d with
    | none => rw [q] at h; cases h
    | some x =>
      rw [q] at h
      have h : (if i < en.length then parS is ds (setS en i x) st else .bad) = .ok f en' st' := h
      by_cases c : i < en.length
      · rw [if_pos c] at h
        intro z
        rcases List.mem_cons.mp z with z | z
        · exact (slotD_some q).2.1 j z.symm
        · exact parS_slots h j z
      · rw [if_neg c] at h; cases h
  | [], _ :: _, _, _, _, _, _, h, _ => by cases h
  | _ :: _, [], _, _, _, _, _, h, _ => by cases h
theorem par_ok : ∀ {is : List Nat} {ds : List D} {vs : List V} {s : ST} {σ : L2.St} {f : Flow} {en : Env} {st : Store}, RepVs G Fr base s σ ds vs → Ext base s σb σ → parS is ds s.en s.st = .ok f en st →
    f = .nx ∧ vs.length = is.length ∧ ∃ s', s'.en = en ∧ s'.st = st ∧ s'.H = s.H ∧ SR G.K G.CA Fr s' (setAll σ is vs) ∧ Ext base s' σb (setAll σ is vs)
  | [], [], vs, s, σ, f, en, st, ⟨e, z⟩, x, h => by
    subst e
    cases h
    exact ⟨rfl, rfl, s, rfl, rfl, rfl, z, x⟩
  | i :: is, d :: ds, _, s, σ, f, en, st, ⟨v, r, e, h, t⟩, x, hp0 => by
    subst e
    have np : ∀ j, D.pk j ∉ ds := fun j z => parS_slots hp0 j (List.mem_cons_of_mem _ z)
    have hp : (Out.of (slotD d) s.en s.st).bind (fun d en st => if i < en.length then parS is ds (setS en i d) st else .bad) = .ok f en st := hp0
    clear hp0
    cases q : slotD d with
    | none => rw [q] at hp; cases hp
    | some d' =>
    rw [q] at hp
    obtain ⟨rfl, n1, n2⟩ := slotD_some q
    have hp : (if i < s.en.length then parS is ds (setS s.en i d') s.st else .bad) = .ok f en st := hp
    by_cases hi : i < s.en.length
    · rw [if_pos hi] at hp
      have fin : (∀ Z, (∀ b, Z b → FrO Fr ds r b) → SR G.K G.CA (frOf Z d' v) s σ → SR G.K G.CA Z { s with en := setS s.en i d' } (σ.set i (some v))) →
          (∀ b, Wr { s with en := setS s.en i d' } (σ.set i (some v)) b → Wr s σ b ∨ Owns [d'] [v] b) →
          f = .nx ∧ (v :: r).length = (i :: is).length ∧ ∃ s', s'.en = en ∧ s'.st = st ∧ s'.H = s.H ∧ SR G.K G.CA Fr s' (setAll σ (i :: is) (v :: r)) ∧ Ext base s' σb (setAll σ (i :: is) (v :: r)) := fun hput hwr => by
        have x' : Ext base { s with en := setS s.en i d' } σb (σ.set i (some v)) := ⟨x.keep, fun b z => (hwr b z).elim (x.wr b) fun z => .inr (h.owns z), x.sm, x.pre⟩
        have t' := RepVs.put hput hwr (s' := { s with en := setS s.en i d' }) rfl rfl np (fun b z => z) t
        obtain ⟨e1, e2, s', e3, e4, e5, e6, e7⟩ := par_ok (is := is) t' x' hp
        exact ⟨e1, by simp [e2], s', e3, e4, e5, e6, e7⟩
      have plain : (∀ xs, d' ≠ .own xs) → (∀ (Z : Addr → Prop) (m : List Addr) (H : Hp), Rep G.K G.CA Z H d' v → SlotRep G.K G.CA Z m H d' v) → Rep G.K G.CA (Av (FrO Fr ds r) s σ) s.H d' v → _ := fun nd sl rr => fin (fun Z hz hs => by
          have hs : SR G.K G.CA Z s σ := hs.less (frOf.more d' v)
          refine (hs.put hi nd (sl _ s.m s.H (Rep.mono (fun b u q n => ⟨q, fun z => n ?_⟩) _ _ rr))).1
          rcases z with z | z
          · exact .inl (z.imp id fun ⟨j, z⟩ => ⟨j, (own_set nd z).1⟩)
          · exact .inr (hz b z)) fun b z => .inl (z.imp id fun ⟨j, z⟩ => ⟨j, (own_set nd z).1⟩)
      cases d' with
      | own xs =>
        obtain ⟨a, vs, rfl, h0, h1, n, rr, zz⟩ := h
        have av : ∀ (Z : Addr → Prop), (∀ b, Z b → FrO Fr ds r b) → ∀ b, Av Z s σ b → Av (FrO Fr ds r) s σ b := fun Z hz b z => z.imp id (hz b)
        refine fin (fun Z hz hs => (SR.putOwn hs hi h1 (fun z => n (av Z hz a z)) (Reps.mono (Av.less fun b z => z.imp (hz b) id) _ _ rr)).1) fun b z => ?_
        exact ((SR.putOwn zz hi h1 n rr).2 b z).imp id .inl
      | cell k => exact absurd rfl (n2 k)
      | pk j => exact absurd rfl (n1 j)
      | non => exact plain (fun _ z => nomatch z) (fun _ _ _ q => q) h
      | bl _ => exact plain (fun _ z => nomatch z) (fun _ _ _ q => q) h
      | int _ => exact plain (fun _ z => nomatch z) (fun _ _ _ q => q) h
      | str _ => exact plain (fun _ z => nomatch z) (fun _ _ _ q => q) h
      | tup _ => exact plain (fun _ z => nomatch z) (fun _ _ _ q => q) h
      | lst _ => exact plain (fun _ z => nomatch z) (fun _ _ _ q => q) h
      | frz _ => exact plain (fun _ z => nomatch z) (fun _ _ _ q => q) h
      | ins _ _ => exact plain (fun _ z => nomatch z) (fun _ _ _ q => q) h
    · rw [if_neg hi] at hp; cases hp
  | [], _ :: _, _, _, _, _, _, _, _, _, h => by cases h
  | _ :: _, [], _, _, _, _, _, _, _, _, h => by cases h
end
end Ev

end
section
set_option linter.all false
set_option maxRecDepth 100000
/-! Snd17: rules of par, mut. -/
namespace Ev
open PySem PySem.Spec PyProof.Rows L2
section
variable {G : Gm} {W : WX} {X : Cx} {T0 : Tab} {F : Fn} {w : Nat} {a b c e : Expr} {es : List Expr} {ia ib ic ie : E} {pos p1 p2 p3 p4 : Pos}
theorem par_core {Fr : Addr → Prop} {s s1 : ST} {σ : L2.St} {Dd : Ends} {is : List Nat} {ds : List D} {vs : List V} (x1 : Ext s s1 σ σ) (r : RepVs G Fr s s1 σ ds vs) (p : PostS G W Fr s σ Dd (parS is ds s1.en s1.st)) :
    vs.length = is.length ∧ Dd.nx (setAll σ is vs) s1.H := by
  cases q : parS is ds s1.en s1.st with
  | bad => rw [q] at p; exact p.elim
  | exc c vs en st => exact (parS_exc q).elim
  | ok f en st =>
    rw [q] at p
    obtain ⟨e1, e2, s', e3, e4, e5, e6, e7⟩ := par_ok r x1 q
    subst e1
    refine ⟨e2, ?_⟩
    rw [← e5]
    exact p s' _ e3 e4 e6 e7
where
  parS_exc : ∀ {is : List Nat} {ds : List D} {en en' : Env} {st st' : Store} {c : Nat} {vs : List D}, parS is ds en st = .exc c vs en' st' → False
    | [], [], _, _, _, _, _, _, h => by cases h
    | i :: is, d :: ds, en, en', st, st', c, vs, h => by
      have h : (Out.of (slotD d) en st).bind (fun d en st => if i < en.length then parS is ds (setS en i d) st else .bad) = .exc c vs en' st' := h
      cases q : slotD d with
      | none => rw [q] at h; cases h
      | some x =>
        rw [q] at h
        have h : (if i < en.length then parS is ds (setS en i x) st else .bad) = .exc c vs en' st' := h
        by_cases c : i < en.length
        · rw [if_pos c] at h; exact parS_exc h
        · rw [if_neg c] at h; cases h
    | [], _ :: _, _, _, _, _, _, _, h => by cases h
    | _ :: _, [], _, _, _, _, _, _, h => by cases h
theorem par_one {i : Nat} {Dd : Ends} {σ : L2.St} {H : Hp} (h : rSt G W T0 F w (.par [i] (.cons ie .nil)) Dd σ H) : rE G W T0 F ie σ H fun x H1 => Dd.nx (σ.set i (some x)) H1 := by
  have h : rS G W (fun en st => (evalE T0 F ie en st).bind fun d en st => parS [i] [d] en st) Dd σ H := by
    obtain ⟨Fr, s, eH, hs, p⟩ := h
    refine ⟨Fr, s, eH, hs, ?_⟩
    have e : evalS T0 F w (.par [i] (.cons ie .nil)) s.en s.st = (evalE T0 F ie s.en s.st).bind fun d en st => parS [i] [d] en st := by
      show ((evalE T0 F ie s.en s.st).bind _).bind _ = _
      rw [Out.bind_assoc]; rfl
    rw [e] at p
    exact p
  refine (PostS.bindR (rep := rV G) h).imp fun v H1 ⟨Fr, s, s1, d, e, h1, x1, r1, _, p1⟩ => ?_
  subst e
  have rr : RepVs G Fr s s1 σ [d] [v] := ⟨v, [], rfl, RepV.mon (Fr' := Fr) (fun b z => z.elim id fun z => z.elim) Ext.refl r1, rfl, r1.srOf h1⟩
  exact (par_core x1 rr p1).2
theorem s_set {i : Nat} {x : Str} (hN : X.N.Nodup) (hi : X.N[i]? = some x) (hx : Loc X.env.scope x) (he : PE X e (rE G W T0 F ie)) (hs : swapsWith e (some (.Name x p1)) pos.line X.env = pure false) (hf : X.fn x = true ∨ X.env.scope.names.lookup x = some .local) :
    PS X (.Assign [.Name x p1] e pos) (rSt G W T0 F w (.par [i] (.cons ie .nil))) := PS.imp (ps_set hN hi hx he hs hf) fun Dd σ H h => par_one h
theorem par_args {is : List Nat} {Dd : Ends} {σ : L2.St} {H : Hp} (h : rSt G W T0 F w (.par is ia) Dd σ H) : rAs G W T0 F ia σ H fun vs H1 => vs.length = is.length ∧ Dd.nx (setAll σ is vs) H1 := by
  refine (PostS.bindR (rep := rA G) h).imp fun vs H1 ⟨Fr, s, s1, d, e, h1, x1, ⟨ds, ed, rr⟩, _, p1⟩ => ?_
  subst e ed
  exact par_core x1 rr p1
theorem s_par2 {i j : Nat} {x y : Str} {px py pt : Pos} {kt k2 pt2} (hc : X.calm = true) (hN : X.N.Nodup) (hi : X.N[i]? = some x) (hj : X.N[j]? = some y) (hij : i ≠ j)
    (hx : X.env.scope.names.lookup x = some .local) (hy : X.env.scope.names.lookup y = some .local) (ha : PA X [a, b] (rAs G W T0 F ia))
    (hw : swappedStores [.Tuple [.Name x px, .Name y py] kt pt] (.Tuple [a, b] k2 pt2) X.env = pure (some [x, y]))
    (hs : swapsWithSole [.Tuple [.Name x px, .Name y py] kt pt] (.Tuple [a, b] k2 pt2) pos.line X.env = pure false) :
    PS X (.Assign [.Tuple [.Name x px, .Name y py] kt pt] (.Tuple [a, b] k2 pt2) pos) (rSt G W T0 F w (.par [i, j] ia)) := PS.imp (ps_par hc hN hi hj hij hx hy ha hw hs) fun Dd σ H h => by
  refine (par_args h).imp fun vs H1 ⟨e, q⟩ => ?_
  match vs, e with
  | [v, w], _ => exact ⟨v, w, rfl, q⟩
theorem s_par3 {i j l : Nat} {x y z : Str} {px py pz pt : Pos} {kt k2 pt2} (hc : X.calm = true) (hN : X.N.Nodup) (hi : X.N[i]? = some x) (hj : X.N[j]? = some y) (hl : X.N[l]? = some z) (hij : i ≠ j) (hil : i ≠ l) (hjl : j ≠ l)
    (hx : X.env.scope.names.lookup x = some .local) (hy : X.env.scope.names.lookup y = some .local) (hz : X.env.scope.names.lookup z = some .local) (ha : PA X [a, b, c] (rAs G W T0 F ia))
    (hw : swappedStores [.Tuple [.Name x px, .Name y py, .Name z pz] kt pt] (.Tuple [a, b, c] k2 pt2) X.env = pure (some [x, y, z]))
    (hs : swapsWithSole [.Tuple [.Name x px, .Name y py, .Name z pz] kt pt] (.Tuple [a, b, c] k2 pt2) pos.line X.env = pure false) :
    PS X (.Assign [.Tuple [.Name x px, .Name y py, .Name z pz] kt pt] (.Tuple [a, b, c] k2 pt2) pos) (rSt G W T0 F w (.par [i, j, l] ia)) := PS.imp (ps_par3 hc hN hi hj hl hij hil hjl hx hy hz ha hw hs) fun Dd σ H h => by
  refine (par_args h).imp fun vs H1 ⟨e, q⟩ => ?_
  match vs, e with
  | [u, v, w], _ => exact ⟨u, v, w, rfl, q⟩
/-! ### lists change -/
def rMu (m : Mu) : V → List V → Hp → VK → Prop := match m with
  | .append => rAppend | .extend => rExtend | .remove => rRemI | .pop => rPop
def muId : Mu → String
  | .append => "list.append" | .extend => "list.extend" | .remove => "list.remove" | .pop => "list.pop"
theorem mt_mu (m : Mu) : MtR X (muId m) (rMu m) := by
  cases m
  · exact mt_append
  · exact mt_extend
  · exact mt_remove
  · exact mt_pop
theorem Reps.dropLast {K : PySem.W.Frag} {CA : Nat → Addr} {Z : Addr → Prop} {H : Hp} {ds : List D} {vs : List V} (h : Reps K CA Z H ds vs) : Reps K CA Z H ds.dropLast vs.dropLast := by
  rw [List.dropLast_eq_take, List.dropLast_eq_take, h.length]
  exact h.take _
theorem mutate_append {xs ys ds : List D} (h : mutate .append xs ds = some ys) : ∃ d x, ds = [d] ∧ d.item = some x ∧ xs.length < lim ∧ xs ++ [x] = ys := by
  rcases ds with _ | ⟨d, _ | ⟨d2, t⟩⟩
  · exact nomatch h
  · have h : d.item.bind (fun x => chk (decide (xs.length < lim)) (xs ++ [x])) = some ys := h
    cases q : d.item with
    | none => rw [q] at h; exact nomatch h
    | some x =>
      rw [q] at h
      obtain ⟨c, e⟩ := chk_some (show chk (decide (xs.length < lim)) (xs ++ [x]) = some ys from h)
      exact ⟨d, x, rfl, q, of_decide_eq_true c, e⟩
  · exact nomatch h
theorem mutate_extend {xs ys ds : List D} (h : mutate .extend xs ds = some ys) : ∃ zs, (ds = [.own zs] ∨ ds = [.lst zs]) ∧ xs.length + zs.length ≤ lim ∧ xs ++ zs = ys := by
  rcases ds with _ | ⟨d, _ | ⟨d2, t⟩⟩
  · exact nomatch h
  · cases d with
    | own zs =>
      obtain ⟨c, e⟩ := chk_some (show chk (decide (xs.length + zs.length ≤ lim)) (xs ++ zs) = some ys from h)
      exact ⟨zs, .inl rfl, of_decide_eq_true c, e⟩
    | lst zs =>
      obtain ⟨c, e⟩ := chk_some (show chk (decide (xs.length + zs.length ≤ lim)) (xs ++ zs) = some ys from h)
      exact ⟨zs, .inr rfl, of_decide_eq_true c, e⟩
    | _ => exact nomatch h
  · exact nomatch h
theorem mutate_remove {xs ys ds : List D} (h : mutate .remove xs ds = some ys) : ∃ k is, ds = [.int k] ∧ asInts xs = some is ∧ is.contains k = true ∧ (is.erase k).map D.int = ys := by
  rcases ds with _ | ⟨d, _ | ⟨d2, t⟩⟩
  · exact nomatch h
  · cases d with
    | int k =>
      have h : (match asInts xs with
        | some is => if is.contains k then some ((is.erase k).map D.int) else none
        | none => none) = some ys := h
      cases q : asInts xs with
      | none => rw [q] at h; exact nomatch h
      | some is =>
        rw [q] at h
        by_cases c : is.contains k = true
        · have h : (if is.contains k = true then some ((is.erase k).map D.int) else none) = some ys := h
          rw [if_pos c] at h
          exact ⟨k, is, rfl, rfl, c, Option.some.inj h⟩
        · have h : (if is.contains k = true then some ((is.erase k).map D.int) else none) = some ys := h
          rw [if_neg c] at h
          exact nomatch h
    | _ => exact nomatch h
  · simp [mutate] at h
theorem mutate_pop {xs ys ds : List D} (h : mutate .pop xs ds = some ys) : ds = [] ∧ xs ≠ [] ∧ xs.dropLast = ys := by
  rcases ds with _ | ⟨d, t⟩
  · have h : (if xs.isEmpty then none else some xs.dropLast) = some ys := h
    cases xs with
    | nil => simp at h
    | cons x xs => exact ⟨rfl, by simp, Option.some.inj h⟩
  · simp [mutate] at h
/-- a list that is written: what the rule asks -/
theorem mu_core {base : ST} {Fr : Addr → Prop} {s : ST} {σ : L2.St} {m : Mu} {a : Addr} {xs ys : List D} {vs : List V} {ds : List D} {ws : List V} {Q : VK} (eH : s.H a = some (.lst vs)) (r : Reps G.K G.CA (Av Fr s σ) s.H xs vs) (rv : RepVs G Fr base s σ ds ws)
    (e : mutate m xs ds = some ys) (q : ∀ zs, Reps G.K G.CA (Av Fr s σ) s.H ys zs → ∀ v, Q v (upd s.H a (.lst zs))) : rMu m (.ref a) ws s.H Q := by
  cases m with
  | append =>
    obtain ⟨d, x, rfl, q2, c, rfl⟩ := mutate_append e
    obtain ⟨v, rfl, rv'⟩ := RepVs.one rv
    exact ⟨a, vs, v, rfl, rfl, eH, by rw [r.length, lim_eq]; exact c, q _ (r.append ⟨v, [], rfl, rv'.item q2, rfl⟩) _⟩
  | extend =>
    obtain ⟨zs, ed, c, rfl⟩ := mutate_extend e
    rcases ed with rfl | rfl
    · obtain ⟨v, rfl, rv'⟩ := RepVs.one rv
      obtain ⟨b, us, rfl, _, e2, n, r2, _⟩ := rv'
      exact ⟨a, b, vs, us, rfl, rfl, eH, e2, by rw [r.length, r2.length, lim_eq]; exact c, q _ (r.append (Reps.mono (Av.less fun _ z => .inl z) _ _ r2)) _⟩
    · obtain ⟨v, rfl, rv'⟩ := RepVs.one rv
      obtain ⟨b, us, rfl, n, e2, r2⟩ := rv'
      exact ⟨a, b, vs, us, rfl, rfl, eH, e2, by rw [r.length, r2.length, lim_eq]; exact c, q _ (r.append r2) _⟩
  | remove =>
    obtain ⟨k, is, rfl, q2, c, rfl⟩ := mutate_remove e
    obtain ⟨v, rfl, rv'⟩ := RepVs.one rv
    cases (show v = .int k from rv')
    cases r.ints q2
    have hm : k ∈ is := by simpa using c
    have hl := List.idxOf_lt_length_of_mem hm
    refine ⟨a, is, k, is.idxOf k, rfl, rfl, eH, by rw [List.getElem?_eq_getElem hl, List.getElem_idxOf], fun j hj hz => ?_, ?_⟩
    · obtain ⟨h1, h2⟩ := List.getElem?_eq_some_iff.mp hz
      have := List.not_of_lt_findIdx hj
      simp [h2] at this
    · rw [← List.erase_eq_eraseIdx_of_idxOf rfl]
      exact q _ (Reps.ofInts _) _
  | pop =>
    obtain ⟨rfl, c, rfl⟩ := mutate_pop e
    obtain ⟨e0, _⟩ := rv
    subst e0
    have hl : 0 < vs.length := by
      rw [r.length]
      exact List.length_pos_iff.mpr c
    exact ⟨a, vs, vs[vs.length - 1], rfl, rfl, eH, List.getElem?_eq_getElem (by omega), q _ r.dropLast _⟩
theorem s_mut {m : Mu} {i : Nat} {x name : Str} {p5 : Pos} (hi : X.N[i]? = some x) (hv : Vis X.env.scope x) (hd : (x == ("__debug__" : Str)) = false) (hcd : (x == ("__classdict__" : Str)) = false)
    (hr : ∀ {r : V → List V → Hp → VK → Prop}, MtR X (muId m) r → PE X (.Call (.Attribute (.Name x p1) name p2) es [] p3) (tBM X.K "list" r (tVar i) (rAs G W T0 F ia)))
    (hs : swapsWith (.Call (.Attribute (.Name x p1) name p2) es [] p3) none pos.line X.env = pure false) :
    PS X (.Expr (.Call (.Attribute (.Name x p1) name p2) es [] p3) pos) (rSt G W T0 F w (.mut m i ia)) := PS.imp (ps_expr (hr (mt_mu m)) hs) fun Dd σ H ⟨Fr, s, eH, hs, p0⟩ => by
  subst eH
  have p : PostS G W Fr s σ Dd (if mutable i s.en s.st then (evalE T0 F ia s.en s.st).bind fun r en st => mutS m i (listO r) en st else .bad) := p0
  clear p0
  cases cm : mutable i s.en s.st with
  | false => rw [cm] at p; exact p.elim
  | true =>
  rw [cm, if_pos rfl] at p
  have head : ∃ a vs, σ[i]? = some (some (.ref a)) ∧ s.H a = some (.lst vs) := by
    unfold mutable at cm
    cases q : getS s.en i with
    | none => rw [q] at cm; cases cm
    | some d =>
      rw [q] at cm
      obtain ⟨v, e1, r⟩ := hs.slots i d (getS_some q)
      cases d with
      | own xs => obtain ⟨a, rfl, vs, e2, _⟩ := r; exact ⟨a, vs, e1, e2⟩
      | cell n =>
        obtain ⟨a, rfl, e2⟩ := r
        have hn : n < s.st.length := of_decide_eq_true cm
        obtain ⟨b, e3, vs, e4, _⟩ := hs.cells n s.st[n] (List.getElem?_eq_getElem hn)
        rw [e2] at e3
        cases e3
        exact ⟨a, vs, e1, e4⟩
      | _ => cases cm
  obtain ⟨a, vs, e1, e2⟩ := head
  refine ⟨.ref a, e1, .inl ⟨rfl, vs, SqL.of e2⟩, Fr, s, rfl, hs, (PostS.bindE (rep := rA G) p).imp fun ws H2 ⟨s2, r, e, h2, x2, ⟨ds, er, rr⟩, p2, _, _⟩ => ?_⟩
  subst e er
  have p2 : PostS G W Fr s2 σ Dd (mutS m i ds s2.en s2.st) := p2
  unfold mutS at p2
  cases q : getS s2.en i with
  | none => simp only [q] at p2; exact p2.elim
  | some d =>
    cases d with
    | own xs =>
      simp only [q] at p2
      cases qm : mutate m xs ds with
      | none => simp only [qm] at p2; exact p2.elim
      | some ys =>
        simp only [qm] at p2
        obtain ⟨v', f1, a', f2, us, f3, f4⟩ := h2.slots i _ (getS_some q)
        subst f2
        rw [e1] at f1
        cases f1
        refine mu_core f3 f4 rr qm fun zs rz v => ?_
        obtain ⟨b, us', g1, g2, g3, g4, g5⟩ := h2.writeOwn (ys := ys) (ws := zs) (getS_some q) rz
        rw [e1] at g1
        cases g1
        exact p2 { s2 with en := setS s2.en i (.own ys), H := upd s2.H a (.lst zs) } σ rfl rfl g4 g5
    | cell n =>
      simp only [q] at p2
      cases qx : s2.st[n]? with
      | none => simp only [qx] at p2; exact p2.elim
      | some xs =>
      simp only [qx] at p2
      cases qm : mutate m xs ds with
      | none => simp only [qm] at p2; exact p2.elim
      | some ys =>
        simp only [qm] at p2
        obtain ⟨v', f1, a', f2, f3⟩ := h2.slots i _ (getS_some q)
        obtain ⟨a2, f4, us, f5, f6⟩ := h2.cells n xs qx
        subst f2
        rw [e1] at f1
        cases f1
        rw [f3] at f4
        cases f4
        refine mu_core f5 f6 rr qm fun zs rz v => ?_
        obtain ⟨b, us', g1, g2, g3, g4, g5⟩ := h2.writeCell (ys := ys) (ws := zs) qx rz
        rw [f3] at g1
        cases g1
        exact p2 { s2 with st := s2.st.set n ys, H := upd s2.H a (.lst zs) } σ rfl rfl g4 g5
    | _ => simp only [q] at p2; exact p2.elim
end
end Ev

end
section
set_option linter.all false
set_option maxRecDepth 100000
/-! Snd18: calls. -/
namespace Ev
open PySem PySem.Spec PyProof.Rows L2
def ArgV (G : Gm) (Fr : Addr → Prop) (s : ST) (σ : L2.St) (d : D) (v : V) : Prop := match d with
  | .cell n => ∃ a, v = .ref a ∧ s.m[n]? = some a
  | d => Rep G.K G.CA (Av Fr s σ) s.H d v
def ArgR (G : Gm) (Fr : Addr → Prop) (s : ST) (σ : L2.St) : List D → List V → Prop
  | [], vs => vs = []
  | d :: ds, vs => ∃ v r, vs = v :: r ∧ ArgV G Fr s σ d v ∧ ArgR G Fr s σ ds r
section
variable {G : Gm} {Fr Fr2 Fc : Addr → Prop} {s sc s1 base : ST} {σ σc σ1 : L2.St}
theorem ArgR.length : ∀ {ds : List D} {vs : List V}, ArgR G Fr s σ ds vs → vs.length = ds.length
  | [], vs, h => by cases (show vs = [] from h); rfl
  | _ :: _, _, ⟨v, r, e, _, t⟩ => by subst e; simp [ArgR.length t]
theorem ArgR.get : ∀ {ds : List D} {vs : List V} {i : Nat} {d : D}, ArgR G Fr s σ ds vs → ds[i]? = some d → ∃ v, vs[i]? = some v ∧ ArgV G Fr s σ d v
  | [], _, _, _, _, h => by simp at h
  | x :: ds, _, 0, d, ⟨v, r, e, h1, t⟩, h => by
    subst e
    cases h; exact ⟨v, rfl, h1⟩
  | x :: ds, _, i + 1, d, ⟨v, r, e, h1, t⟩, h => by
    subst e
    exact ArgR.get (ds := ds) (vs := r) (i := i) t (by simpa using h)
theorem RepVs.argR : ∀ {ds xs : List D} {vs : List V} {Fr : Addr → Prop}, RepVs G Fr base s σ ds vs → args ds = some xs → ArgR G Fr s σ xs vs
  | [], xs, vs, Fr, ⟨e, _⟩, h => by cases h; exact e
  | d :: ds, xs, vs, Fr, ⟨v, r, e, h1, t⟩, h => by
    unfold Ev.args at h
    cases e1 : d.arg with
    | none => rw [e1] at h; cases h
    | some x =>
      cases e2 : Ev.args ds with
      | none => rw [e1, e2] at h; cases h
      | some ys =>
        rw [e1, e2] at h
        cases h
        have kd : ∀ a u, s.H a = some u → ¬ Av (FrO Fr ds r) s σ a → s.H a = some u ∧ ¬ Av Fr s σ a := Av.less fun _ z => .inl z
        refine ⟨v, r, e, ?_, ArgR.less (frOf.more d v) (RepVs.argR t e2)⟩
        cases d with
        | own xs =>
          cases e1
          obtain ⟨a, vs, e, _, q1, n, rr, _⟩ := h1
          exact ⟨a, vs, e, fun z => n (z.imp id .inl), q1, Reps.mono (Av.less fun b z => .inl (.inl z)) _ _ rr⟩
        | pk i => cases e1
        | cell n => cases e1; exact h1
        | frz _ => cases e1; exact Rep.mono kd _ v h1
        | non => cases e1; exact Rep.mono kd _ v h1
        | bl _ => cases e1; exact Rep.mono kd _ v h1
        | int _ => cases e1; exact Rep.mono kd _ v h1
        | str _ => cases e1; exact Rep.mono kd _ v h1
        | tup _ => cases e1; exact Rep.mono kd _ v h1
        | lst _ => cases e1; exact Rep.mono kd _ v h1
        | ins _ _ => cases e1; exact Rep.mono kd _ v h1
where
  ArgR.less {Fr Fr' : Addr → Prop} (k : ∀ a, Fr a → Fr' a) : ∀ {ds : List D} {vs : List V}, ArgR G Fr' s σ ds vs → ArgR G Fr s σ ds vs
    | [], _, h => h
    | d :: ds, _, ⟨v, r, e, h1, t⟩ => by
      refine ⟨v, r, e, ?_, ArgR.less k t⟩
      cases d with
      | cell n => exact h1
      | own _ => exact (show False from h1).elim
      | pk _ => exact (show False from h1).elim
      | frz _ => exact Rep.mono (Av.less k) _ v h1
      | non => exact Rep.mono (Av.less k) _ v h1
      | bl _ => exact Rep.mono (Av.less k) _ v h1
      | int _ => exact Rep.mono (Av.less k) _ v h1
      | str _ => exact Rep.mono (Av.less k) _ v h1
      | tup _ => exact Rep.mono (Av.less k) _ v h1
      | lst _ => exact Rep.mono (Av.less k) _ v h1
      | ins _ _ => exact Rep.mono (Av.less k) _ v h1
/-- back in the caller -/
theorem SR.ret (h : SR G.K G.CA Fr s σ) (hc : SR G.K G.CA Fc s1 σ1) (x : Ext sc s1 σc σ1) (eH : sc.H = s.H) (em : sc.m = s.m) (wrc : ∀ a, Wr sc σc a → a ∈ s.m) (f2 : ∀ a, Fr2 a → Fc a) (fo : ∀ j a, ownAt s.en σ j a → Fc a) (k2 : ∀ a, Fr2 a → Fr a ∨ s.H a = none) :
    SR G.K G.CA Fr2 { s with st := s1.st.take s.st.length, H := s1.H } σ ∧ Ext s { s with st := s1.st.take s.st.length, H := s1.H } σ σ ∧ ∀ a, Av Fr2 { s with st := s1.st.take s.st.length, H := s1.H } σ a → Av Fc s1 σ1 a := by
  obtain ⟨l, el⟩ := x.pre
  rw [em] at el
  have av : ∀ a, Av Fr2 { s with st := s1.st.take s.st.length, H := s1.H } σ a → Av Fc s1 σ1 a := fun a z => by
    rcases z with (z | ⟨j, z⟩) | z
    · exact .inl (.inl (by rw [el]; exact List.mem_append_left _ z))
    · exact .inr (fo j a z)
    · exact .inr (f2 a z)
  have kp : ∀ a u, s.H a = some u → a ∉ s.m → s1.H a = some u := fun a u e n => x.keep a u (by rw [eH]; exact e) fun z => n (wrc a z)
  have kd : ∀ a u, s.H a = some u → ¬ Av Fr s σ a → s1.H a = some u ∧ ¬ Av Fr2 { s with st := s1.st.take s.st.length, H := s1.H } σ a := fun a u e n => by
    refine ⟨kp a u e fun z => n (.inl (.inl z)), fun z => ?_⟩
    rcases z with z | z
    · exact n (.inl z)
    · rcases k2 a z with z | z
      · exact n (.inr z)
      · rw [e] at z; cases z
  have hml : s.st.length ≤ s1.st.length := by rw [← hc.ml, el, List.length_append, h.ml]; omega
  refine ⟨⟨fun a z => hc.trk a (f2 a z), ?_, fun n xs q => ?_, h.nd, fun i d q => ?_, h.inj, h.noc, fun i a z y => ?_, h.len⟩, ⟨fun a u e n => kp a u e fun z => n (.inl z), fun a z => .inl z, fun a z => x.sm a (by rw [eH]; exact z), [], by simp⟩, av⟩
  · show s.m.length = (s1.st.take s.st.length).length
    rw [List.length_take, h.ml]; omega
  · have q : (s1.st.take s.st.length)[n]? = some xs := q
    rw [List.getElem?_take] at q
    split at q
    · rename_i hn
      obtain ⟨a, q1, vs, q2, r⟩ := hc.cells n xs q
      refine ⟨a, ?_, vs, q2, Reps.mono (fun b u e n => ⟨e, fun z => n (av b z)⟩) _ _ r⟩
      rw [el, List.getElem?_append_left (by rw [h.ml]; exact hn)] at q1
      exact q1
    · cases q
  · obtain ⟨v, q1, r⟩ := h.slots i d q
    refine ⟨v, q1, r.mono kd (fun xs a e1 e2 => ?_) ⟨[], by simp⟩⟩
    subst e1 e2
    obtain ⟨b, e3, vs, e4, _⟩ := r
    cases e3
    rw [e4]
    exact kp a _ e4 (h.noc i a ⟨xs, q, q1⟩)
  · rcases k2 a y with y | y
    · exact h.nfr i a z y
    · exact h.wrTrk (.inr ⟨i, z⟩) y
/-- a def's promise -/
def spF (G : Gm) (F : Fn) (f : Nat) : Sp := fun vs H Q E => ∃ Fr s σ ds, s.H = H ∧ SR G.K G.CA Fr s σ ∧ ArgR G Fr s σ ds vs ∧ Post G (fun c d _ H => E c d H) (rV G) Fr s σ Q (callO F f ds s.en s.st)
theorem noOwn {ds : List D} {vs : List V} (r : ArgR G Fr s σ ds vs) {n j : Nat} {xs : List D} (h : (ds.map some ++ List.replicate n none)[j]? = some (some (.own xs))) : False := by
  by_cases hj : j < ds.length
  · rw [List.getElem?_append_left (by simpa using hj), List.getElem?_map, Option.map_eq_some_iff] at h
    obtain ⟨d, h1, h2⟩ := h
    cases h2
    obtain ⟨v, _, h3⟩ := r.get h1
    exact h3
  · rw [List.getElem?_append_right (by simpa using hj), List.getElem?_replicate] at h
    split at h <;> cases h
/-- the callee's state -/
theorem SR.enter {N : List Str} {ds : List D} {vs : List V} (h : SR G.K G.CA Fr s σ) (r : ArgR G Fr s σ ds vs) :
    SR G.K G.CA (fun a => Fr a ∨ ∃ j, ownAt s.en σ j a) { s with en := ds.map some ++ List.replicate (N.length - ds.length) none } (L2.start N vs) ∧ ∀ a, Wr { s with en := ds.map some ++ List.replicate (N.length - ds.length) none } (L2.start N vs) a → a ∈ s.m := by
  have no : ∀ j a, ¬ ownAt (ds.map some ++ List.replicate (N.length - ds.length) none) (L2.start N vs) j a := fun j a ⟨xs, e, _⟩ => noOwn r e
  have wr : ∀ a, Wr { s with en := ds.map some ++ List.replicate (N.length - ds.length) none } (L2.start N vs) a → a ∈ s.m := fun a z => z.elim id fun ⟨j, z⟩ => (no j a z).elim
  have kd : ∀ a u, s.H a = some u → ¬ Av Fr s σ a → s.H a = some u ∧ ¬ Av (fun a => Fr a ∨ ∃ j, ownAt s.en σ j a) { s with en := ds.map some ++ List.replicate (N.length - ds.length) none } (L2.start N vs) a := fun a u e n => by
    refine ⟨e, fun z => ?_⟩
    rcases z with z | z | ⟨j, z⟩
    · exact n (.inl (.inl (wr a z)))
    · exact n (.inr z)
    · exact n (.inl (.inr ⟨j, z⟩))
  refine ⟨⟨fun a z => z.elim (h.trk a) fun ⟨j, z⟩ => h.wrTrk (.inr ⟨j, z⟩), h.ml, fun n xs q => ?_, h.nd, fun i d q => ?_, fun i j a z => (no i a z).elim, fun i a z => (no i a z).elim, fun i a z => (no i a z).elim, ?_⟩, wr⟩
  · obtain ⟨a, q1, o⟩ := h.cells n xs q
    exact ⟨a, q1, o.mono kd rfl⟩
  · have q : (ds.map some ++ List.replicate (N.length - ds.length) none)[i]? = some (some d) := q
    have hi : i < ds.length := by
      by_cases hi : i < ds.length
      · exact hi
      · rw [List.getElem?_append_right (by simpa using hi), List.getElem?_replicate] at q
        split at q <;> cases q
    rw [List.getElem?_append_left (by simpa using hi), List.getElem?_map, Option.map_eq_some_iff] at q
    obtain ⟨d', q1, q2⟩ := q
    cases q2
    obtain ⟨v, q3, q4⟩ := r.get q1
    refine ⟨v, ?_, ?_⟩
    · unfold L2.start
      rw [List.getElem?_append_left (by rw [List.length_map, r.length]; exact hi), List.getElem?_map, q3]; rfl
    · cases d with
      | cell n => exact q4
      | own _ => exact (show False from q4).elim
      | pk _ => exact (show False from q4).elim
      | frz _ => exact Rep.mono kd _ v q4
      | non => exact Rep.mono kd _ v q4
      | bl _ => exact Rep.mono kd _ v q4
      | int _ => exact Rep.mono kd _ v q4
      | str _ => exact Rep.mono kd _ v q4
      | tup _ => exact Rep.mono kd _ v q4
      | lst _ => exact Rep.mono kd _ v q4
      | ins _ _ => exact Rep.mono kd _ v q4
  · unfold L2.start
    show (ds.map some ++ _).length = _
    rw [List.length_append, List.length_append, List.length_map, List.length_map, List.length_replicate, List.length_replicate, r.length]
/-- the body's end is the call's -/
theorem fn_core {T0 : Tab} {P : Nat → Option Fd} {w k f : Nat} {fd : Fd} {N : List Str} {ds : List D} {vs : List V} {Q : VK} {E : XK} (hf : P f = some fd) (hy : fd.year = none) (hN : fd.names = N.length) (hp : ds.length = fd.pars) (h : SR G.K G.CA Fr s σ) (r : ArgR G Fr s σ ds vs)
    (p : Post G (fun c d _ H => E c d H) (rV G) Fr s σ Q (callO (callF T0 P w (k + 1)) f ds s.en s.st)) :
    rSt G (fun c d _ H => E c d H) T0 (callF T0 P w k) w fd.body { nx := fun _ H' => Q .non H', rt := Q } (L2.start N vs) s.H := by
  obtain ⟨hc, wrc⟩ := SR.enter (N := N) h r
  refine ⟨_, { s with en := ds.map some ++ List.replicate (N.length - ds.length) none }, rfl, hc, ?_⟩
  have p : Post G (fun c d _ H => E c d H) (rV G) Fr s σ Q (match (match P f with
    | none => OutF.bad
    | some fd => match fd.year with
      | some (c, g) => mkYear (callF T0 P w k) c g ds s.st
      | none => if ds.length = fd.pars then
        (match evalS T0 (callF T0 P w k) w fd.body (ds.map some ++ List.replicate (fd.names - fd.pars) none) s.st with
        | .ok (.rt d) _ st' => (match retD d with
          | some d => .ok d (st'.take s.st.length)
          | none => .bad)
        | .ok .nx _ st' => .ok .non (st'.take s.st.length)
        | .exc c vs _ st' => .exc c vs (st'.take s.st.length)
        | _ => .bad)
      else .bad) with
    | .ok d st' => .ok d s.en st'
    | .exc c vs st' => .exc c vs s.en st'
    | .bad => .bad) := p
  rw [hf] at p
  simp only [hy, hp, if_pos] at p
  rw [hN, ← hp] at p
  show PostS G (fun c d _ H => E c d H) (fun a => Fr a ∨ ∃ j, ownAt s.en σ j a) _ _ _ (evalS T0 (callF T0 P w k) w fd.body (ds.map some ++ List.replicate (N.length - ds.length) none) s.st)
  cases q : evalS T0 (callF T0 P w k) w fd.body (ds.map some ++ List.replicate (N.length - ds.length) none) s.st with
  | bad => rw [q] at p; exact p.elim
  | exc c xs en st =>
    rw [q] at p
    intro d s1 σ1 e1 e2 h1 x1 ⟨ws, z1, z2, z3, z4⟩
    obtain ⟨h2, x2, av⟩ := h.ret (Fr2 := Fr) h1 x1 rfl rfl wrc (fun _ z => .inl z) (fun j a z => .inr ⟨j, z⟩) fun _ z => .inl z
    exact p d { s with st := s1.st.take s.st.length, H := s1.H } rfl (by show s1.st.take _ = _; rw [e2]) h2 x2 ⟨ws, z1, fun z => z2 (av d z), Reps.mono (fun b u e n => ⟨e, fun z => n (av b z)⟩) _ _ z3, z4⟩
  | ok fl en st =>
    rw [q] at p
    cases fl with
    | bk => exact p.elim
    | ct => exact p.elim
    | nx =>
      intro s1 σ1 e1 e2 h1 x1
      obtain ⟨h2, x2, av⟩ := h.ret (Fr2 := Fr) h1 x1 rfl rfl wrc (fun _ z => .inl z) (fun j a z => .inr ⟨j, z⟩) fun _ z => .inl z
      exact p .non { s with st := s1.st.take s.st.length, H := s1.H } rfl (by show s1.st.take _ = _; rw [e2]) h2 x2 rfl
    | rt d =>
      intro v s1 σ1 e1 e2 h1 x1 rv
      obtain ⟨h2, x2, av⟩ := h.ret (Fr2 := Fr) h1 x1 rfl rfl wrc (fun _ z => .inl z) (fun j a z => .inr ⟨j, z⟩) fun _ z => .inl z
      cases qr : retD d with
      | none => simp only [qr] at p; exact p.elim
      | some d' =>
      simp only [qr] at p
      cases retD_some qr
      refine p v { s with st := s1.st.take s.st.length, H := s1.H } rfl (by show s1.st.take _ = _; rw [e2]) h2 x2 ?_
      have kd : ∀ b u, s1.H b = some u → ¬ Av (fun a => Fr a ∨ ∃ j, ownAt s.en σ j a) s1 σ1 b → s1.H b = some u ∧ ¬ Av Fr { s with st := s1.st.take s.st.length, H := s1.H } σ b := fun b u e n => ⟨e, fun z => n (av b z)⟩
      cases d with
      | own xs =>
        obtain ⟨a, ws, ev, z0, z1, z2, z3, z4⟩ := rv
        have z0 : s.H a = none := z0
        obtain ⟨h3, x3, av3⟩ := h.ret (Fr2 := And1 Fr a) z4 x1 rfl rfl wrc (fun b z => z.elim (fun z => .inl (.inl z)) .inr) (fun j b z => .inl (.inr ⟨j, z⟩)) fun b z => z.elim .inl fun (z : b = a) => .inr (by rw [z]; exact z0)
        exact ⟨a, ws, ev, z0, z1, fun z => z2 (av a z), Reps.mono (fun b u e n => ⟨e, fun z => n (av3 b z)⟩) _ _ z3, h3⟩
      | cell n => cases qr
      | pk i => cases qr
      | frz _ => exact Rep.mono kd _ v rv
      | non => exact Rep.mono kd _ v rv
      | bl _ => exact Rep.mono kd _ v rv
      | int _ => exact Rep.mono kd _ v rv
      | str _ => exact Rep.mono kd _ v rv
      | tup _ => exact Rep.mono kd _ v rv
      | lst _ => exact Rep.mono kd _ v rv
      | ins _ _ => exact Rep.mono kd _ v rv
end
section
variable {G : Gm} {W : WX} {X : Cx} {T0 : Tab} {F : Fn} {a b c : Expr} {es : List Expr} {ia ib ic ir : E} {pos p1 p2 p3 p4 : Pos}
theorem e_call {f k : Nat} {ad : Addr} {fd : FuncData} {ps : List Str} {x : Str} (Fk : FnOk X.prog X.w X.K X.mg X.base (L2.CX X.prog X.w) k ad fd ps (spF G F f)) (hr : Room k X.A) (hg : Gl X x) (hm : X.mg x = some (.ref ad)) (hk : PySem.W.keepIn X.K (.ref ad) = true)
    (hb : Binds X.K fd ps []) (tk : Takes X W) (ha : PA X (a :: es) (rAs G W T0 F ia)) (hdb : (x == ("__debug__" : Str)) = false) (he : starEach (a :: es) X.env = (false, eval a X.env) :: starEach es X.env) (hpl : (backTo pos (starEach es X.env)).any (·.1) = false) :
    PE X (.Call (.Name x p1) (a :: es) [] pos) (rE G W T0 F (.call f ia)) :=
  PE.imp (pe_callSD Fk hr hg hm hk hb .nil (passAt tk) ha hdb he hpl) fun σ H Q h => by
    refine (R.bind (rep := rA G) h).imp fun vs H1 ⟨Fr, s, s1, d, e, h1, x1, ⟨ds, ed, rr⟩, p1, p0, _⟩ => ?_
    subst e ed
    obtain ⟨xs, q, p2⟩ := p1.ofB
    rw [List.append_nil]
    exact ⟨Fr, s1, σ, xs, rfl, h1, rr.argR q, p2⟩
end
end Ev

end
section
set_option linter.all false
set_option maxRecDepth 100000
/-! Snd19: fields, properties. -/
namespace Ev
open PySem PySem.Spec PyProof.Rows L2
section
variable {G : Gm} {W : WX} {X : Cx} {T0 : Tab} {F : Fn} {a b c e : Expr} {es : List Expr} {ia ib ic ie : E} {pos p1 p2 p3 p4 : Pos}
theorem PE.ex {α : Type} {g : α → TE} (h : ∀ a, PE X e (g a)) : PE X e (fun σ H Q => ∃ a, g a σ H Q) := ⟨fun p s σ H Q I ⟨a, q⟩ => (h a).run p s σ H Q I q⟩
theorem PE.or {g g' : TE} (h : PE X e g) (h' : PE X e g') : PE X e (fun σ H Q => g σ H Q ∨ g' σ H Q) := ⟨fun p s σ H Q I q => q.elim (h.run p s σ H Q I) (h'.run p s σ H Q I)⟩
theorem PE.no : PE X e (fun _ _ _ => False) := ⟨fun _ _ _ _ _ _ q => q.elim⟩
/-- what a class's property must have -/
structure PropOk (G : Gm) (X : Cx) (F : Fn) (n c : Nat) (f : Str) (g : Nat) : Prop where
  cls : SlX.SCls X.K (G.CA c)
  run : ∃ p ga, PySem.W.findIn X.K (.ref (G.CA c)) f = some (some (.ref p)) ∧ PySem.W.specialIn X.K (.ref p) "__get__" = some (some (.builtin "property.__get__")) ∧ PySem.W.takesIn X.K (.ref p) = some true ∧
    (∃ rest, PySem.W.recIn X.K p "property" = some (.ref ga :: rest)) ∧ FnR X.prog X.w X.K X.mg X.base (L2.CX X.prog X.w) n ga (spF G F g)
theorem e_attr {f : Str} {n : Nat} (hf : ∀ c i, T0.field c f = some i → SlX.SCls X.K (G.CA c) ∧ ∃ p, SlX.Slot1 X.K (G.CA c) f p i) (hp : ∀ c g, T0.prop c f = some g → PropOk G X F n c f g) (hr : Room (n + 1) X.A)
    (ha : PE X a (rE G W T0 F ia)) (hb : attributeBase a f X.env (eval a X.env) = eval a X.env) : PE X (.Attribute a f pos) (rE G W T0 F (.attr ia f)) := by
  have one : PE X (.Attribute a f pos) (SlX.tSl X.K (rE G W T0 F ia) f) := SlX.pe_sl ha hb
  have two : ∀ c g, PE X (.Attribute a f pos) (fun σ H Q => T0.prop c f = some g ∧ SlX.tPropSl (G.CA c) (spF G F g) (fun _ _ _ => False) (rE G W T0 F ia) σ H Q) := fun c g => ⟨fun p s σ H Q I ⟨e, q⟩ => by
    obtain ⟨cls, pa, ga, h1, h2, h3, h4, h5⟩ := hp c g e
    exact (SlX.pe_propSl (E := fun _ _ _ => False) ha cls h1 h2 h3 h4 h5 hr (fun H s e s' ⟨_, _, _, _, _, _, _, _, _, _, _, _, w⟩ => w) hb).run p s σ H Q I q⟩
  refine PE.imp (PE.or one (PE.ex fun c => PE.ex fun g => two c g)) fun σ H Q h => ?_
  obtain ⟨Fr, s, eH, hs, p⟩ := h
  subst eH
  have p : Post G W (rV G) Fr s σ Q ((evalE T0 F ia s.en s.st).bind fun x en st => (match x with
    | .ins c vs => (match T0.field c f with
      | some i => .of vs[i]? en st
      | none => (match T0.prop c f with
        | some g => noX (callO F g [.ins c vs] en st)
        | none => .bad))
    | _ => .bad)) := p
  cases q : evalE T0 F ia s.en s.st with
  | bad => rw [q] at p; exact p.elim
  | exc c vs en st => exact .inl ⟨Fr, s, rfl, hs, by rw [q] at p ⊢; exact p⟩
  | ok d en st =>
    rw [q] at p
    cases d with
    | ins c vs =>
      have p : Post G W (rV G) Fr s σ Q (match T0.field c f with
        | some i => .of vs[i]? en st
        | none => (match T0.prop c f with
          | some g => noX (callO F g [.ins c vs] en st)
          | none => .bad)) := p
      cases qf : T0.field c f with
      | some i =>
        simp only [qf] at p
        refine .inl ⟨Fr, s, rfl, hs, ?_⟩
        rw [q]
        intro v s1 e1 e2 h1 x1 r1
        obtain ⟨cls, pa, sl⟩ := hf c i qf
        obtain ⟨aa, dx, ws, rfl, n1, n2, z1, z2, rr⟩ := r1
        obtain ⟨d, qd, p2⟩ := p.of
        obtain ⟨w, qw, rw_⟩ := rr.get qd
        refine ⟨aa, G.CA c, dx, pa, ws.map some, i, w, rfl, .inr ⟨z1, z2⟩, cls, sl, by rw [List.getElem?_map, qw]; rfl, ?_⟩
        exact p2 w s1 e1 e2 h1 x1 rw_.toV
      | none =>
        simp only [qf] at p
        cases qp : T0.prop c f with
        | none => simp only [qp] at p; exact p.elim
        | some g =>
          simp only [qp] at p
          refine .inr ⟨c, g, qp, Fr, s, rfl, hs, ?_⟩
          rw [q]
          intro v s1 e1 e2 h1 x1 r1
          have r1' := r1
          obtain ⟨aa, dx, ws, rfl, n1, n2, z1, z2, rr⟩ := r1
          refine ⟨aa, dx, ws.map some, rfl, .inr ⟨z1, z2⟩, Fr, s1, σ, [.ins c vs], rfl, h1, ⟨.ref aa, [], rfl, r1', rfl⟩, ?_⟩
          rw [e1, e2]
          cases qc : callO F g [.ins c vs] en st with
          | bad => rw [qc] at p; exact p.elim
          | exc _ _ _ _ => rw [qc] at p; exact p.elim
          | ok d en' st' =>
            rw [qc] at p
            exact Post.later (W := fun c d _ H => False) (rep := rV G) (Q := Q) (o := .ok d en' st') p x1 fun _ z => z
    | _ => exact p.elim
end
end Ev

end
section
set_option linter.all false
set_option maxRecDepth 100000
/-! Fun2: Year(runs). -/
namespace Ev
open PySem PySem.Spec PyProof.Rows L2
section
variable {K : PySem.W.Frag} {CA : Nat → Addr} {Fr : Addr → Prop} {s s1 : ST} {σ : L2.St}
/-- something kept away from is written -/
theorem SR.writeO {D0 : Addr} {o : HO} (h : SR K CA Fr s σ) (fd : Fr D0) (n : ¬ Wr s σ D0) : SR K CA Fr { s with H := upd s.H D0 o } σ ∧
    (∀ a u, s.H a = some u → ¬ Av Fr s σ a → (upd s.H D0 o) a = some u ∧ ¬ Av Fr { s with H := upd s.H D0 o } σ a) := by
  have kd : ∀ b u, s.H b = some u → ¬ Av Fr s σ b → (upd s.H D0 o) b = some u ∧ ¬ Av Fr { s with H := upd s.H D0 o } σ b := fun b u q n =>
    ⟨by rw [upd_ne (fun (z : b = D0) => n (.inr (z ▸ fd)))]; exact q, fun z => n z⟩
  have kw : ∀ b, Wr s σ b → (upd s.H D0 o) b = s.H b := fun b z => upd_ne fun q => n (q ▸ z)
  refine ⟨⟨fun b z => ?_, h.ml, fun m xs q => ?_, h.nd, fun j x q => ?_, h.inj, h.noc, h.nfr, h.len⟩, kd⟩
  · show (upd s.H D0 o) b ≠ none
    by_cases q : b = D0
    · subst q; rw [upd_same]; simp
    · rw [upd_ne q]; exact h.trk b z
  · obtain ⟨a, q1, p⟩ := h.cells m xs q
    exact ⟨a, q1, p.mono kd (kw a (.inl (List.mem_of_getElem? q1)))⟩
  · obtain ⟨v, q1, p⟩ := h.slots j x q
    refine ⟨v, q1, p.mono kd (fun xs a e1 e2 => ?_) ⟨[], by simp⟩⟩
    subst e1 e2
    exact kw a (.inr ⟨j, xs, q, q1⟩)
/-- a slot of the instance at x is stored -/
theorem SR.slot {x dx C : Addr} {vs : List (Option V)} (h : SR K CA (And1 (And1 Fr dx) x) s σ) (n1 : ¬ Wr s σ x) (n2 : ¬ Wr s σ dx) : SR K CA (And1 (And1 Fr dx) x) { s with H := SlX.slH s.H x C dx vs } σ ∧
    (∀ a u, s.H a = some u → ¬ Av (And1 (And1 Fr dx) x) s σ a → SlX.slH s.H x C dx vs a = some u ∧ ¬ Av (And1 (And1 Fr dx) x) { s with H := SlX.slH s.H x C dx vs } σ a) := by
  obtain ⟨h1, k1⟩ := h.writeO (o := .xd []) (D0 := dx) (.inl (.inr rfl)) n2
  obtain ⟨h2, k2⟩ := h1.writeO (o := SlX.SlO x C dx vs) (D0 := x) (.inr rfl) n1
  exact ⟨h2, fun a u e n => (fun z => k2 a u z.1 z.2) (k1 a u e n)⟩
theorem Ext.slot {s1 : ST} {x dx C : Addr} {vs : List (Option V)} (e : Ext s s1 σ σ) (n1 : s.H x = none) (n2 : s.H dx = none) : Ext s { s1 with H := SlX.slH s1.H x C dx vs } σ σ := by
  have := (e.writeFr (o := .xd []) n2).writeFr (o := SlX.SlO x C dx vs) n1
  exact this
end
/-- __init__'s promise -/
def spI (G : Gm) (F : Fn) (C : Addr) (g : Nat) : Sp := fun vs H Q E => ∃ x dx Fr s σ d v, vs = [.ref x, v] ∧ H = upd (upd s.H dx (.own x)) x (.ins C dx []) ∧ s.H x = none ∧ s.H dx = none ∧ dx ≠ x ∧ SR G.K G.CA Fr s σ ∧ ArgV G Fr s σ d v ∧
  ∃ r st, callO F g [d] s.en s.st = .ok r s.en st ∧ ∀ s', s'.en = s.en → s'.st = st → SR G.K G.CA Fr s' σ → Ext s s' σ σ → Rep G.K G.CA (Av Fr s' σ) s'.H r (.ref x) → Q .non s'.H
section
variable {G : Gm} {W : WX} {X : Cx} {T0 : Tab} {F : Fn} {a b c : Expr} {es : List Expr} {ia ib ic ir : E} {pos p1 p2 p3 p4 : Pos}
theorem e_make {g k : Nat} {C f : Addr} {fd : FuncData} {ps : List Str} {x : Str} (M : Mk X.K C f) (Fk : FnOk X.prog X.w X.K X.mg X.base (L2.CX X.prog X.w) k f fd ps (spI G F C g)) (hr : Room (k + 1) X.A) (hg : Gl X x) (hm : X.mg x = some (.ref C))
    (hb : Binds X.K fd ps []) (hy : ∀ ds st, (∃ d xs r st', ds = [d] ∧ (∀ n, d ≠ .cell n) ∧ F g ds st = .ok (.ins xs r) st') ∨ F g ds st = .bad) (ha : PA X (a :: es) (rAs G W T0 F ia)) (hdb : (x == ("__debug__" : Str)) = false) (he : starEach (a :: es) X.env = (false, eval a X.env) :: starEach es X.env)
    (hpl : (backTo pos (starEach es X.env)).any (·.1) = false) : PE X (.Call (.Name x p1) (a :: es) [] pos) (rE G W T0 F (.call g ia)) :=
  PE.imp (pe_make (E := fun _ _ _ => False) M Fk hr hg hm hb .nil (fun _ _ _ _ _ _ _ ⟨_, _, _, _, _, _, _, _, _, _, _, _, z⟩ => z.elim) ha hdb he hpl) fun σ H Q h => by
    refine (R.bind (rep := rA G) h).imp fun vs H1 ⟨Fr, s, s1, d, e, h1, x1, ⟨ds, ed, rr⟩, p1, p0, _⟩ => ?_
    subst e ed
    obtain ⟨xs, q, p2⟩ := p1.ofB
    have ar := rr.argR q
    intro y dx hy0 hd0 hne
    rcases hy xs s1.st with ⟨d, ci, r, st', rfl, nc, e⟩ | e
    · obtain ⟨v, t, rfl, av, et⟩ := ar
      cases (show t = [] from et)
      have eo : callO F g [d] s1.en s1.st = .ok (.ins ci r) s1.en st' := by
        unfold callO
        rw [e]
      rw [eo] at p2
      refine ⟨y, dx, Fr, s1, σ, d, v, rfl, rfl, hy0, hd0, hne, h1, av, _, _, eo, fun s' e1 e2 h2 x2 rp => ⟨rfl, p2 (.ref y) s' e1 e2 h2 x2 rp⟩⟩
    · have eo : callO F g xs s1.en s1.st = .bad := by
        unfold callO
        rw [e]
      rw [eo] at p2
      exact p2.elim
theorem mkYear_cases {F : Fn} {c f : Nat} (ds : List D) (st : Store) : (∃ d xs r st', ds = [d] ∧ (∀ n, d ≠ .cell n) ∧ mkYear F c f ds st = .ok (.ins xs r) st') ∨ mkYear F c f ds st = .bad := by
  rcases ds with _ | ⟨d, _ | ⟨d2, t⟩⟩
  · exact .inr rfl
  · have e : mkYear F c f [d] st = (match d.seq with
      | some xs => (match asInts xs with
        | some is => if is.all (fun i => decide (i ≠ 0)) then (match F f [.tup xs] st with
          | .ok r st' => (match dataD r with
            | some r => .ok (.ins c [.tup xs, r]) st'
            | none => .bad)
          | _ => .bad) else .bad
        | none => .bad)
      | none => .bad) := rfl
    rw [e]
    cases q1 : d.seq with
    | none => exact .inr rfl
    | some xs =>
      dsimp only
      cases q2 : asInts xs with
      | none => exact .inr rfl
      | some is =>
        dsimp only
        split
        · cases q3 : F f [.tup xs] st with
          | bad => exact .inr rfl
          | exc _ _ _ => exact .inr rfl
          | ok r st' =>
            dsimp only
            cases q4 : dataD r with
            | none => exact .inr rfl
            | some r' => exact .inl ⟨d, _, _, _, rfl, (fun n z => by rw [z] at q1; cases q1), rfl⟩
        · exact .inr rfl
  · exact .inr rfl
end
end Ev

end
section
set_option linter.all false
set_option maxRecDepth 100000
/-! Cmp1: the program's text as E and S. -/
namespace Ev
open PySem
inductive Md where | v | p | t
  deriving DecidableEq, Inhabited
structure Info where
  N : List Str
  sc : Scope
  fn : Str → Option (Nat × List Nat)
  cst : Str → Option D
  blt : Str → Bool
  st : Str → Bool
def posOf (x : Str) : List Str → Nat → Option Nat
  | [], _ => none
  | y :: r, k => if y == x then some k else posOf x r (k + 1)
def Info.isVis (I : Info) (x : Str) : Bool := match I.sc.names.lookup x with
  | some .local => true | some .cell => true | some .free => true | _ => false
def Info.isLoc (I : Info) (x : Str) : Bool := I.st x && (match I.sc.names.lookup x with
  | some .local => true | some .cell => true | _ => false)
def stOf (scope : Scope) (x : Str) : Bool := match scope.names.lookup x with
  | some .local => true | some .cell => true | _ => false
def dund (x : Str) : Bool := (x == ("__debug__" : Str)) || (x == ("__classdict__" : Str))
def Info.ix (I : Info) (x : Str) : Option Nat := if I.isVis x && !dund x then posOf x I.N 0 else none
def Info.lx (I : Info) (x : Str) : Option Nat := if I.isLoc x && !dund x then posOf x I.N 0 else none
def Info.gl (I : Info) (x : Str) : Bool := (I.sc.names.lookup x == some .globalImplicit) && !dund x && (x != ("__name__" : Str))
def bopInv : Operator → Option Bop
  | .Add => some .add | .Sub => some .sub | .Mult => some .mul | .FloorDiv => some .fdiv | .Mod => some .mod | .Pow => some .pow | _ => none
def copInv : CmpOp → Option Cop
  | .Eq => some .eq | .NotEq => some .ne | .Lt => some .lt | .LtE => some .le | .Gt => some .gt | .GtE => some .ge | .Is => some .isn | .IsNot => some .notn | .In => some .inn | .NotIn => some .nin
def isStar : Expr → Bool
  | .Starred _ _ => true
  | _ => false
def noStar (es : List Expr) : Bool := es.all fun e => !isStar e
def isCall0 : Expr → Bool
  | .Call (.Name _ _) [] [] _ => true
  | _ => false
def isSet : Expr → Bool
  | .Set _ _ _ => true
  | _ => false
def isCompE : Expr → Bool
  | .ListComp _ _ _ _ => true | .SetComp _ _ _ _ => true | .DictComp _ _ _ _ _ => true
  | _ => false
def pTest : Expr → Bool
  | .UnaryOp .Not _ _ => false
  | .BoolOp .. => false
  | .IfExp .. => false
  | .Compare .. => false
  | _ => true
def pIx : Expr → Bool
  | .Slice .. => false
  | _ => true
/-- arguments -/
def argsW (f p : Expr → E) : List Expr → E
  | [] => .nil
  | .Starred a _ :: r => .star (p a) (argsW f p r)
  | a :: r => .cons (f a) (argsW f p r)
/-- arguments, some as places -/
def argsR (I : Info) (f p : Expr → E) (refs : List Nat) : Nat → List Expr → E
  | _, [] => .nil
  | k, .Starred a _ :: r => .star (p a) (argsR I f p refs (k + 1) r)
  | k, .Name x q :: r => .cons (if refs.contains k then (match I.ix x with
    | some i => .ref i
    | none => f (.Name x q)) else f (.Name x q)) (argsR I f p refs (k + 1) r)
  | k, a :: r => .cons (f a) (argsR I f p refs (k + 1) r)
def boolW (op : BoolOp) (g : Expr → E) : List Expr → E
  | [] => .bad
  | [a] => g a
  | a :: r => match op with
    | .And => .and (g a) (boolW op g r)
    | .Or => .or (g a) (boolW op g r)
def isListCall : Expr → Bool
  | .Call (.Name x _) [_] [] _ => x == ("list" : Str)
  | _ => false
def biTab : List ((Str × Nat) × Bi) := [(("len", 1), .len), (("sum", 1), .sum), (("max", 1), .max1), (("min", 1), .min1), (("max", 2), .max2), (("min", 2), .min2), (("abs", 1), .abs), (("int", 1), .toInt),
  (("tuple", 1), .toTup), (("list", 1), .toLst), (("sorted", 1), .sorted), (("all", 1), .all), (("any", 1), .any)]
def biOf (x : Str) (n : Nat) : Option Bi := (biTab.find? fun y => y.1.1 == x && y.1.2 == n).map (·.2)
def isTup : Expr → Bool
  | .Tuple .. => true
  | _ => false
def tyOf (x : Str) : Option Ty :=
  if x == ("int" : Str) then some .int else if x == ("bool" : Str) then some .bool else if x == ("str" : Str) then some .str
  else if x == ("list" : Str) then some .list else if x == ("tuple" : Str) then some .tuple else none
def tysOf (I : Info) : List Expr → Option (List Ty)
  | [] => some []
  | .Name x _ :: r => if I.gl x && I.blt x then (match tyOf x, tysOf I r with
    | some k, some ks => some (k :: ks)
    | _, _ => none) else none
  | _ :: _ => none
/-- what a comprehension's block calls its own -/
def ownOf (N : List Str) : List (Str × NameKind) → List (Str × Nat)
  | [] => []
  | (x, .local) :: r => (match posOf x N 0 with
    | some i => (x, i) :: ownOf N r
    | none => ownOf N r)
  | (x, .cell) :: r => (match posOf x N 0 with
    | some i => (x, i) :: ownOf N r
    | none => ownOf N r)
  | _ :: r => ownOf N r
def blkOk (N : List Str) (sc scope : Scope) : Bool :=
  (scope.kind == .function) && (scope.names.all fun y => scope.names.lookup y.1 == some y.2) &&
  (scope.names.all fun y => y.2 != .free || sc.names.lookup y.1 == some .cell || sc.names.lookup y.1 == some .free)
def relab (scope sc : Scope) : Scope := { scope with names := scope.names.map fun (n, k) => if k == .free && sc.kind == .function && sc.names.lookup n == some .cell then (n, .cell) else (n, k) }
def Info.blk (I : Info) (scope : Scope) : Info := { I with sc := relab scope I.sc, st := stOf scope }
def tgsOf : T → List Nat
  | .nm i => [i]
  | .tp a => tgsOf a
  | .nil => []
  | .cons a b => tgsOf a ++ tgsOf b
  | .ix _ _ => []
def one (es : List Expr) : Bool := match es with
  | [_] => true
  | _ => false
/-- targets -/
def compG (I : Info) (f : Expr → E) : Nat → Expr → Option T
  | 0, _ => none
  | n + 1, e => match e with
    | .Name x _ => (I.lx x).map .nm
    | .Tuple es _ _ => if noStar es then (compGs (compG I f n) es).map .tp else none
    | .Subscript (.Name x _) b _ => if pIx b then (I.ix x).map fun i => .ix i (f b) else none
    | _ => none
where
  compGs (g : Expr → Option T) : List Expr → Option T
    | [] => some .nil
    | a :: r => match g a, compGs g r with
      | some t, some u => some (.cons t u)
      | _, _ => none
/-- what is walked -/
def compI (I : Info) (f p : Expr → E) (tg iter : Expr) : E := match iter with
  | .Call (.Name x _) as [] _ => if I.gl x && I.blt x && noStar as && x == ("range" : Str) && (as.length == 1 || as.length == 2 || as.length == 3) then .rng (argsW f p as)
    else if I.gl x && I.blt x && noStar as && x == ("zip" : Str) && as.length == 2 && isTup tg then .zip (argsW f f as)
    else if I.gl x && I.blt x && noStar as && x == ("enumerate" : Str) && as.length == 1 && isTup tg then .enum (argsW f f as)
    else f iter
  | _ => f iter
def compO (f : Expr → E) : Option Expr → E
  | none => .no
  | some e => (match f e with
    | .no => .bad
    | i => i)
def isRev1 : Expr → Bool
  | .UnaryOp .USub (.Constant (.int 1) _ _) _ => true
  | _ => false
def comp : Nat → Info → Md → Expr → E
  | 0, _, _, _ => .bad
  | n + 1, I, m, e => match e with
    | .Constant c _ _ => (match c with
      | .int i => .lit (.int i)
      | .bool b => .lit (.bl b)
      | .none => .lit .non
      | .str x => .lit (.str x)
      | _ => .bad)
    | .Name x _ => (match I.ix x with
      | some i => (match m with
        | .p => .pk i
        | _ => .var i)
      | none => if I.gl x then (match I.cst x with
        | some d => .glob x d
        | none => .bad) else .bad)
    | .BinOp a op b _ => (match bopInv op with
      | some o => .bin o (comp n I .p a) (comp n I .p b)
      | none => .bad)
    | .UnaryOp op a _ => (match op with
      | .USub => .neg (comp n I .v a)
      | .Not => (match m with
        | .t => .not (comp n I .t a)
        | _ => .not (comp n I .v a))
      | _ => .bad)
    | .Compare a ops bs _ => (match ops, bs with
      | [op], [b] => (match copInv op with
        | some o => if behindInMarks op b then .bad else .cmp o (comp n I .p a) (comp n I .p b)
        | none => .bad)
      | [op, op'], [b, c] => (match copInv op, copInv op' with
        | some o, some o' => if lastMarks [op, op'] [b, c] then .bad else .chain o o' (comp n I .p a) (comp n I .p b) (comp n I .p c)
        | _, _ => .bad)
      | _, _ => .bad)
    | .BoolOp op vs _ => (match m with
      | .t => boolW op (comp n I .t) vs
      | _ => (match op, vs with
        | .Or, [a, b] => if isListCall a then .orL (comp n I .v a) (comp n I .v b) else boolW op (comp n I .v) vs
        | _, _ => boolW op (comp n I .v) vs))
    | .IfExp c a b _ => (match m with
      | .t => .bad
      | m => .ite (comp n I .t c) (comp n I m a) (comp n I m b))
    | .Tuple es _ _ => .tup (argsW (comp n I .v) (comp n I .p) es)
    | .List es _ => .lst (argsW (comp n I .v) (comp n I .p) es)
    | .Subscript a b _ => (match b with
      | .Slice lo hi none _ => .slice (comp n I .p a) (compO (comp n I .v) lo) (compO (comp n I .v) hi)
      | .Slice none none (some st) _ => if isRev1 st then .rev (comp n I .p a) else .bad
      | b => if pIx b then .idx (comp n I .p a) (comp n I .v b) else .bad)
    | .Attribute a f _ => if isCall0 a then .bad else .attr (comp n I .v a) f
    | .Call fe as [] pos => (match fe with
      | .Name x _ => if I.gl x then (match I.fn x with
          | some (g, refs) => if as.isEmpty || !noStar as then .bad else .call g (argsR I (comp n I .v) (comp n I .p) refs 0 as)
          | none => if I.blt x && noStar as then (if x == ("isinstance" : Str) then (match as with
              | [a, .Name y q] => (match tysOf I [.Name y q] with
                | some ks => .isi (comp n I .p a) ks
                | none => .bad)
              | [a, .Tuple ts _ _] => (match tysOf I ts with
                | some ks => if ks.isEmpty || !decide (ks.length ≤ 10) then .bad else .isi (comp n I .p a) ks
                | none => .bad)
              | _ => .bad)
            else (match biOf x as.length with
              | some b => .bi b (argsW (comp n I .p) (comp n I .p) as)
              | none => .bad)) else .bad) else .bad
      | .Attribute o name p1 => (match as with
        | [a] => if name == ("index" : Str) && !isCall0 o && !isStar a && (p1.endLine == pos.line) then .bm .index (comp n I .p o) (argsW (comp n I .v) (comp n I .p) [a]) else .bad
        | _ => .bad)
      | _ => .bad)
    | .ListComp elt gs scope _ => (match gs with
      | [⟨tg, iter, ifs, 0⟩] => if blkOk I.N I.sc scope && !isSet iter then
          (match compG (I.blk scope) (comp n (I.blk scope) .v) n tg with
          | some t => if (tgsOf t).all (fun i => (ownOf I.N scope.names).any fun y => y.2 == i) then
              .comp ((ownOf I.N scope.names).map (·.2)) t (compI I (comp n I .v) (comp n I .p) tg iter)
                (match ifs with
                | [] => .lit (.bl true)
                | [c] => comp n (I.blk scope) .t c
                | _ => .bad) (comp n (I.blk scope) .v elt) else .bad
          | none => .bad) else .bad
      | _ => .bad)
    | _ => .bad
def lcW (n : Nat) (I : Info) (elt tg iter : Expr) (ifs : List Expr) (scope : Scope) : E := if blkOk I.N I.sc scope && !isSet iter then
  (match compG (I.blk scope) (comp n (I.blk scope) .v) n tg with
  | some t => if (tgsOf t).all (fun i => (ownOf I.N scope.names).any fun y => y.2 == i) then
      .comp ((ownOf I.N scope.names).map (·.2)) t (compI I (comp n I .v) (comp n I .p) tg iter)
        (match ifs with
        | [] => .lit (.bl true)
        | [c] => comp n (I.blk scope) .t c
        | _ => .bad) (comp n (I.blk scope) .v elt) else .bad
  | none => .bad) else .bad
/-- names that are stored at once -/
def swNames (I : Info) (ts : List Expr) : List Str := ts.filterMap fun
  | .Name id pos => if I.sc.names.lookup id == some .local && pos.line == (ts.head?.map (·.pos.line)).getD 0 then some id else none
  | _ => none
/-- what swappedStores says, purely -/
def swPure (I : Info) (ts vs : List Expr) : Option (Option (List Str)) :=
  if (!(ts.length == 2 || ts.length == 3) || vs.length != ts.length) = true then some none else
  if vs.any isStar = true then some none else
  if ((swNames I ts).length != ts.length || (swNames I ts).eraseDups.length != (swNames I ts).length) = true then some none else
  if vs.all (foldedForSure 8) = true then some none else
  if vs.all (constantsAlone 8) = true then none else some (some (swNames I ts))
def swB (I : Info) (x : Str) (p1 : Pos) (scope : Scope) (p : Pos) : Bool :=
  (I.sc.names.lookup x == some .local) && p1.line == p.line && !(scope.names.any fun (n, k) => n == x && (k == .local || k == .cell))
def muOf (x : Str) (n : Nat) : Option Mu :=
  if x == ("append" : Str) && n == 1 then some .append
  else if x == ("extend" : Str) && n == 1 then some .extend
  else if x == ("remove" : Str) && n == 1 then some .remove
  else if x == ("pop" : Str) && n == 0 then some .pop
  else none
def isTL : Expr → Bool
  | .Tuple .. => true | .List .. => true
  | _ => false
def gW (n : Nat) (I : Info) (tg e : Expr) : S := match compG I (comp n I .v) n tg with
  | some t => .asg t (comp n I .v e)
  | none => .no
def nameW (n : Nat) (I : Info) (x : Str) (p1 : Pos) (e : Expr) : S := match I.lx x with
  | some i => if isCompE e then (match e with
      | .ListComp elt [⟨tg', iter, ifs, 0⟩] scope p => if swB I x p1 scope p then .par [i] (.cons (lcW n I elt tg' iter ifs scope) .nil) else .no
      | _ => .no) else .par [i] (.cons (comp n I .v e) .nil)
  | none => .no
def par2W (n : Nat) (I : Info) (names : List Str) (x y : Str) (a b : Expr) : S := match I.lx x, I.lx y with
  | some i, some j => if names == [x, y] && i != j && (I.sc.names.lookup x == some .local) && (I.sc.names.lookup y == some .local) then .par [i, j] (argsW (comp n I .v) (comp n I .p) [a, b]) else .no
  | _, _ => .no
def par3W (n : Nat) (I : Info) (names : List Str) (x y z : Str) (a b c : Expr) : S := match I.lx x, I.lx y, I.lx z with
  | some i, some j, some k => if names == [x, y, z] && i != j && i != k && j != k && (I.sc.names.lookup x == some .local) && (I.sc.names.lookup y == some .local) && (I.sc.names.lookup z == some .local) then .par [i, j, k] (argsW (comp n I .v) (comp n I .p) [a, b, c]) else .no
  | _, _, _ => .no
def parW (n : Nat) (I : Info) (names : List Str) (ts vs : List Expr) : S := match ts, vs with
  | [.Name x _, .Name y _], [a, b] => par2W n I names x y a b
  | [.Name x _, .Name y _, .Name z _], [a, b, c] => par3W n I names x y z a b c
  | _, _ => .no
def tupW (n : Nat) (I : Info) (ts : List Expr) (tg e : Expr) : S := match e with
  | .Tuple vs _ _ => (match swPure I ts vs with
    | some none => gW n I tg e
    | some (some names) => parW n I names ts vs
    | none => .no)
  | e => if isCompE e then .no else gW n I tg e
def compAsg (n : Nat) (I : Info) (tg e : Expr) : S := match tg with
  | .Name x p1 => nameW n I x p1 e
  | .Tuple ts _ _ => tupW n I ts tg e
  | tg => if isCompE e || isTL tg then .no else gW n I tg e
def compEx (n : Nat) (I : Info) (e : Expr) : S :=
  let old := if isCompE e then .no else .ex (comp n I .v e)
  match e with
  | .Call (.Attribute (.Name x _) name p2) as [] p3 => (match muOf name as.length, I.ix x with
    | some m, some i => if noStar as && (p2.endLine == p3.line) then .mut m i (argsW (comp n I .v) (comp n I .p) as) else .no
    | _, _ => old)
  | _ => old
def seqW (f : Stmt → S) : List Stmt → S
  | [] => .skip
  | a :: r => .seq (f a) (seqW f r)
def compS : Nat → Info → Stmt → S
  | 0, _, _ => .no
  | n + 1, I, st => match st with
    | .Pass _ => .skip
    | .Break _ => .brk
    | .Continue _ => .cont
    | .Return e _ => (match e with
      | none => .ret (.lit .non)
      | some e => .ret (comp n I .v e))
    | .If c a b _ => .ite (comp n I .t c) (seqW (compS n I) a) (seqW (compS n I) b)
    | .While c b orelse _ => if orelse.isEmpty then .while (comp n I .t c) (seqW (compS n I) b) else .no
    | .For tg iter b orelse _ => if orelse.isEmpty && !isSet iter then (match compG I (comp n I .v) n tg with
      | some t => .for t (compI I (comp n I .v) (comp n I .p) tg iter) (seqW (compS n I) b)
      | none => .no) else .no
    | .Assign tgs e _ => (match tgs with
      | [tg] => compAsg n I tg e
      | _ => .no)
    | .Expr e _ => compEx n I e
    | _ => .no
end Ev

end
section
set_option linter.all false
set_option maxRecDepth 100000
/-! Cmp2: the compiled text says what the text does: expressions. -/
namespace Ev
open PySem PySem.Spec PyProof.Rows L2
/-- a global name that is called -/
inductive CallOk (G : Gm) (X : Cx) (F : Fn) (lv : Nat) (x : Str) (g : Nat) : Prop where
  | fn (ad : Addr) (fd : FuncData) (ps : List Str) (h : FnOk X.prog X.w X.K X.mg X.base (L2.CX X.prog X.w) lv ad fd ps (spF G F g)) (hm : X.mg x = some (.ref ad)) (hk : PySem.W.keepIn X.K (.ref ad) = true) (hb : Binds X.K fd ps [])
  | mk (C f : Addr) (fd : FuncData) (ps : List Str) (k : Nat) (M : Mk X.K C f) (h : FnOk X.prog X.w X.K X.mg X.base (L2.CX X.prog X.w) k f fd ps (spI G F C g)) (hk : k + 1 ≤ lv) (hm : X.mg x = some (.ref C)) (hb : Binds X.K fd ps [])
    (hy : ∀ ds st, (∃ d xs r st', ds = [d] ∧ (∀ n, d ≠ .cell n) ∧ F g ds st = .ok (.ins xs r) st') ∨ F g ds st = .bad)
structure Ctx (G : Gm) (T0 : Tab) (F : Fn) (W : WX) (lv : Nat) (I : Info) (X : Cx) : Prop where
  hK : X.K = G.K
  calm : X.calm = true
  N : X.N = I.N
  nd : X.N.Nodup
  sc : X.env.scope = I.sc
  loc : ∀ x, I.st x = true → X.env.scope.names.lookup x = some .local ∨ X.env.scope.names.lookup x = some .cell → X.fn x = true ∨ X.env.scope.names.lookup x = some .local
  room : Room lv X.A
  tk : Takes X W
  blt : ∀ x, I.blt x = true → X.mg x = none
  fns : ∀ x g refs, I.fn x = some (g, refs) → CallOk G X F lv x g
  cst : ∀ x d, I.cst x = some d → ∃ v u, X.mg x = some u ∧ RelV v u ∧ ∀ Z H, Rep G.K G.CA Z H d v
  fld : ∀ f c i, T0.field c f = some i → SlX.SCls X.K (G.CA c) ∧ ∃ p, SlX.Slot1 X.K (G.CA c) f p i
  prp : ∀ f c g, T0.prop c f = some g → ∃ n, PropOk G X F n c f g ∧ n + 1 = lv
section
variable {G : Gm} {W : WX} {X : Cx} {T0 : Tab} {F : Fn} {I : Info} {lv : Nat}
theorem Ctx.blk (C : Ctx G T0 F W lv I X) {s : Shared} {H : Hp} {scope : Scope} {cl : List (Str × Addr)} {A : Addr} {fp : List Addr} : Ctx G T0 F WF lv (I.blk scope) (X.blk s H scope (compEnvC scope cl A X.env) fp) where
  hK := C.hK
  calm := C.calm
  N := C.N
  nd := C.nd
  sc := by
    show relabel scope X.env = relab scope I.sc
    rw [← C.sc]; rfl
  loc := fun x h k => by
    have h : stOf scope x = true := h
    unfold stOf at h
    cases q : scope.names.lookup x with
    | none => rw [q] at h; cases h
    | some z =>
      cases z with
      | «local» => exact .inr (lookup_relabel_local q)
      | cell => exact .inl (by show (scope.names.lookup x == some .cell) = true; rw [q]; rfl)
      | _ => rw [q] at h; cases h
  room := C.room
  tk := fun u s' ⟨_, _, _, _, _, _, _, _, _, _, _, _, _, _, _, _, w⟩ => w.elim
  blt := C.blt
  fns := fun x g refs h => by
    cases C.fns x g refs h with
    | fn ad fd ps h hm hk hb => exact .fn ad fd ps h hm hk hb
    | mk Cc f fd ps k M h hk hm hb hy => exact .mk Cc f fd ps k M h hk hm hb hy
  cst := C.cst
  fld := C.fld
  prp := fun f c g h => by
    obtain ⟨n, p, e⟩ := C.prp f c g h
    exact ⟨n, ⟨p.cls, p.run⟩, e⟩
theorem posOf_get {x : Str} : ∀ {l : List Str} {k i : Nat}, posOf x l k = some i → ∃ j, i = k + j ∧ l[j]? = some x
  | [], k, i, h => by cases h
  | y :: r, k, i, h => by
    have h : (if y == x then some k else posOf x r (k + 1)) = some i := h
    by_cases c : (y == x) = true
    · rw [if_pos c] at h
      cases h
      exact ⟨0, rfl, by rw [eq_of_beq c]; rfl⟩
    · rw [if_neg c] at h
      obtain ⟨j, e, q⟩ := posOf_get h
      exact ⟨j + 1, by omega, q⟩
theorem dund_no {x : Str} (h : dund x = false) : (x == ("__debug__" : Str)) = false ∧ (x == ("__classdict__" : Str)) = false := by
  unfold dund at h
  simpa using h
theorem ix_ok (C : Ctx G T0 F W lv I X) {x : Str} {i : Nat} (h : I.ix x = some i) : X.N[i]? = some x ∧ Vis X.env.scope x ∧ (x == ("__debug__" : Str)) = false ∧ (x == ("__classdict__" : Str)) = false := by
  unfold Info.ix at h
  split at h
  · rename_i c
    simp only [Bool.and_eq_true, Bool.not_eq_true'] at c
    obtain ⟨j, e, q⟩ := posOf_get h
    refine ⟨by rw [C.N, e, Nat.zero_add]; exact q, ?_, dund_no c.2⟩
    have c1 := c.1
    unfold Info.isVis at c1
    rw [← C.sc] at c1
    unfold Vis
    cases q : X.env.scope.names.lookup x with
    | none => rw [q] at c1; cases c1
    | some z => cases z <;> first | (rw [q] at c1; cases c1; done) | exact .inl rfl | exact .inr (.inl rfl) | exact .inr (.inr rfl)
  · cases h
theorem lx_ok (C : Ctx G T0 F W lv I X) {x : Str} {i : Nat} (h : I.lx x = some i) : X.N[i]? = some x ∧ L2.Loc X.env.scope x ∧ (X.fn x = true ∨ X.env.scope.names.lookup x = some .local) := by
  unfold Info.lx at h
  split at h
  · rename_i c
    simp only [Bool.and_eq_true, Bool.not_eq_true'] at c
    obtain ⟨j, e, q⟩ := posOf_get h
    have c1 := c.1
    unfold Info.isLoc at c1
    rw [Bool.and_eq_true] at c1
    have l : L2.Loc X.env.scope x := by
      have c2 := c1.2
      rw [← C.sc] at c2
      unfold L2.Loc
      cases q : X.env.scope.names.lookup x with
      | none => rw [q] at c2; cases c2
      | some z => cases z <;> first | (rw [q] at c2; cases c2; done) | exact .inl rfl | exact .inr rfl
    exact ⟨by rw [C.N, e, Nat.zero_add]; exact q, l, C.loc x c1.1 l⟩
  · cases h
theorem gl_ok (C : Ctx G T0 F W lv I X) {x : Str} (h : I.gl x = true) : Gl X x ∧ x ≠ ("__name__" : Str) ∧ (x == ("__debug__" : Str)) = false := by
  unfold Info.gl at h
  simp only [Bool.and_eq_true, beq_iff_eq, bne_iff_ne, ne_eq, Bool.not_eq_true'] at h
  refine ⟨?_, h.2, (dund_no h.1.2).1⟩
  show X.env.scope.names.lookup x = _
  rw [C.sc]; exact h.1.1
theorem bop_inv {op : Operator} {o : Bop} (h : bopInv op = some o) : op = bopOf o := by
  cases op <;> cases h <;> rfl
theorem cop_inv {op : CmpOp} {o : Cop} (h : copInv op = some o) : op = copOf o := by
  cases op <;> cases h <;> rfl
theorem e_bad {e : Expr} : PE X e (rE G W T0 F .bad) := ⟨fun _ _ _ _ _ _ ⟨_, _, _, _, p⟩ => (show False from p).elim⟩
theorem t_bad {e : Expr} : PT X e (rT G W T0 F .bad) := ⟨fun _ _ _ _ _ _ ⟨_, _, _, _, p⟩ => (show False from p).elim⟩
theorem star_no {a : Expr} (h : isStar a = false) : ∀ x p, a ≠ .Starred x p := fun x p e => by rw [e] at h; cases h
theorem noStar_cons {a : Expr} {es : List Expr} (h : noStar (a :: es) = true) : isStar a = false ∧ noStar es = true := by
  unfold noStar at h ⊢
  rw [List.all_cons, Bool.and_eq_true, Bool.not_eq_true'] at h
  exact h
theorem noStar_hpl : ∀ {es : List Expr} {env : PySem.Env} {pos : Pos}, noStar es = true → (backTo pos (starEach es env)).any (·.1) = false
  | [], _, _, _ => rfl
  | a :: es, env, pos, h => by
    obtain ⟨h1, h2⟩ := noStar_cons h
    rw [starEach_plain (star_no h1)]
    show (false || (backTo pos (starEach es env)).any (·.1)) = false
    rw [noStar_hpl h2]; rfl
theorem base_ok {o : Expr} {f : Str} {env : PySem.Env} (h : isCall0 o = false) : attributeBase o f env (eval o env) = eval o env := by
  cases o with
  | Call fe as kw p =>
    cases fe <;> first | rfl | (cases as <;> first | rfl | (cases kw <;> first | rfl | cases h))
  | _ => rfl
theorem folded_ok {e : Expr} {env : PySem.Env} (h : isSet e = false) : ∀ x, foldedSetIterable e env x = pure x := fun x => by
  cases e <;> first | rfl | cases h
/-- argument lists -/
theorem args_ok {f p : Expr → E} (hK : X.K = G.K) (hf : ∀ e, PE X e (rE G W T0 F (f e))) (hp : ∀ e, PE X e (rE G W T0 F (p e))) : ∀ es : List Expr, PA X es (rAs G W T0 F (argsW f p es))
  | [] => a_nil
  | a :: es => by
    cases hs : isStar a with
    | true =>
      cases a <;> first | cases hs | skip
      exact a_star hK (hp _) (args_ok hK hf hp es)
    | false =>
      have e : argsW f p (a :: es) = .cons (f a) (argsW f p es) := by cases a <;> first | rfl | cases hs
      rw [e]
      exact a_cons (hf a) (args_ok hK hf hp es) (star_no hs)
theorem argsR_ok (C : Ctx G T0 F W lv I X) {f p : Expr → E} (hf : ∀ e, PE X e (rE G W T0 F (f e))) (hp : ∀ e, PE X e (rE G W T0 F (p e))) {refs : List Nat} : ∀ (es : List Expr) (k : Nat), PA X es (rAs G W T0 F (argsR I f p refs k es))
  | [], _ => a_nil
  | a :: es, k => by
    cases hs : isStar a with
    | true =>
      cases a <;> first | cases hs | skip
      exact a_star C.hK (hp _) (argsR_ok C hf hp es (k + 1))
    | false =>
      cases a with
      | Name x q =>
        have e : argsR I f p refs k (.Name x q :: es) = .cons (if refs.contains k then (match I.ix x with
          | some i => .ref i
          | none => f (.Name x q)) else f (.Name x q)) (argsR I f p refs (k + 1) es) := rfl
        rw [e]
        refine a_cons ?_ (argsR_ok C hf hp es (k + 1)) (star_no hs)
        split
        · cases q2 : I.ix x with
          | none => exact hf _
          | some i =>
            obtain ⟨h1, h2, h3, h4⟩ := ix_ok C q2
            exact e_ref h1 h2 h3 h4
        · exact hf _
      | Starred _ _ => cases hs
      | _ => exact a_cons (hf _) (argsR_ok C hf hp es (k + 1)) (star_no hs)
theorem bool_ok {op : BoolOp} {g : Expr → E} {pos : Pos} (hg : ∀ e, PE X e (rE G W T0 F (g e))) : ∀ vs : List Expr, PE X (.BoolOp op vs pos) (rE G W T0 F (boolW op g vs))
  | [] => e_bad
  | [a] => pe_one (hg a)
  | a :: b :: r => by
    cases op with
    | And => exact e_and (hg a) (bool_ok hg (b :: r))
    | Or => exact e_or (hg a) (bool_ok hg (b :: r))
theorem boolT_ok {op : BoolOp} {g : Expr → E} {pos : Pos} (hg : ∀ e, PT X e (rT G W T0 F (g e))) : ∀ vs : List Expr, PW X (.BoolOp op vs pos) (rT G W T0 F (boolW op g vs))
  | [] => ⟨fun _ _ _ _ _ _ _ ⟨_, _, _, _, p⟩ => (show False from p).elim⟩
  | [a] => by
    cases op with
    | And => exact t_and1 (hg a)
    | Or => exact t_or1 (hg a)
  | a :: b :: r => by
    cases op with
    | And => exact t_and (hg a) (boolT_ok hg (b :: r))
    | Or => exact t_or (hg a) (boolT_ok hg (b :: r))
theorem biTab_ok : ∀ y ∈ biTab, 0 < y.1.2 ∧ ((∃ id, biVal y.2 = .builtin id ∧ bootBuiltins y.1.1 = some (.builtin id)) ∨ ∃ id, biVal y.2 = .type id ∧ bootBuiltins y.1.1 = some (.type id)) := by
  simp only [biTab, List.forall_mem_cons]
  refine ⟨⟨by decide, .inl ⟨_, rfl, by decide +kernel⟩⟩, ⟨by decide, .inl ⟨_, rfl, by decide +kernel⟩⟩, ⟨by decide, .inl ⟨_, rfl, by decide +kernel⟩⟩, ⟨by decide, .inl ⟨_, rfl, by decide +kernel⟩⟩, ⟨by decide, .inl ⟨_, rfl, by decide +kernel⟩⟩,
    ⟨by decide, .inl ⟨_, rfl, by decide +kernel⟩⟩, ⟨by decide, .inl ⟨_, rfl, by decide +kernel⟩⟩, ⟨by decide, .inr ⟨_, rfl, by decide +kernel⟩⟩, ⟨by decide, .inr ⟨_, rfl, by decide +kernel⟩⟩, ⟨by decide, .inr ⟨_, rfl, by decide +kernel⟩⟩,
    ⟨by decide, .inl ⟨_, rfl, by decide +kernel⟩⟩, ⟨by decide, .inl ⟨_, rfl, by decide +kernel⟩⟩, ⟨by decide, .inl ⟨_, rfl, by decide +kernel⟩⟩, fun y h => by cases h⟩
theorem biOf_ok {x : Str} {n : Nat} {b : Bi} (h : biOf x n = some b) : 0 < n ∧ ((∃ id, biVal b = .builtin id ∧ bootBuiltins x = some (.builtin id)) ∨ ∃ id, biVal b = .type id ∧ bootBuiltins x = some (.type id)) := by
  obtain ⟨y, q, rfl⟩ := Option.map_eq_some_iff.mp (show (biTab.find? fun y => y.1.1 == x && y.1.2 == n).map (·.2) = some b from h)
  have c := List.find?_some q
  rw [Bool.and_eq_true, beq_iff_eq, beq_iff_eq] at c
  obtain ⟨rfl, rfl⟩ := c
  exact biTab_ok y (List.mem_of_find?_eq_some q)
theorem tyOf_ok {x : Str} {k : Ty} (h : tyOf x = some k) : bootBuiltins x = some (.type (tyName k)) := by
  unfold tyOf at h
  repeat' split at h
  all_goals first
    | (cases h; done)
    | (rename_i c; rw [beq_iff_eq] at c; subst c; cases h; decide +kernel)
theorem tysOf_ok (C : Ctx G T0 F W lv I X) : ∀ {es : List Expr} {ks : List Ty}, tysOf I es = some ks → TyNames X es ks
  | [], ks, h => by cases h; exact .nil
  | e :: r, ks, h => by
    cases e with
    | Name x q =>
      have h : (if I.gl x && I.blt x then (match tyOf x, tysOf I r with
        | some k, some ks => some (k :: ks)
        | _, _ => none) else none) = some ks := h
      by_cases c : (I.gl x && I.blt x) = true
      · rw [if_pos c] at h
        rw [Bool.and_eq_true] at c
        cases q1 : tyOf x with
        | none => rw [q1] at h; cases h
        | some k =>
          cases q2 : tysOf I r with
          | none => rw [q1, q2] at h; cases h
          | some l =>
            rw [q1, q2] at h
            cases h
            obtain ⟨g1, g2, g3⟩ := gl_ok C c.1
            exact .cons g1 (C.blt x c.2) (tyOf_ok q1) g2 g3 (tysOf_ok C q2)
      · rw [if_neg c] at h; cases h
    | _ => cases h
theorem tysOf_len {es : List Expr} {ks : List Ty} (h : tysOf I es = some ks) : ks.length = es.length := by
  induction es generalizing ks with
  | nil => cases h; rfl
  | cons e r ih =>
    cases e with
    | Name x q =>
      have h : (if I.gl x && I.blt x then (match tyOf x, tysOf I r with
        | some k, some ks => some (k :: ks)
        | _, _ => none) else none) = some ks := h
      split at h
      · split at h
        · rename_i q2
          cases h
          simp [ih q2]
        · cases h
      · cases h
    | _ => cases h
theorem tgsOf_eq : ∀ t : T, tgsOf t = tgs t
  | .nm i => rfl
  | .tp a => tgsOf_eq a
  | .nil => rfl
  | .cons a b => by show tgsOf a ++ tgsOf b = tgs a ++ tgs b; rw [tgsOf_eq a, tgsOf_eq b]
  | .ix _ _ => rfl
/-- targets -/
theorem compGs_ok {g : Expr → Option T} (hg : ∀ e t, g e = some t → PG X e (rG G W T0 F t)) : ∀ {es : List Expr} {t : T}, noStar es = true → compG.compGs g es = some t → PGs X es (rGs G W T0 F t) ∧ tgLen t = some es.length
  | [], t, _, h => by cases h; exact ⟨gs_nil, rfl⟩
  | a :: r, t, hn, h => by
    obtain ⟨n1, n2⟩ := noStar_cons hn
    have h : (match g a, compG.compGs g r with
      | some t, some u => some (T.cons t u)
      | _, _ => none) = some t := h
    cases q1 : g a with
    | none => rw [q1] at h; cases h
    | some t1 =>
      cases q2 : compG.compGs g r with
      | none => rw [q1, q2] at h; cases h
      | some u =>
        rw [q1, q2] at h
        cases h
        obtain ⟨h1, h2⟩ := compGs_ok hg n2 q2
        refine ⟨gs_cons (hg a t1 q1) h1 (star_no n1), ?_⟩
        show (tgLen u).map (· + 1) = _
        rw [h2]; rfl
theorem compG_ok (C : Ctx G T0 F W lv I X) {f : Expr → E} (hf : ∀ e, PE X e (rE G W T0 F (f e))) : ∀ (n : Nat) (e : Expr) (t : T), compG I f n e = some t → PG X e (rG G W T0 F t)
  | 0, _, _, h => by cases h
  | n + 1, e, t, h => by
    cases e with
    | Name x p =>
      obtain ⟨i, q, rfl⟩ := Option.map_eq_some_iff.mp (show (I.lx x).map T.nm = some t from h)
      obtain ⟨h1, h2, h3⟩ := lx_ok C q
      exact g_nm C.nd h1 h2 h3
    | Tuple es k p =>
      have h : (if noStar es then (compG.compGs (compG I f n) es).map T.tp else none) = some t := h
      cases c : noStar es with
      | false => rw [c] at h; cases h
      | true =>
        rw [c, if_pos rfl] at h
        obtain ⟨u, q, rfl⟩ := Option.map_eq_some_iff.mp h
        obtain ⟨h1, h2⟩ := compGs_ok (compG_ok C hf n) c q
        exact g_tup C.hK C.calm h2 (fun e he => star_no (by
          unfold noStar at c
          have := List.all_eq_true.mp c e he
          simpa using this)) h1
    | Subscript o b p =>
      cases o with
      | Name x q =>
        have h : (if pIx b then (I.ix x).map fun i => T.ix i (f b) else none) = some t := h
        cases c : pIx b with
        | false => rw [c] at h; cases h
        | true =>
          rw [c, if_pos rfl] at h
          obtain ⟨i, q2, rfl⟩ := Option.map_eq_some_iff.mp h
          obtain ⟨h1, h2, h3, h4⟩ := ix_ok C q2
          exact g_ix h1 h2 h3 h4 (fun v => by cases b <;> first | rfl | cases c) (hf b)
      | _ => cases h
    | _ => cases h
theorem argLen_args {f p : Expr → E} : ∀ {es : List Expr}, noStar es = true → argLen (argsW f p es) = some es.length
  | [], _ => rfl
  | a :: es, h => by
    obtain ⟨h1, h2⟩ := noStar_cons h
    have e : argsW f p (a :: es) = .cons (f a) (argsW f p es) := by cases a <;> first | rfl | cases h1
    rw [e]
    show (argLen (argsW f p es)).map (· + 1) = _
    rw [argLen_args h2]; rfl
theorem isTup_ok {e : Expr} (h : isTup e = true) : ∃ es k p, e = .Tuple es k p := by
  cases e with
  | Tuple es k p => exact ⟨es, k, p, rfl⟩
  | _ => cases h
theorem compI_ok (C : Ctx G T0 F W lv I X) {f p : Expr → E} (hf : ∀ e, PE X e (rE G W T0 F (f e))) (hp : ∀ e, PE X e (rE G W T0 F (p e))) (tg iter : Expr) : PI X tg iter (rIt G W T0 F (compI I f p tg iter)) := by
  have any : ∀ e, PI X tg e (rIt G W T0 F (f e)) := fun e => i_any C.hK (hf e)
  unfold compI
  split
  · rename_i x q as p2
    split
    · rename_i c
      simp only [Bool.and_eq_true, beq_iff_eq, Bool.or_eq_true] at c
      obtain ⟨⟨⟨⟨c1, c2⟩, c3⟩, rfl⟩, c5⟩ := c
      obtain ⟨g1, g2, g3⟩ := gl_ok C c1
      have ha := args_ok C.hK hf hp as
      have hl := argLen_args (f := f) (p := p) c3
      rcases as with _ | ⟨a, _ | ⟨b, _ | ⟨d, _ | ⟨d2, t⟩⟩⟩⟩
      · exfalso; simp only [List.length_cons, List.length_nil] at c5; omega
      · obtain ⟨s1, _⟩ := noStar_cons c3
        exact i_rng1 g1 (C.blt _ c2) ha hl (star_no s1)
      · obtain ⟨s1, r1⟩ := noStar_cons c3
        obtain ⟨s2, _⟩ := noStar_cons r1
        exact i_rng2 g1 (C.blt _ c2) ha hl (star_no s1) (star_no s2)
      · obtain ⟨s1, r1⟩ := noStar_cons c3
        obtain ⟨s2, r2⟩ := noStar_cons r1
        obtain ⟨s3, _⟩ := noStar_cons r2
        exact i_rng3 g1 (C.blt _ c2) ha hl (star_no s1) (star_no s2) (star_no s3)
      · exfalso; simp only [List.length_cons, List.length_nil] at c5; omega
    · split
      · rename_i c
        simp only [Bool.and_eq_true, beq_iff_eq] at c
        obtain ⟨⟨⟨⟨⟨c1, c2⟩, c3⟩, rfl⟩, c5⟩, c6⟩ := c
        obtain ⟨g1, g2, g3⟩ := gl_ok C c1
        have ha := args_ok C.hK hf hf as
        have hl := argLen_args (f := f) (p := f) c3
        rcases as with _ | ⟨a, _ | ⟨b, _ | ⟨d, t⟩⟩⟩
        · exfalso; simp only [List.length_cons, List.length_nil] at c5; omega
        · exfalso; simp only [List.length_cons, List.length_nil] at c5; omega
        · obtain ⟨s1, r1⟩ := noStar_cons c3
          obtain ⟨s2, _⟩ := noStar_cons r1
          obtain ⟨es', kk, tp, rfl⟩ := isTup_ok c6
          exact i_zip C.hK g1 (C.blt _ c2) ha hl (star_no s1) (star_no s2)
        · exfalso; simp only [List.length_cons, List.length_nil] at c5; omega
      · split
        · rename_i c
          simp only [Bool.and_eq_true, beq_iff_eq] at c
          obtain ⟨⟨⟨⟨⟨c1, c2⟩, c3⟩, rfl⟩, c5⟩, c6⟩ := c
          obtain ⟨g1, g2, g3⟩ := gl_ok C c1
          have ha := args_ok C.hK hf hf as
          have hl := argLen_args (f := f) (p := f) c3
          rcases as with _ | ⟨a, _ | ⟨b, t⟩⟩
          · exfalso; simp only [List.length_cons, List.length_nil] at c5; omega
          · obtain ⟨s1, r1⟩ := noStar_cons c3
            obtain ⟨es', kk, tp, rfl⟩ := isTup_ok c6
            exact i_enum C.hK g1 (C.blt _ c2) ha hl (star_no s1)
          · exfalso; simp only [List.length_cons, List.length_nil] at c5; omega
        · exact any _
  · exact any _
theorem compO_ok {f : Expr → E} (hf : ∀ e, PE X e (rE G W T0 F (f e))) (e : Option Expr) : Bound X G W T0 F e (compO f e) := by
  cases e with
  | none => exact .no
  | some e =>
    show Bound X G W T0 F (some e) (match f e with
      | .no => .bad
      | i => i)
    split
    · exact .one (fun z => nomatch z) e_bad
    · rename_i h
      exact .one (fun z => h z) (hf e)
end
end Ev

end
section
set_option linter.all false
set_option maxRecDepth 100000
/-! Cmp3: the compiled expressions are right. -/
namespace Ev
open PySem PySem.Spec PyProof.Rows L2
section
variable {G : Gm} {T0 : Tab} {F : Fn} {lv : Nat}
def AllOk (G : Gm) (T0 : Tab) (F : Fn) (lv n : Nat) : Prop := ∀ (I : Info) (W : WX) (X : Cx), Ctx G T0 F W lv I X → (∀ e, PE X e (rE G W T0 F (comp n I .v e))) ∧ (∀ e, PE X e (rE G W T0 F (comp n I .p e))) ∧ (∀ e, PT X e (rT G W T0 F (comp n I .t e)))
theorem units_ok {W : WX} {I : Info} {X : Cx} (C : Ctx G T0 F W lv I X) : X.A.units + 64 < cLine := C.room.units
theorem name_ok {W : WX} {I : Info} {X : Cx} (C : Ctx G T0 F W lv I X) (n : Nat) (m : Md) (x : Str) (p : Pos) : PE X (.Name x p) (rE G W T0 F (comp (n + 1) I m (.Name x p))) := by
  show PE X _ (rE G W T0 F (match I.ix x with
    | some i => (match m with
      | .p => .pk i
      | _ => .var i)
    | none => if I.gl x then (match I.cst x with
      | some d => .glob x d
      | none => .bad) else .bad))
  cases q : I.ix x with
  | some i =>
    obtain ⟨h1, h2, h3, h4⟩ := ix_ok C q
    cases m with
    | p => exact e_pk h1 h2 h3 h4
    | v => exact e_var h1 h2 h3 h4
    | t => exact e_var h1 h2 h3 h4
  | none =>
    cases c : I.gl x with
    | false => exact e_bad
    | true =>
      cases qc : I.cst x with
      | none => exact e_bad
      | some d =>
        obtain ⟨g1, g2, g3⟩ := gl_ok C c
        obtain ⟨v, u, hm, rv, rep⟩ := C.cst x d qc
        exact PE.imp (pe_glob g1 hm rv g3) fun σ H Q ⟨Fr, s, eH, hs, p⟩ => by
          subst eH
          exact Fin.old p hs (rep _ _)
theorem const_ok {W : WX} {I : Info} {X : Cx} (n : Nat) (m : Md) (c : Const) (j : Nat) (p : Pos) : PE X (.Constant c j p) (rE G W T0 F (comp (n + 1) I m (.Constant c j p))) := by
  cases c with
  | int i => exact e_int
  | bool b => exact e_bl
  | none => exact e_non
  | str x => exact e_str
  | _ => exact e_bad
theorem bin_ok {W : WX} {I : Info} {X : Cx} (C : Ctx G T0 F W lv I X) {n : Nat} (hp : ∀ e, PE X e (rE G W T0 F (comp n I .p e))) (m : Md) (a b : Expr) (op : Operator) (p : Pos) : PE X (.BinOp a op b p) (rE G W T0 F (comp (n + 1) I m (.BinOp a op b p))) := by
  show PE X _ (rE G W T0 F (match bopInv op with
    | some o => .bin o (comp n I .p a) (comp n I .p b)
    | none => .bad))
  cases q : bopInv op with
  | none => exact e_bad
  | some o =>
    rw [bop_inv q]
    exact e_bin C.hK o (hp a) (hp b)
theorem cmp_ok {W : WX} {I : Info} {X : Cx} (C : Ctx G T0 F W lv I X) {n : Nat} (hp : ∀ e, PE X e (rE G W T0 F (comp n I .p e))) (m : Md) (a : Expr) (ops : List CmpOp) (bs : List Expr) (p : Pos) :
    PE X (.Compare a ops bs p) (rE G W T0 F (comp (n + 1) I m (.Compare a ops bs p))) ∧ PT X (.Compare a ops bs p) (rT G W T0 F (comp (n + 1) I m (.Compare a ops bs p))) := by
  rcases ops with _ | ⟨op, _ | ⟨op', _ | ⟨op3, os⟩⟩⟩
  · exact ⟨e_bad, t_bad⟩
  · rcases bs with _ | ⟨b, _ | ⟨c, bs⟩⟩
    · exact ⟨e_bad, t_bad⟩
    · show PE X _ (rE G W T0 F (match copInv op with
        | some o => if behindInMarks op b then .bad else .cmp o (comp n I .p a) (comp n I .p b)
        | none => .bad)) ∧ PT X _ (rT G W T0 F (match copInv op with
        | some o => if behindInMarks op b then .bad else .cmp o (comp n I .p a) (comp n I .p b)
        | none => .bad))
      cases q : copInv op with
      | none => exact ⟨e_bad, t_bad⟩
      | some o =>
        cases hm : behindInMarks op b with
        | true => exact ⟨e_bad, t_bad⟩
        | false =>
          rw [cop_inv q] at hm ⊢
          exact ⟨e_cmp C.hK (units_ok C) o hm (hp a) (hp b), t_cmp C.hK (units_ok C) o hm (hp a) (hp b)⟩
    · exact ⟨e_bad, t_bad⟩
  · rcases bs with _ | ⟨b, _ | ⟨c, _ | ⟨d, bs⟩⟩⟩
    · exact ⟨e_bad, t_bad⟩
    · exact ⟨e_bad, t_bad⟩
    · show PE X _ (rE G W T0 F (match copInv op, copInv op' with
        | some o, some o' => if lastMarks [op, op'] [b, c] then .bad else .chain o o' (comp n I .p a) (comp n I .p b) (comp n I .p c)
        | _, _ => .bad)) ∧ PT X _ (rT G W T0 F (match copInv op, copInv op' with
        | some o, some o' => if lastMarks [op, op'] [b, c] then .bad else .chain o o' (comp n I .p a) (comp n I .p b) (comp n I .p c)
        | _, _ => .bad))
      cases q : copInv op with
      | none => exact ⟨e_bad, t_bad⟩
      | some o =>
        cases q2 : copInv op' with
        | none => exact ⟨e_bad, t_bad⟩
        | some o' =>
          cases hm : lastMarks [op, op'] [b, c] with
          | true =>
            simp only [hm, if_pos]
            exact ⟨e_bad, t_bad⟩
          | false =>
            simp only [hm]
            rw [cop_inv q, cop_inv q2] at hm ⊢
            exact ⟨e_chain C.hK (units_ok C) o o' hm (hp a) (hp b) (hp c), t_chain C.hK (units_ok C) o o' hm (hp a) (hp b) (hp c)⟩
    · exact ⟨e_bad, t_bad⟩
  · rcases bs with _ | ⟨b, _ | ⟨c, bs⟩⟩ <;> exact ⟨e_bad, t_bad⟩
theorem sub_ok {W : WX} {I : Info} {X : Cx} (C : Ctx G T0 F W lv I X) {n : Nat} (hv : ∀ e, PE X e (rE G W T0 F (comp n I .v e))) (hp : ∀ e, PE X e (rE G W T0 F (comp n I .p e))) (m : Md) (a b : Expr) (p : Pos) :
    PE X (.Subscript a b p) (rE G W T0 F (comp (n + 1) I m (.Subscript a b p))) := by
  cases b with
  | Slice lo hi st q =>
    cases st with
    | none => exact e_slice C.hK (hp a) (compO_ok hv lo) (compO_ok hv hi)
    | some st =>
      cases lo with
      | some _ => exact e_bad
      | none =>
        cases hi with
        | some _ => exact e_bad
        | none =>
          show PE X _ (rE G W T0 F (if isRev1 st then .rev (comp n I .p a) else .bad))
          cases c : isRev1 st with
          | false => exact e_bad
          | true =>
            rw [if_pos rfl]
            unfold isRev1 at c
            split at c
            · exact e_rev (p5 := p) C.hK (hp a)
            · cases c
  | _ => exact e_idx C.hK rfl (hp a) (hv _)
theorem attr_ok {W : WX} {I : Info} {X : Cx} (C : Ctx G T0 F W lv I X) (hl : 0 < lv) {n : Nat} (hv : ∀ e, PE X e (rE G W T0 F (comp n I .v e))) (m : Md) (a : Expr) (f : Str) (p : Pos) :
    PE X (.Attribute a f p) (rE G W T0 F (comp (n + 1) I m (.Attribute a f p))) := by
  show PE X _ (rE G W T0 F (if isCall0 a then .bad else .attr (comp n I .v a) f))
  cases c : isCall0 a with
  | true => exact e_bad
  | false =>
    refine e_attr (n := lv - 1) (C.fld f) (fun c g h => ?_) (C.room.mono (by omega)) (hv a) (base_ok c)
    obtain ⟨k, h1, h2⟩ := C.prp f c g h
    rw [show lv - 1 = k by omega]
    exact h1
theorem call_ok {W : WX} {I : Info} {X : Cx} (C : Ctx G T0 F W lv I X) {n : Nat} (hv : ∀ e, PE X e (rE G W T0 F (comp n I .v e))) (hp : ∀ e, PE X e (rE G W T0 F (comp n I .p e))) (m : Md) (fe : Expr) (as : List Expr) (pos : Pos) :
    PE X (.Call fe as [] pos) (rE G W T0 F (comp (n + 1) I m (.Call fe as [] pos))) := by
  cases fe with
  | Name x p1 =>
    show PE X _ (rE G W T0 F (if I.gl x then (match I.fn x with
      | some (g, refs) => if as.isEmpty || !noStar as then .bad else .call g (argsR I (comp n I .v) (comp n I .p) refs 0 as)
      | none => if I.blt x && noStar as then (if x == ("isinstance" : Str) then (match as with
          | [a, .Name y q] => (match tysOf I [.Name y q] with
            | some ks => .isi (comp n I .p a) ks
            | none => .bad)
          | [a, .Tuple ts _ _] => (match tysOf I ts with
            | some ks => if ks.isEmpty || !decide (ks.length ≤ 10) then .bad else .isi (comp n I .p a) ks
            | none => .bad)
          | _ => .bad)
        else (match biOf x as.length with
          | some b => .bi b (argsW (comp n I .p) (comp n I .p) as)
          | none => .bad)) else .bad) else .bad))
    cases c : I.gl x with
    | false => exact e_bad
    | true =>
      obtain ⟨g1, g2, g3⟩ := gl_ok C c
      rw [if_pos rfl]
      cases qf : I.fn x with
      | some gr =>
        obtain ⟨g, refs⟩ := gr
        show PE X _ (rE G W T0 F (if as.isEmpty || !noStar as then .bad else .call g (argsR I (comp n I .v) (comp n I .p) refs 0 as)))
        cases c2 : (as.isEmpty || !noStar as) with
        | true => exact e_bad
        | false =>
          rw [Bool.or_eq_false_iff, Bool.not_eq_false'] at c2
          obtain ⟨c2, c3⟩ := c2
          rw [if_neg (by simp)]
          cases as with
          | nil => cases c2
          | cons a es =>
            obtain ⟨s1, s2⟩ := noStar_cons c3
            cases C.fns x g refs qf with
            | fn ad fd ps h hm hk hb => exact e_call h C.room g1 hm hk hb C.tk (argsR_ok C hv hp (a :: es) 0) g3 (starEach_plain (star_no s1) _) (noStar_hpl s2)
            | mk Cc f fd ps k M h hk hm hb hy => exact e_make M h (C.room.mono hk) g1 hm hb hy (argsR_ok C hv hp (a :: es) 0) g3 (starEach_plain (star_no s1) _) (noStar_hpl s2)
      | none =>
        show PE X _ (rE G W T0 F (if I.blt x && noStar as then _ else .bad))
        cases c2 : (I.blt x && noStar as) with
        | false => exact e_bad
        | true =>
          rw [Bool.and_eq_true] at c2
          obtain ⟨c2, c3⟩ := c2
          rw [if_pos rfl]
          cases ci : (x == ("isinstance" : Str)) with
          | true =>
            rw [if_pos rfl]
            have ex := eq_of_beq ci
            subst ex
            split
            · rename_i a y q
              obtain ⟨s1, s2⟩ := noStar_cons c3
              cases qt : tysOf I [.Name y q] with
              | none => exact e_bad
              | some ks =>
                have hl := tysOf_len qt
                match ks, hl with
                | [k], _ => exact e_isi1 C.hK g1 (C.blt _ c2) (hp a) (star_no s1) (tysOf_ok C qt)
            · rename_i a ts kk q
              obtain ⟨s1, s2⟩ := noStar_cons c3
              cases qt : tysOf I ts with
              | none => exact e_bad
              | some ks =>
                show PE X _ (rE G W T0 F (if ks.isEmpty || !decide (ks.length ≤ 10) then .bad else .isi (comp n I .p a) ks))
                cases c4 : (ks.isEmpty || !decide (ks.length ≤ 10)) with
                | true => exact e_bad
                | false =>
                  rw [if_neg (by simp)]
                  rw [Bool.or_eq_false_iff, Bool.not_eq_false', decide_eq_true_eq] at c4
                  exact e_isiT C.hK g1 (C.blt _ c2) (hp a) (star_no s1) (Nat.le_trans c4.2 (by decide)) (fun z => by rw [z] at c4; exact nomatch c4.1) (tysOf_ok C qt)
            · exact e_bad
          | false =>
            rw [if_neg (by simp)]
            cases qb : biOf x as.length with
            | none => exact e_bad
            | some b =>
              obtain ⟨h0, hb⟩ := biOf_ok qb
              cases as with
              | nil => exact absurd h0 (Nat.lt_irrefl 0)
              | cons a es =>
                obtain ⟨s1, s2⟩ := noStar_cons c3
                have ha := args_ok C.hK hp hp (a :: es)
                rcases hb with ⟨id, b1, b2⟩ | ⟨id, b1, b2⟩
                · exact e_biF C.hK C.calm b1 g1 (C.blt _ c2) b2 ha g2 g3 (starEach_plain (star_no s1) _) (noStar_hpl s2)
                · exact e_biT C.hK C.calm b1 g1 (C.blt _ c2) b2 ha g2 g3 (starEach_plain (star_no s1) _) (noStar_hpl s2)
  | Attribute o name p1 =>
    rcases as with _ | ⟨a, _ | ⟨b, r⟩⟩
    · exact e_bad
    · show PE X _ (rE G W T0 F (if name == ("index" : Str) && !isCall0 o && !isStar a && (p1.endLine == pos.line) then .bm .index (comp n I .p o) (argsW (comp n I .v) (comp n I .p) [a]) else .bad))
      cases c : (name == ("index" : Str) && !isCall0 o && !isStar a && (p1.endLine == pos.line)) with
      | false => exact e_bad
      | true =>
        rw [if_pos rfl]
        simp only [Bool.and_eq_true, beq_iff_eq, Bool.not_eq_true'] at c
        obtain ⟨⟨⟨rfl, c1⟩, c2⟩, c3⟩ := c
        have hs := starEach_plain (es := []) (star_no c2) X.env
        exact e_index C.hK (hp o) (args_ok C.hK hv hp [a]) (base_ok c1) (by rw [hs]; rfl) (by rw [c3]; exact beq_self_eq_true _) hs rfl
    · exact e_bad
  | _ => exact e_bad
theorem blkOk_ok {N : List Str} {sc scope : Scope} (h : blkOk N sc scope = true) : BlkOk N sc scope (ownOf N scope.names) := by
  unfold blkOk at h
  simp only [Bool.and_eq_true, beq_iff_eq] at h
  obtain ⟨⟨h1, h2⟩, h3⟩ := h
  refine ⟨h1, fun y hy => ?_, fun p hp => own_ix hp, fun y hy e => ?_, fun y hy e => own_in scope.names hy e⟩
  · have := List.all_eq_true.mp h2 y hy
    exact eq_of_beq this
  · have := List.all_eq_true.mp h3 y hy
    rw [e] at this
    simpa using this
where
  own_ix : ∀ {l : List (Str × NameKind)} {p : Str × Nat}, p ∈ ownOf N l → N[p.2]? = some p.1
    | [], p, h => by cases h
    | (x, k) :: r, p, h => by
      have go : ∀ q : Option Nat, posOf x N 0 = q → p ∈ (match q with
        | some i => (x, i) :: ownOf N r
        | none => ownOf N r) → N[p.2]? = some p.1 := fun q eq h => by
        cases q with
        | none => exact own_ix h
        | some i =>
          rcases List.mem_cons.mp h with rfl | h
          · obtain ⟨j, e, q⟩ := posOf_get eq
            show N[i]? = some x
            rw [e, Nat.zero_add]; exact q
          · exact own_ix h
      cases k with
      | «local» => exact go _ rfl h
      | cell => exact go _ rfl h
      | _ => exact own_ix (l := r) h
  own_in : ∀ (l : List (Str × NameKind)) {y : Str × NameKind}, y ∈ l → y.2 = .local ∨ y.2 = .cell → y.1 ∈ (ownOf N l).map (·.1) ∨ y.1 ∉ N
    | [], y, h, _ => by cases h
    | (x, k) :: r, y, h, e => by
      have here : ∀ q : Option Nat, posOf x N 0 = q → x ∈ ((match q with
        | some i => (x, i) :: ownOf N r
        | none => ownOf N r) : List (Str × Nat)).map (·.1) ∨ x ∉ N := fun q eq => by
        cases q with
        | some i => exact .inl (by simp)
        | none => exact .inr (posOf_none eq)
      have there : ∀ q : Option Nat, y.1 ∈ (ownOf N r).map (·.1) → y.1 ∈ ((match q with
        | some i => (x, i) :: ownOf N r
        | none => ownOf N r) : List (Str × Nat)).map (·.1) := fun q h => by
        cases q with
        | some i => exact List.mem_cons_of_mem _ h
        | none => exact h
      rcases List.mem_cons.mp h with rfl | h
      · rcases e with e | e
        · cases e; exact here _ rfl
        · cases e; exact here _ rfl
      · have ih := own_in r h e
        cases k with
        | «local» => exact ih.imp (there _) id
        | cell => exact ih.imp (there _) id
        | _ => exact ih
  posOf_none {x : Str} : ∀ {l : List Str} {k : Nat}, posOf x l k = none → x ∉ l
    | [], _, _ => by simp
    | y :: r, k, h => by
      have h : (if y == x then some k else posOf x r (k + 1)) = none := h
      by_cases c : (y == x) = true
      · rw [if_pos c] at h; cases h
      · rw [if_neg c] at h
        intro z
        rcases List.mem_cons.mp z with z | z
        · exact c (by rw [z]; exact beq_self_eq_true _)
        · exact posOf_none h z
theorem ctrue_ok {W : WX} {X : Cx} : PTs X [] (rT G W T0 F (.lit (.bl true))) := ⟨fun pins s σ H Q I h => pts_nil.run pins s σ H Q I (by
  obtain ⟨Fr, st, eH, hs, p⟩ := h
  subst eH
  exact p true st rfl rfl hs Ext.refl rfl)⟩
theorem cbad_ok {W : WX} {X : Cx} {l : List Expr} : PTs X l (rT G W T0 F .bad) := ⟨fun _ _ _ _ _ _ ⟨_, _, _, _, p⟩ => (show False from p).elim⟩
theorem lc_parts {W : WX} {I : Info} {X : Cx} (C : Ctx G T0 F W lv I X) {n : Nat} (ih : AllOk G T0 F lv n) {elt tg iter : Expr} {ifs : List Expr} {scope : Scope} (hb : lcW n I elt tg iter ifs scope ≠ .bad) :
    ∃ t it c e own, lcW n I elt tg iter ifs scope = .comp (own.map (·.2)) t it c e ∧ BlkOk X.N X.env.scope scope own ∧ PI X tg iter (rIt G W T0 F it) ∧
      (∀ (s : Shared) (H : Hp) (C : Addr) (cl : List (Str × Addr)) (fp : List Addr), PG (X.blk s H scope (compEnvC scope cl C X.env) fp) tg (rG G WF T0 F t)) ∧
      (∀ (s : Shared) (H : Hp) (C : Addr) (cl : List (Str × Addr)) (fp : List Addr), PTs (X.blk s H scope (compEnvC scope cl C X.env) fp) ifs (rT G WF T0 F c)) ∧
      (∀ (s : Shared) (H : Hp) (C : Addr) (cl : List (Str × Addr)) (fp : List Addr), PE (X.blk s H scope (compEnvC scope cl C X.env) fp) elt (rE G WF T0 F e)) ∧
      (∀ x, foldedSetIterable iter X.env x = pure x) ∧ ∀ i ∈ tgs t, i ∈ own.map (·.2) := by
  obtain ⟨hv, hp, ht⟩ := ih I W X C
  unfold lcW at hb ⊢
  cases c1 : (blkOk I.N I.sc scope && !isSet iter) with
  | false => rw [c1] at hb; exact absurd rfl hb
  | true =>
    rw [c1, if_pos rfl] at hb
    rw [if_pos rfl]
    rw [Bool.and_eq_true, Bool.not_eq_true'] at c1
    obtain ⟨c1, c2⟩ := c1
    cases qt : compG (I.blk scope) (comp n (I.blk scope) .v) n tg with
    | none => simp only [qt] at hb; exact absurd rfl hb
    | some t =>
      simp only [qt] at hb ⊢
      cases c3 : (tgsOf t).all (fun i => (ownOf I.N scope.names).any fun y => y.2 == i) with
      | false => rw [c3] at hb; exact absurd rfl hb
      | true =>
        rw [if_pos rfl]
        refine ⟨t, _, _, _, ownOf I.N scope.names, rfl, ?_, compI_ok C hv hp tg iter, fun s H A cl fp => ?_, fun s H A cl fp => ?_, fun s H A cl fp => (ih _ _ _ C.blk).1 elt, folded_ok c2, fun i hi => ?_⟩
        · rw [C.N, C.sc]; exact blkOk_ok c1
        · exact compG_ok C.blk (ih _ _ _ C.blk).1 n tg t qt
        · rcases ifs with _ | ⟨c, _ | ⟨c', r⟩⟩
          · exact ctrue_ok
          · exact pts_one ((ih _ _ _ C.blk).2.2 c)
          · exact cbad_ok
        · rw [← tgsOf_eq] at hi
          have := List.all_eq_true.mp c3 i hi
          obtain ⟨y, h1, h2⟩ := List.any_eq_true.mp this
          exact List.mem_map.mpr ⟨y, h1, eq_of_beq h2⟩
theorem lc_ok {W : WX} {I : Info} {X : Cx} (C : Ctx G T0 F W lv I X) {n : Nat} (ih : AllOk G T0 F lv n) (m : Md) (elt : Expr) (gs : List Comprehension) (scope : Scope) (p : Pos) :
    PE X (.ListComp elt gs scope p) (rE G W T0 F (comp (n + 1) I m (.ListComp elt gs scope p))) := by
  rcases gs with _ | ⟨⟨tg, iter, ifs, a⟩, _ | ⟨g2, r⟩⟩
  · exact e_bad
  · cases a with
    | negSucc a => exact e_bad
    | ofNat a =>
     cases a with
     | succ a => exact e_bad
     | zero =>
      show PE X _ (rE G W T0 F (lcW n I elt tg iter ifs scope))
      by_cases hb : lcW n I elt tg iter ifs scope = .bad
      · rw [hb]; exact e_bad
      · obtain ⟨t, it, c, e, own, el, ok, hi, hg, ht, he, hs, htg⟩ := lc_parts C ih hb
        rw [el]
        exact e_comp C.calm C.nd ok hi hg ht he hs htg
  · cases a with
    | negSucc a => exact e_bad
    | ofNat a => cases a <;> exact e_bad
theorem comp_ok (hl : 0 < lv) : ∀ n, AllOk G T0 F lv n
  | 0, I, W, X, C => ⟨fun _ => e_bad, fun _ => e_bad, fun _ => t_bad⟩
  | n + 1, I, W, X, C => by
    have ih := comp_ok hl n
    obtain ⟨hv, hp, ht⟩ := ih I W X C
    have key : ∀ (m : Md) (hm : ∀ e, PE X e (rE G W T0 F (comp n I m e))) (nt : m ≠ .t) (e : Expr), PE X e (rE G W T0 F (comp (n + 1) I m e)) := fun m hm nt e => by
      cases e with
      | Constant c j p => exact const_ok n m c j p
      | Name x p => exact name_ok C n m x p
      | BinOp a op b p => exact bin_ok C hp m a b op p
      | UnaryOp op a p =>
        cases op with
        | USub => exact e_neg (hv a)
        | Not => cases m <;> first | exact absurd rfl nt | exact e_not (hv a)
        | _ => exact e_bad
      | Compare a ops bs p => exact (cmp_ok C hp m a ops bs p).1
      | BoolOp op vs p =>
        have g := fun vs => bool_ok (op := op) (pos := p) hv vs
        have orl : ∀ a b, PE X (.BoolOp .Or [a, b] p) (rE G W T0 F (if isListCall a then .orL (comp n I .v a) (comp n I .v b) else boolW .Or (comp n I .v) [a, b])) := fun a b => by
          cases c : isListCall a with
          | true => exact e_orL C.hK (hv a) (pe_one (hv b))
          | false => exact bool_ok (op := .Or) (pos := p) hv [a, b]
        cases m with
        | t => exact absurd rfl nt
        | v =>
          cases op with
          | And => exact g vs
          | Or =>
            rcases vs with _ | ⟨a, _ | ⟨b, _ | ⟨d, r⟩⟩⟩
            · exact g _
            · exact g _
            · exact orl a b
            · exact g _
        | p =>
          cases op with
          | And => exact g vs
          | Or =>
            rcases vs with _ | ⟨a, _ | ⟨b, _ | ⟨d, r⟩⟩⟩
            · exact g _
            · exact g _
            · exact orl a b
            · exact g _
      | IfExp c a b p => cases m <;> first | exact absurd rfl nt | exact e_ite (ht c) (hm a) (hm b)
      | Tuple es k p => exact e_tup (args_ok C.hK hv hp es)
      | List es p => exact e_lst (args_ok C.hK hv hp es)
      | Subscript a b p => exact sub_ok C hv hp m a b p
      | Attribute a f p => exact attr_ok C hl hv m a f p
      | Call fe as kw p =>
        cases kw with
        | nil => exact call_ok C hv hp m fe as p
        | cons _ _ => exact e_bad
      | ListComp elt gs sc p => exact lc_ok C ih m elt gs sc p
      | _ => exact e_bad
    refine ⟨key .v hv (fun z => nomatch z), key .p hp (fun z => nomatch z), fun e => ?_⟩
    have val : plainTest e = true → comp (n + 1) I .t e = comp (n + 1) I .v e → PT X e (rT G W T0 F (comp (n + 1) I .t e)) := fun h1 h2 => by
      rw [h2]
      exact t_val h1 (key .v hv (fun z => nomatch z) e)
    cases e with
    | UnaryOp op a p =>
      cases op with
      | Not => exact t_not (ht a)
      | USub => exact val rfl rfl
      | _ => exact t_bad
    | Compare a ops bs p => exact (cmp_ok C hp .t a ops bs p).2
    | BoolOp op vs p => exact (boolT_ok ht vs).pt
    | IfExp c a b p => exact t_bad
    | Name x p => exact val rfl rfl
    | Constant c j p => exact val rfl rfl
    | BinOp a op b p => exact val rfl rfl
    | Subscript a b p => exact val rfl rfl
    | Attribute a f p => exact val rfl rfl
    | Call fe as kw p =>
      cases kw with
      | nil => exact val rfl rfl
      | cons _ _ => exact t_bad
    | _ => first | exact t_bad | exact val rfl rfl
end
end Ev

end
section
set_option linter.all false
set_option maxRecDepth 100000
/-! Cmp4: the compiled statements are right. -/
namespace Ev
open PySem PySem.Spec PyProof.Rows L2
section
variable {G : Gm} {T0 : Tab} {F : Fn} {lv : Nat} {W : WX} {I : Info} {X : Cx} {w : Nat}
theorem s_no {st : Stmt} : PS X st (rSt G W T0 F w .no) := ⟨fun _ _ _ _ _ _ ⟨_, _, _, _, p⟩ => (show False from p).elim⟩
theorem swaps_no {e : Expr} {t : Option Expr} {l : Nat} {env : PySem.Env} (h : isCompE e = false) : swapsWith e t l env = pure false := by
  cases e <;> first | rfl | cases h
theorem swapsS_no {tg e : Expr} {l : Nat} {env : PySem.Env} (h : isCompE e = false) : swapsWithSole [tg] e l env = pure false :=
  show swapsWith e (some tg) l env = pure false from swaps_no h
theorem swPure_ok {ts vs : List Expr} {kt k2 : Nat} {pt p2 : Pos} {env : PySem.Env} {r : Option (List Str)} (hs : env.scope = I.sc) (hk : env.scope.kind = .function) (h : swPure I ts vs = some r) : swappedStores [.Tuple ts kt pt] (.Tuple vs k2 p2) env = pure r := by
  have hb : (env.blockKind != .function) = false := by
    unfold PySem.Env.blockKind
    rw [hk]; rfl
  have hkind : ∀ x, env.kindOf x = I.sc.names.lookup x := fun x => by rw [← hs]; rfl
  unfold swPure at h
  unfold swappedStores
  simp only [hb, hkind, Bool.or_false]
  by_cases c1 : (!(ts.length == 2 || ts.length == 3) || vs.length != ts.length) = true
  · rw [if_pos c1] at h ⊢
    cases h; rfl
  rw [if_neg c1] at h ⊢
  by_cases c2 : vs.any isStar = true
  · rw [if_pos c2] at h
    cases h
    exact if_pos c2
  rw [if_neg c2] at h
  refine (if_neg c2).trans ?_
  by_cases c3 : ((swNames I ts).length != ts.length || (swNames I ts).eraseDups.length != (swNames I ts).length) = true
  · rw [if_pos c3] at h
    cases h
    exact if_pos c3
  rw [if_neg c3] at h
  refine (if_neg c3).trans ?_
  by_cases c4 : vs.all (foldedForSure 8) = true
  · rw [if_pos c4] at h
    cases h
    exact if_pos c4
  rw [if_neg c4] at h
  refine (if_neg c4).trans ?_
  by_cases c5 : vs.all (constantsAlone 8) = true
  · rw [if_pos c5] at h
    cases h
  rw [if_neg c5] at h
  cases h
  exact if_neg c5
theorem lc_bad {elt : Expr} {gs : List Comprehension} {sc : Scope} {p q : Pos} {x : Str} {pos : Pos} {i : Nat} (hN : X.N.Nodup) (hi : X.N[i]? = some x) (hx : L2.Loc X.env.scope x) : PS X (.Assign [.Name x q] (.ListComp elt gs sc p) pos) (rSt G W T0 F w (.par [i] (.cons .bad .nil))) :=
  ⟨fun _ _ _ _ _ _ ⟨_, _, _, _, h⟩ => (show False from h).elim⟩
/-- name = [..] -/
theorem setLc_ok (C : Ctx G T0 F W lv I X) (hk : X.env.scope.kind = .function) {n : Nat} (ih : AllOk G T0 F lv n) {elt tg iter : Expr} {ifs : List Expr} {scope : Scope} {p q pos : Pos} {x : Str} {i : Nat} (hx : I.lx x = some i) (hb : swB I x q scope p = true) :
    PS X (.Assign [.Name x q] (.ListComp elt [⟨tg, iter, ifs, 0⟩] scope p) pos) (rSt G W T0 F w (.par [i] (.cons (lcW n I elt tg iter ifs scope) .nil))) := by
  obtain ⟨h1, h2, h3⟩ := lx_ok C hx
  have hb2 := hb
  unfold swB at hb2
  simp only [Bool.and_eq_true, beq_iff_eq] at hb2
  obtain ⟨⟨b1, b2⟩, b3⟩ := hb2
  have hl : X.env.scope.names.lookup x = some .local := by rw [C.sc]; exact b1
  by_cases hz : lcW n I elt tg iter ifs scope = .bad
  · rw [hz]; exact lc_bad C.nd h1 h2
  · obtain ⟨t, it, c, e, own, el, ok, hi, hg, ht, he, hs, htg⟩ := lc_parts C ih hz
    rw [el]
    refine PS.imp (ps_setLc C.calm C.nd h1 hl ?_ (PI.len hi) ok hg ht he hs) fun Dd σ H h => comp_imp htg σ H _ (par_one h)
    have hbk : (X.env.blockKind == .function) = true := by
      unfold PySem.Env.blockKind
      rw [hk]; rfl
    show (pure (X.env.blockKind == .function && X.env.kindOf x == some .local && q.line == p.line && !(scope.names.any fun (n, k) => n == x && (k == .local || k == .cell))) : Sem Bool) = pure true
    rw [hbk, show X.env.kindOf x = some .local from hl, b2, b3]
    simp
theorem muOf_ok {x : Str} {n : Nat} {m : Mu} (h : muOf x n = some m) : ∃ slot : PySem.Slot "list" x (muId m), typeOf (.builtin (muId m)) = pure (.type "method_descriptor") ∧ n ≤ 1 := by
  unfold muOf at h
  split at h
  · rename_i c
    cases h
    simp only [Bool.and_eq_true, beq_iff_eq] at c
    obtain ⟨rfl, rfl⟩ := c
    exact ⟨PySem.F.slot_list_append, PySem.F.type_list_append, Nat.le_refl _⟩
  · split at h
    · rename_i c
      cases h
      simp only [Bool.and_eq_true, beq_iff_eq] at c
      obtain ⟨rfl, rfl⟩ := c
      exact ⟨PySem.F.slot_list_extend, PySem.F.type_list_extend, Nat.le_refl _⟩
    · split at h
      · rename_i c
        cases h
        simp only [Bool.and_eq_true, beq_iff_eq] at c
        obtain ⟨rfl, rfl⟩ := c
        exact ⟨PySem.F.slot_list_remove, PySem.F.type_list_remove, Nat.le_refl _⟩
      · split at h
        · rename_i c
          cases h
          simp only [Bool.and_eq_true, beq_iff_eq] at c
          obtain ⟨rfl, rfl⟩ := c
          exact ⟨PySem.F.slot_list_pop, PySem.F.type_list_pop, Nat.zero_le _⟩
        · cases h
theorem asgG_ok (C : Ctx G T0 F W lv I X) {n : Nat} (ih : AllOk G T0 F lv n) {tg e : Expr} {pos : Pos} (h1 : swapsWithSole [tg] e pos.line X.env = pure false) (h2 : swappedStores [tg] e X.env = pure none) (h3 : (assignEach [tg] X.env).map (·.2) = [assign tg X.env]) :
    PS X (.Assign [tg] e pos) (rSt G W T0 F w (gW n I tg e)) := by
  obtain ⟨hv, hp, ht⟩ := ih I W X C
  unfold gW
  cases q : compG I (comp n I .v) n tg with
  | none => exact s_no
  | some t => exact s_asg (hv e) (compG_ok C hv n tg t q) h1 h2 h3
theorem name_asg (C : Ctx G T0 F W lv I X) (hk : X.env.scope.kind = .function) {n : Nat} (ih : AllOk G T0 F lv n) (x : Str) (q : Pos) (e : Expr) (pos : Pos) : PS X (.Assign [.Name x q] e pos) (rSt G W T0 F w (nameW n I x q e)) := by
  obtain ⟨hv, hp, ht⟩ := ih I W X C
  unfold nameW
  cases ql : I.lx x with
  | none => exact s_no
  | some i =>
    obtain ⟨h1, h2, h3⟩ := lx_ok C ql
    dsimp only
    cases c : isCompE e with
    | false =>
      rw [if_neg (by simp)]
      exact s_set C.nd h1 h2 (hv e) (swaps_no c) h3
    | true =>
      rw [if_pos rfl]
      split
      · rename_i elt tg' iter ifs scope p
        cases cb : swB I x q scope p with
        | false => exact s_no
        | true =>
          rw [if_pos rfl]
          exact setLc_ok C hk ih ql cb
      · exact s_no
theorem par_asg (C : Ctx G T0 F W lv I X) {n : Nat} (ih : AllOk G T0 F lv n) {names : List Str} {ts vs : List Expr} {kt k2 : Nat} {pt p2 pos : Pos} (hsw : swappedStores [.Tuple ts kt pt] (.Tuple vs k2 p2) X.env = pure (some names)) :
    PS X (.Assign [.Tuple ts kt pt] (.Tuple vs k2 p2) pos) (rSt G W T0 F w (parW n I names ts vs)) := by
  obtain ⟨hv, hp, ht⟩ := ih I W X C
  unfold parW
  split
  · rename_i x px y py a b
    unfold par2W
    cases q1 : I.lx x with
    | none => exact s_no
    | some i =>
      cases q2 : I.lx y with
      | none => exact s_no
      | some j =>
        dsimp only
        split
        · rename_i c
          simp only [Bool.and_eq_true, beq_iff_eq, bne_iff_ne, ne_eq] at c
          obtain ⟨⟨⟨rfl, c2⟩, c3⟩, c4⟩ := c
          obtain ⟨h1, _, _⟩ := lx_ok C q1
          obtain ⟨h2, _, _⟩ := lx_ok C q2
          exact s_par2 C.calm C.nd h1 h2 c2 (by rw [C.sc]; exact c3) (by rw [C.sc]; exact c4) (args_ok C.hK hv hp [a, b]) hsw (swapsS_no rfl)
        · exact s_no
  · rename_i x px y py z pz a b d
    unfold par3W
    cases q1 : I.lx x with
    | none => exact s_no
    | some i =>
      cases q2 : I.lx y with
      | none => exact s_no
      | some j =>
        cases q3 : I.lx z with
        | none => exact s_no
        | some k =>
          dsimp only
          split
          · rename_i c
            simp only [Bool.and_eq_true, beq_iff_eq, bne_iff_ne, ne_eq] at c
            obtain ⟨⟨⟨⟨⟨⟨rfl, c2⟩, c3⟩, c4⟩, c5⟩, c6⟩, c7⟩ := c
            obtain ⟨h1, _, _⟩ := lx_ok C q1
            obtain ⟨h2, _, _⟩ := lx_ok C q2
            obtain ⟨h3, _, _⟩ := lx_ok C q3
            exact s_par3 C.calm C.nd h1 h2 h3 c2 c3 c4 (by rw [C.sc]; exact c5) (by rw [C.sc]; exact c6) (by rw [C.sc]; exact c7) (args_ok C.hK hv hp [a, b, d]) hsw (swapsS_no rfl)
          · exact s_no
  · exact s_no
theorem tupW_other {n : Nat} {ts : List Expr} {tg e : Expr} (h : isTup e = false) : tupW n I ts tg e = if isCompE e then .no else gW n I tg e := by
  cases e <;> first | rfl | cases h
theorem sw_other {ts : List Expr} {kt : Nat} {pt : Pos} {e : Expr} {env : PySem.Env} (h : isTup e = false) : swappedStores [.Tuple ts kt pt] e env = pure none := by
  cases e <;> first | rfl | cases h
theorem asg_ok (C : Ctx G T0 F W lv I X) (hk : X.env.scope.kind = .function) {n : Nat} (ih : AllOk G T0 F lv n) (tg e : Expr) (pos : Pos) : PS X (.Assign [tg] e pos) (rSt G W T0 F w (compAsg n I tg e)) := by
  have gen : PS X (.Assign [tg] e pos) (rSt G W T0 F w (if isCompE e || isTL tg then .no else gW n I tg e)) := by
    cases c : (isCompE e || isTL tg) with
    | true => exact s_no
    | false =>
      rw [if_neg (by simp)]
      rw [Bool.or_eq_false_iff] at c
      obtain ⟨he, htl⟩ := c
      cases qs : isStar tg with
      | true =>
        cases tg <;> first | (cases n <;> exact s_no) | cases qs
      | false =>
        refine asgG_ok C ih (swapsS_no he) (by cases tg <;> first | rfl | cases htl) ?_
        rw [assignEach_plain (star_no qs)]; rfl
  cases tg with
  | Name x q => exact name_asg C hk ih x q e pos
  | Tuple ts kt pt =>
    have hA : (assignEach [.Tuple ts kt pt] X.env).map (·.2) = [assign (.Tuple ts kt pt) X.env] := rfl
    show PS X _ (rSt G W T0 F w (tupW n I ts (.Tuple ts kt pt) e))
    cases ce : isTup e with
    | false =>
      rw [tupW_other ce]
      cases c : isCompE e with
      | true => exact s_no
      | false =>
        rw [if_neg (by simp)]
        exact asgG_ok C ih (swapsS_no c) (sw_other ce) hA
    | true =>
      obtain ⟨vs, k2, p2, rfl⟩ := isTup_ok ce
      show PS X _ (rSt G W T0 F w (match swPure I ts vs with
        | some none => gW n I (.Tuple ts kt pt) (.Tuple vs k2 p2)
        | some (some names) => parW n I names ts vs
        | none => .no))
      cases qs : swPure I ts vs with
      | none => exact s_no
      | some r =>
        have hsw := swPure_ok (kt := kt) (k2 := k2) (pt := pt) (p2 := p2) C.sc hk qs
        cases r with
        | none => exact asgG_ok C ih (swapsS_no rfl) hsw hA
        | some names => exact par_asg C ih hsw
  | _ => exact gen
theorem few_ok {es : List Expr} {env : PySem.Env} {pos : Pos} (h : noStar es = true) (hl : es.length ≤ 1) : ((backTo pos (starEach es env)).all (fun x => !x.1) && (backToKw pos (keywordEach [] env)).all (fun x => x.1.isSome)
      && decide (es.length + ([] : List Keyword).length + (if ([] : List Keyword).isEmpty then 0 else 1) < 30)) = true := by
  have h1 : (backTo pos (starEach es env)).all (fun x => !x.1) = true := by
    have := noStar_hpl (env := env) (pos := pos) h
    rw [List.any_eq_false] at this
    rw [List.all_eq_true]
    intro x hx
    have := this x hx
    simpa using this
  rw [h1]
  have h2 : decide (es.length + ([] : List Keyword).length + (if ([] : List Keyword).isEmpty then 0 else 1) < 30) = true := decide_eq_true (by
    show es.length + 0 + 0 < 30
    omega)
  rw [h2]; rfl
theorem mut_ok (C : Ctx G T0 F W lv I X) {n : Nat} (ih : AllOk G T0 F lv n) {x name : Str} {p1 p2 p3 pos : Pos} {as : List Expr} {m : Mu} {i : Nat} (hm : muOf name as.length = some m) (hi : I.ix x = some i) (hn : noStar as = true) (hl : p2.endLine = p3.line) :
    PS X (.Expr (.Call (.Attribute (.Name x p1) name p2) as [] p3) pos) (rSt G W T0 F w (.mut m i (argsW (comp n I .v) (comp n I .p) as))) := by
  obtain ⟨hv, hp, ht⟩ := ih I W X C
  obtain ⟨slot, hty, hle⟩ := muOf_ok hm
  obtain ⟨h1, h2, h3, h4⟩ := ix_ok C hi
  have hline : (p2.endLine == p3.line) = true := by rw [hl]; exact beq_self_eq_true _
  refine s_mut (p5 := pos) h1 h2 h3 h4 (fun {r} hr => ?_) rfl
  rcases as with _ | ⟨a, _ | ⟨b, t⟩⟩
  · refine PE.imp (pe_bm0 PySem.F.plainAttrs_list slot hty hr (pe_var h1 h2 h3 h4) rfl hline) fun σ H Q h => ?_
    obtain ⟨v, e, ty, Fr, s, eH, hs, p⟩ := h
    subst eH
    exact ⟨v, e, ty, p [] s rfl rfl hs Ext.refl ⟨[], rfl, rfl, hs⟩⟩
  · obtain ⟨s1, s2⟩ := noStar_cons hn
    exact pe_bm PySem.F.plainAttrs_list slot hty hr (pe_var h1 h2 h3 h4) (args_ok C.hK hv hp [a]) rfl (few_ok hn hle) hline (starEach_plain (star_no s1) _) (noStar_hpl s2)
  · exact absurd hle (by simp)
theorem ex_ok (C : Ctx G T0 F W lv I X) {n : Nat} (ih : AllOk G T0 F lv n) (e : Expr) (pos : Pos) : PS X (.Expr e pos) (rSt G W T0 F w (compEx n I e)) := by
  obtain ⟨hv, hp, ht⟩ := ih I W X C
  have old : PS X (.Expr e pos) (rSt G W T0 F w (if isCompE e then .no else .ex (comp n I .v e))) := by
    cases c : isCompE e with
    | true => exact s_no
    | false => exact s_ex (hv e) (swaps_no c)
  unfold compEx
  dsimp only
  split
  · rename_i x p1 name p2 as p3
    split
    · rename_i m i hm hi
      split
      · rename_i c
        rw [Bool.and_eq_true, beq_iff_eq] at c
        exact mut_ok C ih hm hi c.1 c.2
      · exact s_no
    · exact old
  · exact old
theorem seq_ok {f : Stmt → S} (hf : ∀ st, PS X st (rSt G W T0 F w (f st))) : ∀ sts : List Stmt, PSs X sts (rSt G W T0 F w (seqW f sts))
  | [] => s_skip
  | st :: r => s_seq (hf st) (seq_ok hf r)
theorem compS_ok (C : Ctx G T0 F W lv I X) (hl : 0 < lv) (hk : X.env.scope.kind = .function) (hpo : PassesOwn (model X.prog X.w) X.A X.env X.xe) : ∀ (n : Nat) (st : Stmt), PS X st (rSt G W T0 F w (compS n I st))
  | 0, st => s_no
  | n + 1, st => by
    have ih := comp_ok (G := G) (T0 := T0) (F := F) hl n
    obtain ⟨hv, hp, ht⟩ := ih I W X C
    have hs := seq_ok (w := w) (compS_ok C hl hk hpo n)
    cases st with
    | Pass p => exact s_pass
    | Break p => exact s_brk
    | Continue p => exact s_cont
    | Return e p =>
      cases e with
      | none => exact s_retN
      | some e => exact s_ret (hv e)
    | If c a b p => exact s_if (ht c) (hs a) (hs b)
    | While c b orelse p =>
      show PS X _ (rSt G W T0 F w (if orelse.isEmpty then _ else _))
      cases orelse with
      | cons _ _ => exact s_no
      | nil => exact s_while hpo (ht c) (hs b)
    | For tg iter b orelse p =>
      show PS X _ (rSt G W T0 F w (if orelse.isEmpty && !isSet iter then (match compG I (comp n I .v) n tg with
        | some t => .for t (compI I (comp n I .v) (comp n I .p) tg iter) (seqW (compS n I) b)
        | none => .no) else .no))
      cases orelse with
      | cons _ _ => exact s_no
      | nil =>
        cases c : isSet iter with
        | true => exact s_no
        | false =>
          show PS X _ (rSt G W T0 F w (match compG I (comp n I .v) n tg with
            | some t => .for t (compI I (comp n I .v) (comp n I .p) tg iter) (seqW (compS n I) b)
            | none => .no))
          cases q : compG I (comp n I .v) n tg with
          | none => exact s_no
          | some t => exact s_for hpo C.calm (compI_ok C hv hp tg iter) (compG_ok C hv n tg t q) (hs b) (folded_ok c)
    | Assign tgs e p =>
      rcases tgs with _ | ⟨tg, _ | ⟨t2, r⟩⟩
      · exact s_no
      · exact asg_ok C hk ih tg e p
      · exact s_no
    | Expr e p => exact ex_ok C ih e p
    | _ => exact s_no
end
end Ev

end
section
set_option linter.all false
set_option maxRecDepth 100000
/-! Fun1: the defs. -/
namespace Ev
open PySem PySem.Spec PyProof.Rows L2
def infoOf (I : Info) (N : List Str) (sc : Scope) : Info := { I with N := N, sc := sc, st := fun _ => true }
section
variable {P : Program} {wd : World} {K : PySem.W.Frag} {mg : Str → Option Value} {base : Heap}
theorem FnOk.bad {CX : CXT} {k : Nat} {f : Addr} {fd : FuncData} {ps : List Str} {G : Gm} {T0 : Tab} {Pt : Nat → Option Fd} {w g : Nat} : FnOk P wd K mg base CX k f fd ps (spF G (callF T0 Pt w 0) g) :=
  ⟨fun _ _ _ _ ⟨_, _, _, _, _, _, _, h⟩ => (show False from h).elim, fun _ _ _ _ _ _ _ _ _ _ _ _ _ ⟨_, _, _, _, _, _, _, h⟩ => (show False from h).elim⟩
theorem FnOk.toR {CX : CXT} {k : Nat} {f : Addr} {fd : FuncData} {ps : List Str} {sp : Sp} (F : FnOk P wd K mg base CX k f fd ps sp) (hb : Binds K fd ps []) : FnR P wd K mg base CX k f sp := fun A outer s H us vs Q E hr e0 r hsp => by
  have hl : us.length = ps.length := by rw [← r.length]; exact F.len _ _ _ _ hsp
  have KX : K.In s.heap := e0.mod.kin.keeps fun b o e => (e0.bs b o e).1
  have := hb s us KX (by rw [List.append_nil]; exact hl)
  rw [List.append_nil] at this
  exact F.run A outer s H ⟨us, []⟩ us vs Q E hr e0 this r hsp
/-- what the text's def g is -/
structure DefAt (K : PySem.W.Frag) (Pt : Nat → Option Fd) (I : Info) (g : Nat) (ad : Addr) (fd : FuncData) (ps : List Str) : Prop where
  h : ∃ name qual params body scope dV kV doc pm cdv ct oc an od osl N n, fd = PySem.W.fnOf name qual params body scope dV kV doc pm an cdv ct ∧
    K.lookup ad = some ⟨oc, od, .func fd, osl⟩ ∧ PySem.W.codeIn K cdv qual = true ∧ FnScope N ps scope ∧ Pt g = some { names := N.length, pars := ps.length, body := seqW (compS n (infoOf I N scope)) body }
/-- the facts about a program's text -/
structure Prg (G : Gm) (T0 : Tab) (P : Program) (wd : World) (mg : Str → Option Value) (base : Heap) (Pt : Nat → Option Fd) (I : Info) : Prop where
  fns : ∀ x g refs, I.fn x = some (g, refs) → (∃ ad fd ps, DefAt G.K Pt I g ad fd ps ∧ mg x = some (.ref ad) ∧ PySem.W.keepIn G.K (.ref ad) = true ∧ Binds G.K fd ps []) ∨
    (∃ C f fd ps cl gs ad fds pss fY, L2.Mk G.K C f ∧ mg x = some (.ref C) ∧ Binds G.K fd ps [] ∧ Pt g = some fY ∧ fY.year = some (cl, gs) ∧ DefAt G.K Pt I gs ad fds pss ∧
      ∀ (w k : Nat), FnOk P wd G.K mg base (L2.CX P wd) (2 * k) ad fds pss (spF G (callF T0 Pt w k) gs) → FnOk P wd G.K mg base (L2.CX P wd) (2 * k + 1) f fd ps (spI G (callF T0 Pt w (k + 1)) C g))
  blt : ∀ x, I.blt x = true → mg x = none
  cst : ∀ x d, I.cst x = some d → ∃ v u, mg x = some u ∧ RelV v u ∧ ∀ Z H, Rep G.K G.CA Z H d v
  fld : ∀ f c i, T0.field c f = some i → SlX.SCls G.K (G.CA c) ∧ ∃ p, SlX.Slot1 G.K (G.CA c) f p i
  prp : ∀ f c g, T0.prop c f = some g → SlX.SCls G.K (G.CA c) ∧ ∃ p ga fd ps, PySem.W.findIn G.K (.ref (G.CA c)) f = some (some (.ref p)) ∧ PySem.W.specialIn G.K (.ref p) "__get__" = some (some (.builtin "property.__get__")) ∧ PySem.W.takesIn G.K (.ref p) = some true ∧
    (∃ rest, PySem.W.recIn G.K p "property" = some (.ref ga :: rest)) ∧ DefAt G.K Pt I g ga fd ps ∧ Binds G.K fd ps []
/-- every def, k calls deep -/
theorem defs_ok {G : Gm} {T0 : Tab} {Pt : Nat → Option Fd} {w : Nat} {I : Info} (h : Prg G T0 P wd mg base Pt I) : ∀ (k g : Nat) (ad : Addr) (fd : FuncData) (ps : List Str), DefAt G.K Pt I g ad fd ps →
    FnOk P wd G.K mg base (L2.CX P wd) (2 * k) ad fd ps (spF G (callF T0 Pt w k) g)
  | 0, g, ad, fd, ps, _ => FnOk.bad
  | k + 1, g, ad, fd, ps, hd => by
    have ih := defs_ok (w := w) h k
    obtain ⟨name, qual, params, body, scope, dV, kV, doc, pm, cdv, ct, oc, an, od, osl, N, n, rfl, lk, hcd, S, hP⟩ := hd.h
    have hlen : ∀ vs H Q E, spF G (callF T0 Pt w (k + 1)) g vs H Q E → vs.length = ps.length ∧ ∃ Fr s σ ds, s.H = H ∧ SR G.K G.CA Fr s σ ∧ ArgR G Fr s σ ds vs ∧ ds.length = ps.length ∧ Post G (fun c d _ H => E c d H) (rV G) Fr s σ Q (callO (callF T0 Pt w (k + 1)) g ds s.en s.st) := fun vs H Q E ⟨Fr, s, σ, ds, e, h1, r, p⟩ => by
      have hl : ds.length = ps.length := by
        by_cases c : ds.length = ps.length
        · exact c
        · refine absurd p ?_
          have e : callO (callF T0 Pt w (k + 1)) g ds s.en s.st = .bad := by
            unfold callO callF
            rw [hP]
            simp only
            rw [if_neg c]
          rw [e]
          exact id
      exact ⟨by rw [r.length]; exact hl, Fr, s, σ, ds, e, h1, r, hl, p⟩
    refine fn_of (k := 2 * k + 1) lk hcd S (fun vs H Q E q => (hlen vs H Q E q).1) fun A outer s H vs Q E hr hsp => ?_
    obtain ⟨_, Fr, st, σ, ds, e, h1, r, hl, p⟩ := hlen vs H Q E hsp
    subst e
    have C : Ctx G T0 (callF T0 Pt w k) (fun c d _ H => E c d H) (2 * k + 1) (infoOf I N scope) (cxOf (L2.CX P wd) P wd G.K mg base N qual scope ad cdv A outer s st.H E) := {
      hK := rfl
      calm := rfl
      N := rfl
      nd := S.nd
      sc := rfl
      loc := fun x _ _ => .inl rfl
      room := hr
      tk := takes_of rfl rfl rfl rfl
      blt := h.blt
      fns := fun x g refs hx => by
        rcases h.fns x g refs hx with ⟨ad, fd, ps, d, hm, hk, hb⟩ | ⟨Cc, f, fd, ps, cl, gs, ad, fds, pss, fY, M, hm, hb, hPy, hyr, d, hF⟩
        · exact .fn ad fd ps ((ih g ad fd ps d).mono (by omega)) hm hk hb
        · refine .mk Cc f fd ps (2 * k) M ?_ (by omega) hm hb fun ds st => ?_
          · cases k with
            | zero => exact ⟨fun _ _ _ _ ⟨_, _, _, _, _, _, _, _, _, _, _, _, _, _, _, _, h, _⟩ => (by cases h), fun _ _ _ _ _ _ _ _ _ _ _ _ _ ⟨_, _, _, _, _, _, _, _, _, _, _, _, _, _, _, _, h, _⟩ => (by cases h)⟩
            | succ k => exact (hF w k (defs_ok (w := w) h k gs ad fds pss d)).mono (by omega)
          · cases k with
            | zero => exact .inr rfl
            | succ k =>
              have e : callF T0 Pt w (k + 1) g ds st = mkYear (callF T0 Pt w k) cl gs ds st := by
                show (match Pt g with
                  | none => OutF.bad
                  | some fd => match fd.year with
                    | some (c, g) => mkYear (callF T0 Pt w k) c g ds st
                    | none => _) = _
                rw [hPy]
                simp only [hyr]
              rw [e]
              exact mkYear_cases ds st
      cst := h.cst
      fld := h.fld
      prp := fun f c g hx => by
        obtain ⟨cl, p, ga, fd, ps, q1, q2, q3, q4, d, hb⟩ := h.prp f c g hx
        exact ⟨2 * k, ⟨cl, p, ga, q1, q2, q3, q4, FnOk.toR (ih g ga fd ps d) hb⟩, rfl⟩ }
    exact ⟨_, seq_ok (w := w) (compS_ok C (by omega) S.kind (passes_of rfl) n) body, fn_core hP rfl rfl hl h1 r p⟩
end
end Ev

end
section
set_option linter.all false
set_option maxRecDepth 100000
/-! Fun3: Year's __init__. -/
namespace Ev
open PySem PySem.Spec PyProof.Rows L2
section
variable {P : Program} {wd : World} {mg : Str → Option Value} {base : Heap}
/-- the body of Year.__init__, whatever its places -/
def initBody (a1 a2 a3 a4 a5 a6 b1 b2 b3 b4 b5 b6 b7 b9 b10 c1 c2 c3 c4 c5 c6 c7 d1 d3 d4 : Pos) (kk d2 : Nat) (rs : List Stmt) : List Stmt :=
  [.Assign [.Attribute (.Name "self" a1) "own_runs" a2] (.Call (.Name "tuple" a3) [.Name "runs" a4] [] a5) a6,
   .For (.Tuple [.Name "place" b1, .Name "run" b2] kk b3) (.Call (.Name "enumerate" b4) [.Attribute (.Name "self" b5) "own_runs" b6] [] b7)
    [.If (.Compare (.Name "run" d1) [.Eq] [.Constant (.int 0) d2 d3] d4) rs [] b9] [] b10,
   .Assign [.Attribute (.Name "self" c1) "own_swings" c2] (.Call (.Name "swings_of" c3) [.Attribute (.Name "self" c4) "own_runs" c5] [] c6) c7]
def initN : List Str := ["self", "runs", "place", "run"]
theorem mkYear_ok {F : Fn} {c f : Nat} {d r : D} {st st' : Store} (h : mkYear F c f [d] st = .ok r st') : ∃ xs is sw, d.seq = some xs ∧ asInts xs = some is ∧ (∀ i ∈ is, i ≠ 0) ∧ F f [.tup xs] st = .ok sw st' ∧ dataD sw = some sw ∧ r = .ins c [.tup xs, sw] := by
  have e : mkYear F c f [d] st = (match d.seq with
    | some xs => (match asInts xs with
      | some is => if is.all (fun i => decide (i ≠ 0)) then (match F f [.tup xs] st with
        | .ok r st' => (match dataD r with
          | some r => .ok (.ins c [.tup xs, r]) st'
          | none => .bad)
        | _ => .bad) else .bad
      | none => .bad)
    | none => .bad) := rfl
  rw [e] at h
  cases q1 : d.seq with
  | none => rw [q1] at h; cases h
  | some xs =>
    simp only [q1] at h
    cases q2 : asInts xs with
    | none => simp only [q2] at h; cases h
    | some is =>
      simp only [q2] at h
      split at h
      · rename_i c1
        cases q3 : F f [.tup xs] st with
        | bad => simp only [q3] at h; cases h
        | exc _ _ _ => simp only [q3] at h; cases h
        | ok sw st2 =>
          simp only [q3] at h
          cases q4 : dataD sw with
          | none => simp only [q4] at h; cases h
          | some sw' =>
            simp only [q4] at h
            cases h
            cases dataD_some q4
            exact ⟨xs, is, sw, rfl, q2, fun i hi => by
              have := List.all_eq_true.mp c1 i hi
              exact of_decide_eq_true this, q3, q4, rfl⟩
      · cases h
theorem init_ok {G : Gm} {T0 : Tab} {Pt : Nat → Option Fd} {w k g cl gs : Nat} {C f ad p0 p1 : Addr} {fds : FuncData} {pss : List Str} {qual : Str} {params : Arguments} {sc : Scope} {dV kV doc pm cdv ct oc : Value} {an od : Option Addr} {osl : Array (Option Value)}
    {a1 a2 a3 a4 a5 a6 b1 b2 b3 b4 b5 b6 b7 b9 b10 c1 c2 c3 c4 c5 c6 c7 d1 d3 d4 : Pos} {kk d2 : Nat} {rs : List Stmt}
    (hcl : G.CA cl = C) (hP : Pt g = some { names := 0, pars := 1, body := .skip, year := some (cl, gs) })
    (lk : G.K.lookup f = some ⟨oc, od, .func (PySem.W.fnOf "__init__" qual params (initBody a1 a2 a3 a4 a5 a6 b1 b2 b3 b4 b5 b6 b7 b9 b10 c1 c2 c3 c4 c5 c6 c7 d1 d3 d4 kk d2 rs) sc dV kV doc pm an cdv ct), osl⟩) (hcd : PySem.W.codeIn G.K cdv qual = true)
    (S : FnScope initN ["self", "runs"] sc) (l0 : sc.names.lookup ("self" : Str) = some .local) (l1 : sc.names.lookup ("runs" : Str) = some .local) (l2 : sc.names.lookup ("place" : Str) = some .local) (l3 : sc.names.lookup ("run" : Str) = some .local)
    (gt : sc.names.lookup ("tuple" : Str) = some .globalImplicit) (ge : sc.names.lookup ("enumerate" : Str) = some .globalImplicit) (gw : sc.names.lookup ("swings_of" : Str) = some .globalImplicit)
    (mt : mg "tuple" = none) (me : mg "enumerate" = none) (ms : mg "swings_of" = some (.ref ad)) (hk : PySem.W.keepIn G.K (.ref ad) = true) (hb : Binds G.K fds pss [])
    (cls : SlX.SCls G.K C) (s0 : SlX.Slot1 G.K C "own_runs" p0 0) (s1 : SlX.Slot1 G.K C "own_swings" p1 1)
    (Fs : FnOk P wd G.K mg base (L2.CX P wd) (2 * k) ad fds pss (spF G (callF T0 Pt w k) gs)) :
    FnOk P wd G.K mg base (L2.CX P wd) (2 * k + 1) f (PySem.W.fnOf "__init__" qual params (initBody a1 a2 a3 a4 a5 a6 b1 b2 b3 b4 b5 b6 b7 b9 b10 c1 c2 c3 c4 c5 c6 c7 d1 d3 d4 kk d2 rs) sc dV kV doc pm an cdv ct) ["self", "runs"] (spI G (callF T0 Pt w (k + 1)) C g) := by
  refine fn_of (k := 2 * k) lk hcd S (fun vs H Q E ⟨_, _, _, _, _, _, _, e, _⟩ => by rw [e]; rfl) fun A outer s H vs Q E hr hsp => ?_
  obtain ⟨x, dx, Fr, st, σ, d, v, rfl, rfl, hx0, hd0, hne, hs, av, r, st', eo, fin⟩ := hsp
  generalize hX : cxOf (L2.CX P wd) P wd G.K mg base initN qual sc f cdv A outer s (upd (upd st.H dx (.own x)) x (.ins C dx [])) E = X
  have Xs : X.env.scope = sc := by rw [← hX]; rfl
  have XK : X.K = G.K := by rw [← hX]; rfl
  have XN : X.N = initN := by rw [← hX]; rfl
  have Xc : X.calm = true := by rw [← hX]; rfl
  have Xm : X.mg = mg := by rw [← hX]; rfl
  have Xr : Room (2 * k) X.A := by rw [← hX]; exact hr
  have Xt : Takes X (fun c d _ H => E c d H) := by rw [← hX]; exact takes_of rfl rfl rfl rfl
  have Xp : PassesOwn (model X.prog X.w) X.A X.env X.xe := by rw [← hX]; exact passes_of rfl
  have Xf : FnOk X.prog X.w X.K X.mg X.base (L2.CX X.prog X.w) (2 * k) ad fds pss (spF G (callF T0 Pt w k) gs) := by rw [← hX]; exact Fs
  have vis : ∀ y, sc.names.lookup y = some .local → Vis X.env.scope y := fun y h => by rw [Xs]; exact .inl h
  have loc : ∀ y, sc.names.lookup y = some .local → L2.Loc X.env.scope y := fun y h => by rw [Xs]; exact .inl h
  have pv0 : ∀ p, PE X (.Name "self" p) (tVar 0) := fun p => pe_var (by rw [XN]; rfl) (vis _ l0) (by decide) (by decide)
  have pv1 : ∀ p, PE X (.Name "runs" p) (tVar 1) := fun p => pe_var (by rw [XN]; rfl) (vis _ l1) (by decide) (by decide)
  have pv3 : ∀ p, PE X (.Name "run" p) (tVar 3) := fun p => pe_var (by rw [XN]; rfl) (vis _ l3) (by decide) (by decide)
  have nd : X.N.Nodup := by rw [XN]; exact S.nd
  have glb : ∀ y, sc.names.lookup y = some .globalImplicit → Gl X y := fun y h => by
    show X.env.scope.names.lookup y = _
    rw [Xs]; exact h
  have at0 : ∀ p q, PE X (.Attribute (.Name "self" p) "own_runs" q) (SlX.tSl X.K (tVar 0) "own_runs") := fun p q => SlX.pe_sl (pv0 p) rfl
  have t1 := SlX.ps_sl (X := X) (pos := a6) (pos' := a2) (f := "own_runs") (pv0 a1) (pe_callTy (p := a3) (pos := a5) call_tuple_of (glb _ gt) (by rw [Xm]; exact mt) (by decide +kernel) (pa_cons (pv1 a4) pa_nil rfl) (by decide) (by decide) rfl rfl) rfl
  have t3 := SlX.ps_sl (X := X) (pos := c7) (pos' := c2) (f := "own_swings") (pv0 c1) (pe_callSD (p := c3) (pos := c6) Xf Xr (glb _ gw) (by rw [Xm]; exact ms) (by rw [XK]; exact hk) (by rw [XK]; exact hb) .nil (passAt Xt) (pa_cons (at0 c4 c5) pa_nil rfl) (by decide) rfl rfl) rfl
  have tg : PG X (.Tuple [.Name "place" b1, .Name "run" b2] kk b3) (gTup X.K 2 (gCons (gName 2) (gCons (gName 3) gNil))) :=
    pg_tup Xc (pgs_cons (pg_name nd (by rw [XN]; rfl) (loc _ l2) (.inr (by rw [Xs]; exact l2))) (pgs_cons (pg_name nd (by rw [XN]; rfl) (loc _ l3) (.inr (by rw [Xs]; exact l3))) pgs_nil rfl) rfl) rfl rfl
  have tb : PSs X [.If (.Compare (.Name "run" d1) [.Eq] [.Constant (.int 0) d2 d3] d4) rs [] b9] (tIfS (tTest (tOp rEq (tVar 3) (tC (.int 0)))) tNever tNext) :=
    pss_one (ps_if (pt_cmpR op_eq (pv3 d1) pe_int rfl) pss_never pss_nil)
  have t2 := ps_for (X := X) (pos := b10) Xp Xc (pi_enumA (p := b4) (pos := b7) (tpos := b3) (elts := [.Name "place" b1, .Name "run" b2]) (kk := kk) (glb _ ge) (by rw [Xm]; exact me) (pa_cons (at0 b5 b6) pa_nil rfl) rfl) tg tb (fun _ => rfl)
  refine ⟨_, pss_cons t1 (pss_cons t2 (pss_one t3)), ?_⟩
  -- what the evaluator says
  have ey : mkYear (callF T0 Pt w k) cl gs [d] st.st = .ok r st' := by
    unfold callO at eo
    have e1 : callF T0 Pt w (k + 1) g [d] st.st = mkYear (callF T0 Pt w k) cl gs [d] st.st := by
      show (match Pt g with
        | none => OutF.bad
        | some fd => match fd.year with
          | some (c, g) => mkYear (callF T0 Pt w k) c g [d] st.st
          | none => _) = _
      rw [hP]
    rw [e1] at eo
    cases q : mkYear (callF T0 Pt w k) cl gs [d] st.st with
    | bad => rw [q] at eo; cases eo
    | exc _ _ _ => rw [q] at eo; cases eo
    | ok r' s' => rw [q] at eo; cases eo; rfl
  obtain ⟨xs, is, sw, hq, hi, hnz, hsw, hdat, rfl⟩ := mkYear_ok ey
  -- the instance is laid
  have hxd : x ≠ dx := Ne.symm hne
  have hs1 := hs.more (o := .own x) hd0
  have hx1 : (st.laid dx (.own x)).H x = none := by show upd st.H dx _ x = none; rw [upd_ne hxd]; exact hx0
  have h0 := hs1.more (o := .ins C dx []) hx1
  have e0 : Ext st ((st.laid dx (.own x)).laid x (.ins C dx [])) σ σ := (Ext.laid hd0).trans (Ext.laid hx1)
  have nwr : ∀ b, st.H b = none → ¬ Wr st σ b := fun b e z => hs.wrTrk z e
  have n1 : ¬ Wr ((st.laid dx (.own x)).laid x (.ins C dx [])) σ x := nwr x hx0
  have n2 : ¬ Wr ((st.laid dx (.own x)).laid x (.ins C dx [])) σ dx := nwr dx hd0
  have kd0 : ∀ b u, st.H b = some u → ¬ Av Fr st σ b → ((st.laid dx (.own x)).laid x (.ins C dx [])).H b = some u ∧ ¬ Av (And1 (And1 Fr dx) x) ((st.laid dx (.own x)).laid x (.ins C dx [])) σ b := fun b u q n => by
    refine ⟨e0.keep b u q fun z => n (.inl z), fun z => ?_⟩
    rcases z with z | (z | z) | z
    · exact n (.inl z)
    · exact n (.inr z)
    · rw [z, hd0] at q; cases q
    · rw [z, hx0] at q; cases q
  have rep0 : Rep G.K G.CA (Av (And1 (And1 Fr dx) x) ((st.laid dx (.own x)).laid x (.ins C dx [])) σ) ((st.laid dx (.own x)).laid x (.ins C dx [])).H d v := by
    cases d with
    | cell n => cases hq
    | non => cases hq
    | bl _ => cases hq
    | int _ => cases hq
    | str _ => cases hq
    | ins _ _ => cases hq
    | own _ => exact (show False from av).elim
    | pk _ => cases hq
    | tup ys => exact Rep.mono kd0 _ v av
    | lst ys => exact Rep.mono kd0 _ v av
    | frz ys => exact Rep.mono kd0 _ v av
  have H0x : ((st.laid dx (.own x)).laid x (.ins C dx [])).H x = some (.ins C dx []) := upd_same
  have H0d : ((st.laid dx (.own x)).laid x (.ins C dx [])).H dx ≠ none := by
    show upd (upd st.H dx _) x _ dx ≠ none
    rw [upd_ne hne, upd_same]; simp
  have cls' : SlX.SCls X.K C := by rw [XK]; exact cls
  have s0' : SlX.Slot1 X.K C "own_runs" p0 0 := by rw [XK]; exact s0
  have s1' : SlX.Slot1 X.K C "own_swings" p1 1 := by rw [XK]; exact s1
  -- from the stored tuple on
  have step : ∀ (sa : ST) (t : Addr), sa.en = st.en → sa.st = st.st → SR G.K G.CA (And1 (And1 Fr dx) x) sa σ → Ext ((st.laid dx (.own x)).laid x (.ins C dx [])) sa σ σ →
      Rep G.K G.CA (Av (And1 (And1 Fr dx) x) sa σ) sa.H (.tup xs) (.ref t) →
      tSeq (tFor (iEnumA X.K (tCons (SlX.tSl X.K (tVar 0) "own_runs") tNil)) (gTup X.K 2 (gCons (gName 2) (gCons (gName 3) gNil))) (tIfS (tTest (tOp rEq (tVar 3) (tC (.int 0)))) tNever tNext))
        (SlX.sSl X.K (tVar 0) (tCallSD (spF G (callF T0 Pt w k) gs) [] (fun σ => WE (fun c d _ H => E c d H) σ) (tCons (SlX.tSl X.K (tVar 0) "own_runs") tNil)) "own_swings")
        { nx := fun _ H' => Q .non H', rt := Q } (L2.start initN [.ref x, v]) (SlX.slH sa.H x C dx [some (.ref t)]) := fun sa t a1 a2 ha xa ra => by
    have m1 : ¬ Wr sa σ x := xa.nwr (by rw [H0x]; simp) n1
    have m2 : ¬ Wr sa σ dx := xa.nwr H0d n2
    obtain ⟨h2, k2⟩ := ha.slot (C := C) (vs := [some (.ref t)]) m1 m2
    have eb : Ext st { sa with H := SlX.slH sa.H x C dx [some (.ref t)] } σ σ := (e0.trans xa).slot hx0 hd0
    have rb : Rep G.K G.CA (Av (And1 (And1 Fr dx) x) { sa with H := SlX.slH sa.H x C dx [some (.ref t)] } σ) (SlX.slH sa.H x C dx [some (.ref t)]) (.tup xs) (.ref t) := Rep.mono k2 _ _ ra
    have slt : SlX.Slt (SlX.slH sa.H x C dx [some (.ref t)]) x C dx [some (.ref t)] := SlX.slH_slt hne
    have q1 : ¬ Wr { sa with H := SlX.slH sa.H x C dx [some (.ref t)] } σ x := m1
    have q2 : ¬ Wr { sa with H := SlX.slH sa.H x C dx [some (.ref t)] } σ dx := m2
    have sqt : ∀ si : ST, Ext { sa with H := SlX.slH sa.H x C dx [some (.ref t)] } si σ σ → SqT X.K si.H t (is.map V.int) ∧ SlX.Slt si.H x C dx [some (.ref t)] := fun si xi => by
      obtain ⟨a, vs, ea, ta, rv⟩ := xi.rep rb
      cases ea
      cases rv.ints hi
      refine ⟨XK ▸ ta.sq, ?_⟩
      rcases slt with ⟨z, z2⟩ | ⟨z, z2⟩
      · exact nomatch z2
      · exact .inr ⟨xi.keep _ _ z q1, xi.keep _ _ z2 q2⟩
    obtain ⟨sq0, sl0⟩ := sqt _ Ext.refl
    refine ⟨.ref x, rfl, x, C, dx, p0, [some (.ref t)], 0, .ref t, rfl, sl0, cls', s0', rfl, t, is.map V.int, rfl, .inr ⟨sq0, ?_⟩⟩
    refine ⟨fun i m σ' H => m = is.length - i ∧ σ'[0]? = some (some (.ref x)) ∧ σ'.length = 4 ∧ ∃ si, si.H = H ∧ si.en = st.en ∧ si.st = st.st ∧ SR G.K G.CA (And1 (And1 Fr dx) x) si σ ∧ Ext { sa with H := SlX.slH sa.H x C dx [some (.ref t)] } si σ σ,
      ⟨is.length, rfl, rfl, rfl, { sa with H := SlX.slH sa.H x C dx [some (.ref t)] }, rfl, a1, a2, h2, Ext.refl⟩, ?_⟩
    rintro i m σ' H ⟨em, g0, gl, si, rfl, u1, u2, hsi, xi⟩
    obtain ⟨sqi, sli⟩ := sqt si xi
    by_cases hlt : i < is.length
    · have gi : (is.map V.int)[i]? = some (.int is[i]) := by rw [List.getElem?_map, List.getElem?_eq_getElem hlt]; rfl
      refine .inr ⟨⟨_, _, sqi, gi⟩, _, fun σ2 H2 z => ⟨is.length - (i + 1), by omega, z⟩, fun y H' ⟨T, y', ey, hT, eH, qy⟩ => ?_⟩
      have := qy _ sqi
      rw [gi] at this
      cases this
      subst ey eH
      refine ⟨T, _, rfl, .inl (.inl upd_same), rfl, _, _, rfl, _, _, rfl, rfl, ?_⟩
      refine ⟨_, by rw [List.getElem?_set_self (by rw [List.length_set, gl]; decide)], rfl, _, rfl, ?_⟩
      have nz : is[i] ≠ 0 := hnz _ (List.getElem_mem hlt)
      have dz : decide (V.int is[i] = V.int 0) = false := decide_eq_false fun z => nz (V.int.inj z)
      rw [dz]
      dsimp only
      rw [if_neg (by simp)]
      exact ⟨rfl, by rw [List.getElem?_set_ne (by decide), List.getElem?_set_ne (by decide)]; exact g0, by rw [List.length_set, List.length_set]; exact gl, si.laid T _, rfl, u1, u2, hsi.laid hT, xi.trans (Ext.laid hT)⟩
    · refine .inl ⟨⟨_, sqi, by rw [List.length_map]; omega⟩, ?_⟩
      refine ⟨.ref x, g0, x, C, dx, p0, [some (.ref t)], 0, .ref t, rfl, sli, cls', s0', rfl, ?_⟩
      refine ⟨And1 (And1 Fr dx) x, si, σ, [.tup xs], rfl, hsi, ⟨.ref t, [], rfl, xi.rep rb, rfl⟩, ?_⟩
      have ec : callO (callF T0 Pt w k) gs [.tup xs] si.en si.st = .ok sw si.en st' := by
        unfold callO
        rw [u2, hsw]
      rw [ec]
      intro b s4 f1 f2 h4 x4 r4
      have x24 := xi.trans x4
      obtain ⟨_, sl4⟩ := sqt s4 x24
      have w1 : ¬ Wr s4 σ x := x24.nwr (by
        show SlX.slH sa.H x C dx [some (V.ref t)] x ≠ none
        rcases slt with ⟨z, _⟩ | ⟨z, _⟩
        · rw [z]; simp
        · rw [z]; simp) q1
      have w2 : ¬ Wr s4 σ dx := x24.nwr (by
        show SlX.slH sa.H x C dx [some (V.ref t)] dx ≠ none
        rcases slt with ⟨_, z2⟩ | ⟨_, z2⟩
        · exact nomatch z2
        · rw [z2]; simp) q2
      refine ⟨.ref x, g0, x, C, dx, p1, [some (.ref t)], 1, rfl, sl4, cls', s1', ?_⟩
      obtain ⟨h5, k5⟩ := h4.slot (C := C) (vs := [some (.ref t), some b]) w1 w2
      have e5 : Ext st { s4 with H := SlX.slH s4.H x C dx [some (.ref t), some b] } σ σ := (eb.trans x24).slot hx0 hd0
      have kd5 : ∀ b' u, s4.H b' = some u → ¬ Av (And1 (And1 Fr dx) x) s4 σ b' → SlX.slH s4.H x C dx [some (.ref t), some b] b' = some u ∧ ¬ Av Fr { s4 with H := SlX.slH s4.H x C dx [some (.ref t), some b] } σ b' := fun b' u q n => by
        obtain ⟨z1, z2⟩ := k5 b' u q n
        exact ⟨z1, fun z => z2 (z.imp id fun z => .inl (.inl z))⟩
      refine fin { s4 with H := SlX.slH s4.H x C dx [some (.ref t), some b] } (f1.trans u1) f2 (h5.less fun _ z => .inl (.inl z)) e5 ?_
      refine ⟨x, dx, [.ref t, b], rfl, fun z => ?_, fun z => ?_, ?_, ?_, .ref t, [b], rfl, Rep.mono kd5 _ _ (x24.rep rb), b, [], rfl, Rep.mono kd5 _ _ (r4.item ?_), rfl⟩
      · exact z.elim w1 fun z => hs.trk x z hx0
      · exact z.elim w2 fun z => hs.trk dx z hd0
      · rw [hcl]; exact upd_same
      · show upd _ x _ dx = _
        rw [upd_ne hne, upd_same]
      · cases sw <;> first | rfl | cases hdat
  refine ⟨v, rfl, ?_⟩
  have putd : ∀ t : Addr, SlX.putS 0 (.ref t) [] = [some (V.ref t)] := fun _ => rfl
  have put : ∀ (sa : ST) (t : Addr), sa.H x = some (.ins C dx []) → ∀ {Dd : Ends}, (tSeq (tFor (iEnumA X.K (tCons (SlX.tSl X.K (tVar 0) "own_runs") tNil)) (gTup X.K 2 (gCons (gName 2) (gCons (gName 3) gNil))) (tIfS (tTest (tOp rEq (tVar 3) (tC (.int 0)))) tNever tNext))
        (SlX.sSl X.K (tVar 0) (tCallSD (spF G (callF T0 Pt w k) gs) [] (fun σ => WE (fun c d _ H => E c d H) σ) (tCons (SlX.tSl X.K (tVar 0) "own_runs") tNil)) "own_swings") Dd (L2.start initN [.ref x, v]) (SlX.slH sa.H x C dx [some (.ref t)])) →
      tVar 0 (L2.start initN [.ref x, v]) sa.H fun x' H2 => ∃ a C dx p vs i, x' = .ref a ∧ SlX.Slt H2 a C dx vs ∧ SlX.SCls X.K C ∧ SlX.Slot1 X.K C "own_runs" p i ∧ tSeq (tFor (iEnumA X.K (tCons (SlX.tSl X.K (tVar 0) "own_runs") tNil)) (gTup X.K 2 (gCons (gName 2) (gCons (gName 3) gNil))) (tIfS (tTest (tOp rEq (tVar 3) (tC (.int 0)))) tNever tNext))
        (SlX.sSl X.K (tVar 0) (tCallSD (spF G (callF T0 Pt w k) gs) [] (fun σ => WE (fun c d _ H => E c d H) σ) (tCons (SlX.tSl X.K (tVar 0) "own_runs") tNil)) "own_swings") Dd (L2.start initN [.ref x, v]) (SlX.slH H2 a C dx (SlX.putS i (.ref t) vs)) := fun sa t hx {Dd} z =>
    ⟨.ref x, rfl, x, C, dx, p0, [], 0, rfl, .inl ⟨hx, rfl⟩, cls', s0', z⟩
  rcases seq_or hq with q | q
  · obtain ⟨a, vs, rfl, sq, rv⟩ := (RepW.ofRep rep0).seqL q
    refine ⟨a, vs, rfl, .inl ⟨XK ▸ sq, fun l hl => ?_⟩⟩
    have hl : ((st.laid dx (.own x)).laid x (.ins C dx [])).H l = none := hl
    have hlx : x ≠ l := fun z => by rw [← z, H0x] at hl; cases hl
    exact put _ l (by show upd _ l _ x = _; rw [upd_ne hlx]; exact H0x) (step (((st.laid dx (.own x)).laid x (.ins C dx [])).laid l (.tup vs)) l rfl rfl (h0.laid hl) (Ext.laid hl) (Rep.newTup h0 hl rv))
  · cases d with
    | tup ys =>
      cases q
      obtain ⟨a, vs, rfl, ta, rv⟩ := rep0
      exact ⟨a, vs, rfl, .inr ⟨XK ▸ ta.sq, put _ a H0x (step _ a rfl rfl h0 Ext.refl ⟨a, vs, rfl, ta, rv⟩)⟩⟩
    | _ => cases q
end
end Ev

end
section
set_option linter.all false
set_option maxRecDepth 100000
/-! Hd1: the head's facts for these laws, the law's end. -/
namespace Ev
open PySem PySem.Spec PyProof.Rows L2
/-- one def of the text: where its function stands, what it is -/
structure DD where
  ad : PySem.W.Frag → Addr
  name : Str
  qual : Str
  params : Arguments
  body : List Stmt
  scope : Scope
abbrev FnT : Type := Option (Str × Str × Arguments × FuncBody × Scope × Addr × List (Str × Addr) × Addr)
def fnAt (K : PySem.W.Frag) (a : Addr) : FnT := match K.lookup a with
  | some ⟨_, _, .func fd, _⟩ => some (fd.name, fd.qualname, fd.params, fd.body, fd.scope, fd.globals, fd.closure, fd.builtins)
  | _ => none
def DD.val (d : DD) : FnT := some (d.name, d.qual, d.params, .stmts d.body, d.scope, mainGlobals, [], builtinsNs)
def DD.ok (K : PySem.W.Frag) (d : DD) : Bool := PySem.W.keepIn K (.ref (d.ad K)) && (match K.lookup (d.ad K) with
  | some ⟨_, _, .func fd, _⟩ => PySem.W.codeIn K fd.code d.qual && (He.dflB K fd.defaults [] && He.kwdB K fd.kwdefaults [])
  | _ => false)
theorem DD.funD {K : PySem.W.Frag} {d : DD} (e : fnAt K (d.ad K) = d.val) (c : d.ok K = true) : ∃ fd, FunD K d.name d.qual d.params d.body d.scope [] [] (d.ad K) fd := by
  obtain ⟨kp, c2⟩ := He.ba c
  unfold fnAt at e
  cases q : K.lookup (d.ad K) with
  | none =>
    rw [q] at c2
    cases c2
  | some o =>
    obtain ⟨oc, od, dt, osl⟩ := o
    rw [q] at c2 e
    cases dt with
    | func fd =>
      obtain ⟨n1, n2, n3, n4, n5, n6, n7, n8, n9, n10, n11, n12, n13, n14, n15⟩ := fd
      have e2 : (some (n1, n2, n3, n4, n5, n6, n7, n15) : FnT) = some (d.name, d.qual, d.params, .stmts d.body, d.scope, mainGlobals, [], builtinsNs) := e
      simp only [Option.some.injEq, Prod.mk.injEq] at e2
      obtain ⟨h1, h2, h3, h4, h5, h6, h7, h8⟩ := e2
      subst h1 h2 h3 h4 h5 h6 h7 h8
      have c3 : (PySem.W.codeIn K n13 d.qual && (He.dflB K n8 [] && He.kwdB K n9 [])) = true := c2
      obtain ⟨k1, k2⟩ := He.ba c3
      obtain ⟨k3, k4⟩ := He.ba k2
      exact ⟨_, ⟨oc, od, n8, n9, n10, n11, n12, n13, n14, osl, rfl, q, k1, He.dflB_ok k3, He.kwdB_ok k4⟩, kp⟩
    | _ => cases c2
abbrev AlX : Type := Bool × List FnT
def obsX (chk : PySem.W.Frag → Bool) (fn : List DD) (K : PySem.W.Frag) : AlX := (chk K && fn.all fun d => d.ok K, fn.map fun d => fnAt K (d.ad K))
def valX (fn : List DD) : AlX := (true, fn.map DD.val)
def SaysX (chk : PySem.W.Frag → Bool) (fn : List DD) (K : PySem.W.Frag) : Prop := obsX chk fn K = valX fn
def obsXG (n : Nat) (chk : PySem.W.Frag → Bool) (fn : List DD) (g : Addr → Option Obj) : AlX := obsX chk fn (He.frG g (He.asG g n))
def hookX (n : Nat) (chk : PySem.W.Frag → Bool) (fn : List DD) : PySem.W.Hook where
  α := AlX
  obs := fun s => obsXG n chk fn s.heap.get?
  val := fun _ => valX fn
  says := fun _ h => ∃ K : PySem.W.Frag, K.In h ∧ SaysX chk fn K
  of := fun _ _ e => ⟨_, He.frG_in, e⟩
  keeps := fun _ _ _ ⟨K, hK, c⟩ k => ⟨K, PySem.W.Frag.In.keeps hK k, c⟩
theorem obsXG_eq {n : Nat} {chk : PySem.W.Frag → Bool} {fn : List DD} {g : Addr → Option Obj} {s : Shared} (h : ∀ a, g a = s.heap.get? a) : obsXG n chk fn g = (hookX n chk fn).obs s := by
  have e : g = s.heap.get? := funext h
  rw [e] <;> rfl
section
variable {chk : PySem.W.Frag → Bool} {fn : List DD} {K : PySem.W.Frag}
theorem SaysX.chk_ (c : SaysX chk fn K) : chk K = true :=
  (He.ba (show (chk K && fn.all fun d => d.ok K) = true from congrArg (fun z : AlX => z.1) c)).1
theorem SaysX.def_ (c : SaysX chk fn K) (i : Nat) {d : DD} (h : fn[i]? = some d) : ∃ fd, FunD K d.name d.qual d.params d.body d.scope [] [] (d.ad K) fd := by
  have c2 := (He.ba (show (chk K && fn.all fun d => d.ok K) = true from congrArg (fun z : AlX => z.1) c)).2
  have e : fn.map (fun d => fnAt K (d.ad K)) = fn.map DD.val := congrArg (fun z : AlX => z.2) c
  have e2 : (fn.map fun d => fnAt K (d.ad K))[i]? = (fn.map DD.val)[i]? := by rw [e]
  rw [List.getElem?_map, List.getElem?_map, h] at e2
  exact DD.funD (Option.some.inj e2) (List.all_eq_true.mp c2 d (List.mem_of_getElem? h))
end
/-- a def as the text has it, and as it is compiled -/
theorem defAt_of {K : PySem.W.Frag} {Pt : Nat → Option Fd} {I : Info} {g n : Nat} {x qual : Str} {params : Arguments} {body : List Stmt} {scope : Scope} {f : Addr} {fd : FuncData} {N ps : List Str} (F : FunD K x qual params body scope [] [] f fd) (S : FnScope N ps scope)
    (hP : Pt g = some { names := N.length, pars := ps.length, body := seqW (compS n (infoOf I N scope)) body }) : DefAt K Pt I g f fd ps := by
  obtain ⟨oc, od, dV, kV, doc, pm, an, cdv, ct, osl, e, lk, hcd, _, _⟩ := F.ex
  exact ⟨⟨x, qual, params, body, scope, dV, kV, doc, pm, cdv, ct, oc, an, od, osl, N, n, e, lk, hcd, S, hP⟩⟩
/-- scopes, by a look -/
def scB (N ps : List Str) (sc : Scope) : Bool := (sc.kind == .function) && !sc.isCoroutine && !sc.isGenerator && decide N.Nodup && (N.take ps.length == ps) &&
  (ps.all fun x => sc.names.lookup x == some .local || sc.names.lookup x == some .cell) && sc.names.all fun y => y.2 != .free
theorem scB_ok {N ps : List Str} {sc : Scope} (h : scB N ps sc = true) : FnScope N ps sc := by
  unfold scB at h
  simp only [Bool.and_eq_true, beq_iff_eq, Bool.not_eq_true', decide_eq_true_eq] at h
  obtain ⟨⟨⟨⟨⟨⟨h1, h2⟩, h3⟩, h4⟩, h5⟩, h6⟩, h7⟩ := h
  refine ⟨h1, h2, h3, h4, h5, fun x hx => ?_, fun y hy => ?_⟩
  · have := List.all_eq_true.mp h6 x hx
    simpa using this
  · have := List.all_eq_true.mp h7 y hy
    simpa using this
/-- the law's promise is kept: from what the evaluator says of a frozen list -/
theorem law_sp {G : Gm} {F : Fn} {g : Nat} {ns : List Int} (h : ∃ st, F g [.frz (ns.map D.int)] [] = .ok (.bl true) st) {H : Hp} {a : Addr} (hO : Only H) (hS : SqL G.K H a (ns.map V.int)) : spF G F g [.ref a] H (fun v _ => v = .bl true) fun _ _ _ => False := by
  obtain ⟨st, e⟩ := h
  have no : ∀ j b, ¬ ownAt [] ([] : L2.St) j b := fun j b ⟨xs, e, _⟩ => by simp at e
  have wr : ∀ b, ¬ Wr { m := [], en := [], st := [], H := H } [] b := fun b z => z.elim (fun z => by cases z) fun ⟨j, z⟩ => no j b z
  have hs : SR G.K G.CA (fun _ => False) { m := [], en := [], st := [], H := H } [] := ⟨fun _ z => z.elim, rfl, fun n xs e => by simp at e, List.nodup_nil, fun i d e => by simp at e, fun i j a z => (no i a z).elim, fun i a z => (no i a z).elim, fun i a z => (no i a z).elim, rfl⟩
  refine ⟨fun _ => False, { m := [], en := [], st := [], H := H }, [], [.frz (ns.map D.int)], rfl, hs, ⟨.ref a, [], rfl, ⟨a, ns.map V.int, rfl, ?_, Reps.ofInts ns⟩, rfl⟩, ?_⟩
  · rcases hS with (h | ⟨o, h⟩) | h
    · rcases hO a with z | ⟨o, xs, z⟩
      · rw [h] at z; cases z
      · rw [h] at z; cases z
    · exact .inl ⟨fun z => z.elim (wr a) id, o, h⟩
    · exact .inr h
  · show Post G _ (rV G) _ _ _ _ (match F g [.frz (ns.map D.int)] [] with
      | .ok d st' => .ok d [] st'
      | .exc c vs st' => .exc c vs [] st'
      | .bad => .bad)
    rw [e]
    intro v s' _ _ _ _ r
    exact r
theorem noExc : ∀ (P : Program) (w : World) (H : Hp) (s : Shared) (e : Value) (s' : Shared), L2.CX P w [] H s (fun _ _ _ => False) e s' → False := fun _ _ _ _ _ _ ⟨_, _, _, _, _, _, _, _, _, _, _, _, z⟩ => z
/-- the law's end, the promise over every base -/
theorem walkX {l : PySem.W.OpenLaw} {n k : Nat} {q : Program} {loose : List Str} {XP : (Str → Option Value) → Heap → Prop} {YP : World → Heap → Prop} {d : DefRec} {x : Str}
    (hn : l.most = some n) (hn2 : n ≤ sizeLine) (hdf : d.params.defaults = []) (hr : Room k callerA)
    (F : ∀ (w : World) (mg : Str → Option Value) (fa : Addr) (h : Heap), YP w h → h.Ns mainGlobals mg → mg d.name = some (.ref fa) →
      ∃ (K : PySem.W.Frag) (fd : FuncData) (sp : Sp), K.In h ∧ (∀ (s : Shared) (u : Value), BindsTo s fd ⟨[u], []⟩ [(x, u)]) ∧
        (∀ (H : Hp) (a : Addr) (ns : List Int), ns.length ≤ n → Only H → SqL K H a (ns.map V.int) → sp [.ref a] H (fun v _ => v = .bl true) fun _ _ _ => False) ∧
        ∀ base : Heap, K.In base → base.Ns mainGlobals mg → FnOk l.prog w K mg base (L2.CX l.prog w) k fa fd [x] sp) :
    PySem.W.WalkO q loose XP YP l.row.toRowW d [] (fun f vs => PySem.call f vs) := by
  refine Att.attach_call hn hdf fun w s₀ s₁ mg mb fa o pm cd doc a vs ns Gz Y ho hd hcd hmg hobj hints hlen hg => ?_
  obtain ⟨K, fd, sp, KX, hb, hsp, hF⟩ := F w mg fa _ Y Gz.T.g hmg
  exact law_call KX Gz.T.g Gz.T.b Gz.T.builtins Gz.T.nolimit hg hobj hints (Nat.le_trans hlen hn2) hr hF hb (fun H hO hS => hsp H a ns hlen hO hS) fun H e s' => noExc _ w H s₁ e s'
end Ev

end
section
set_option Elab.async false
set_option linter.all false
set_option maxRecDepth 100000
set_option maxHeartbeats 0
namespace Lw
open PySem PySem.Spec PyProof.Rows L2 Ev
abbrev R : PySem.W.OpenRow := PySem.W.OpenLaw.row PySem.Challenge.rw_allbutts_k77_across_parts_walks_and_far
def top (i : Nat) : Stmt := PySem.Challenge.pw_allbutts_k77_across_parts_walks_and_far.main.body.getD i (.Pass ⟨0, 0, 0, 0⟩)
def clsBody (s : Stmt) : List Stmt := match s with
  | .ClassDef _ _ _ b _ _ _ _ _ _ _ => b
  | _ => []
def met (i j : Nat) : Stmt := (clsBody (top i)).getD j (.Pass ⟨0, 0, 0, 0⟩)
abbrev qv : Program := PySem.W.view R.prog [70]
/-- a property's def -/
def gAd (K : PySem.W.Frag) (c m : Str) : Addr := match PySem.W.recIn K (He.ma K (He.ga K c) m) "property" with
  | some (.ref g :: _) => g
  | _ => 0
def d0 : DD := ⟨fun K => He.ga K (PySem.Str.ofString "is_number"), PySem.Str.ofString "is_number", PySem.Str.ofString "is_number", defArgs (top 2), defBody (top 2), defScope (top 2)⟩
def n0 : List Str := [PySem.Str.ofString "value"]
def q0 : List Str := [PySem.Str.ofString "value"]
def d1 : DD := ⟨fun K => He.ga K (PySem.Str.ofString "is_count"), PySem.Str.ofString "is_count", PySem.Str.ofString "is_count", defArgs (top 3), defBody (top 3), defScope (top 3)⟩
def n1 : List Str := [PySem.Str.ofString "value"]
def q1 : List Str := [PySem.Str.ofString "value"]
def d2 : DD := ⟨fun K => He.ga K (PySem.Str.ofString "run_part"), PySem.Str.ofString "run_part", PySem.Str.ofString "run_part", defArgs (top 7), defBody (top 7), defScope (top 7)⟩
def n2 : List Str := [PySem.Str.ofString "run", PySem.Str.ofString "butt", PySem.Str.ofString "size"]
def q2 : List Str := [PySem.Str.ofString "run", PySem.Str.ofString "butt"]
def d3 : DD := ⟨fun K => He.ga K (PySem.Str.ofString "middle"), PySem.Str.ofString "middle", PySem.Str.ofString "middle", defArgs (top 8), defBody (top 8), defScope (top 8)⟩
def n3 : List Str := [PySem.Str.ofString "low", PySem.Str.ofString "value", PySem.Str.ofString "high"]
def q3 : List Str := [PySem.Str.ofString "low", PySem.Str.ofString "value", PySem.Str.ofString "high"]
def d4 : DD := ⟨fun K => He.ga K (PySem.Str.ofString "then"), PySem.Str.ofString "then", PySem.Str.ofString "then", defArgs (top 9), defBody (top 9), defScope (top 9)⟩
def n4 : List Str := [PySem.Str.ofString "one", PySem.Str.ofString "other", PySem.Str.ofString "high", PySem.Str.ofString "new_need", PySem.Str.ofString "new_room", PySem.Str.ofString "new_low", PySem.Str.ofString "bought", PySem.Str.ofString "need", PySem.Str.ofString "room", PySem.Str.ofString "low", PySem.Str.ofString "more", PySem.Str.ofString "over", PySem.Str.ofString "its_need", PySem.Str.ofString "its_room", PySem.Str.ofString "its_low", PySem.Str.ofString "its_more", PySem.Str.ofString "its_over"]
def q4 : List Str := [PySem.Str.ofString "one", PySem.Str.ofString "other"]
def d5 : DD := ⟨fun K => He.ga K (PySem.Str.ofString "part_of"), PySem.Str.ofString "part_of", PySem.Str.ofString "part_of", defArgs (top 10), defBody (top 10), defScope (top 10)⟩
def n5 : List Str := [PySem.Str.ofString "runs", PySem.Str.ofString "butt", PySem.Str.ofString "found", PySem.Str.ofString "run"]
def q5 : List Str := [PySem.Str.ofString "runs", PySem.Str.ofString "butt"]
def d6 : DD := ⟨fun K => He.ga K (PySem.Str.ofString "times"), PySem.Str.ofString "times", PySem.Str.ofString "times", defArgs (top 11), defBody (top 11), defScope (top 11)⟩
def n6 : List Str := [PySem.Str.ofString "part", PySem.Str.ofString "number", PySem.Str.ofString "power", PySem.Str.ofString "left", PySem.Str.ofString "found"]
def q6 : List Str := [PySem.Str.ofString "part", PySem.Str.ofString "number"]
def d7 : DD := ⟨fun K => He.ga K (PySem.Str.ofString "is_part"), PySem.Str.ofString "is_part", PySem.Str.ofString "is_part", defArgs (top 12), defBody (top 12), defScope (top 12)⟩
def n7 : List Str := [PySem.Str.ofString "butt", PySem.Str.ofString "thing", PySem.Str.ofString "need", PySem.Str.ofString "room", PySem.Str.ofString "low", PySem.Str.ofString "more", PySem.Str.ofString "over", PySem.Str.ofString "own"]
def q7 : List Str := [PySem.Str.ofString "butt", PySem.Str.ofString "thing"]
def d8 : DD := ⟨fun K => He.ga K (PySem.Str.ofString "through"), PySem.Str.ofString "through", PySem.Str.ofString "through", defArgs (top 13), defBody (top 13), defScope (top 13)⟩
def n8 : List Str := [PySem.Str.ofString "part", PySem.Str.ofString "level", PySem.Str.ofString "need", PySem.Str.ofString "room", PySem.Str.ofString "low", PySem.Str.ofString "more", PySem.Str.ofString "over"]
def q8 : List Str := [PySem.Str.ofString "part", PySem.Str.ofString "level"]
def d9 : DD := ⟨fun K => He.ga K (PySem.Str.ofString "runs_for"), PySem.Str.ofString "runs_for", PySem.Str.ofString "runs_for", defArgs (top 14), defBody (top 14), defScope (top 14)⟩
def n9 : List Str := [PySem.Str.ofString "butt", PySem.Str.ofString "part", PySem.Str.ofString "need", PySem.Str.ofString "room", PySem.Str.ofString "low", PySem.Str.ofString "more", PySem.Str.ofString "over", PySem.Str.ofString "lift", PySem.Str.ofString "row", PySem.Str.ofString "run"]
def q9 : List Str := [PySem.Str.ofString "butt", PySem.Str.ofString "part"]
def d10 : DD := ⟨fun K => He.ga K (PySem.Str.ofString "least_first"), PySem.Str.ofString "least_first", PySem.Str.ofString "least_first", defArgs (top 15), defBody (top 15), defScope (top 15)⟩
def n10 : List Str := [PySem.Str.ofString "year", PySem.Str.ofString "butt", PySem.Str.ofString "need", PySem.Str.ofString "room", PySem.Str.ofString "low", PySem.Str.ofString "more", PySem.Str.ofString "over"]
def q10 : List Str := [PySem.Str.ofString "year", PySem.Str.ofString "butt"]
def d11 : DD := ⟨fun K => He.ga K (PySem.Str.ofString "most_first"), PySem.Str.ofString "most_first", PySem.Str.ofString "most_first", defArgs (top 16), defBody (top 16), defScope (top 16)⟩
def n11 : List Str := [PySem.Str.ofString "year", PySem.Str.ofString "butt", PySem.Str.ofString "need", PySem.Str.ofString "room", PySem.Str.ofString "low", PySem.Str.ofString "more", PySem.Str.ofString "over"]
def q11 : List Str := [PySem.Str.ofString "year", PySem.Str.ofString "butt"]
def d12 : DD := ⟨fun K => He.ga K (PySem.Str.ofString "far_part"), PySem.Str.ofString "far_part", PySem.Str.ofString "far_part", defArgs (top 17), defBody (top 17), defScope (top 17)⟩
def n12 : List Str := [PySem.Str.ofString "year", PySem.Str.ofString "butt", PySem.Str.ofString "number", PySem.Str.ofString "behind", PySem.Str.ofString "whole", PySem.Str.ofString "rest"]
def q12 : List Str := [PySem.Str.ofString "year", PySem.Str.ofString "butt", PySem.Str.ofString "number"]
def d13 : DD := ⟨fun K => He.ga K (PySem.Str.ofString "level_on"), PySem.Str.ofString "level_on", PySem.Str.ofString "level_on", defArgs (top 18), defBody (top 18), defScope (top 18)⟩
def n13 : List Str := [PySem.Str.ofString "year", PySem.Str.ofString "butt", PySem.Str.ofString "first", PySem.Str.ofString "number"]
def q13 : List Str := [PySem.Str.ofString "year", PySem.Str.ofString "butt", PySem.Str.ofString "first", PySem.Str.ofString "number"]
def d14 : DD := ⟨fun K => He.ga K (PySem.Str.ofString "bought_by"), PySem.Str.ofString "bought_by", PySem.Str.ofString "bought_by", defArgs (top 19), defBody (top 19), defScope (top 19)⟩
def n14 : List Str := [PySem.Str.ofString "year", PySem.Str.ofString "butt", PySem.Str.ofString "first", PySem.Str.ofString "number"]
def q14 : List Str := [PySem.Str.ofString "year", PySem.Str.ofString "butt", PySem.Str.ofString "first", PySem.Str.ofString "number"]
def d15 : DD := ⟨fun K => He.ga K (PySem.Str.ofString "spilled_by"), PySem.Str.ofString "spilled_by", PySem.Str.ofString "spilled_by", defArgs (top 20), defBody (top 20), defScope (top 20)⟩
def n15 : List Str := [PySem.Str.ofString "year", PySem.Str.ofString "butt", PySem.Str.ofString "first", PySem.Str.ofString "number"]
def q15 : List Str := [PySem.Str.ofString "year", PySem.Str.ofString "butt", PySem.Str.ofString "first", PySem.Str.ofString "number"]
def d16 : DD := ⟨fun K => He.ga K (PySem.Str.ofString "bought_by_heap"), PySem.Str.ofString "bought_by_heap", PySem.Str.ofString "bought_by_heap", defArgs (top 22), defBody (top 22), defScope (top 22)⟩
def n16 : List Str := [PySem.Str.ofString "heap", PySem.Str.ofString "butt", PySem.Str.ofString "wants", PySem.Str.ofString "swings", PySem.Str.ofString "swing"]
def q16 : List Str := [PySem.Str.ofString "heap", PySem.Str.ofString "butt"]
def d17 : DD := ⟨fun K => He.ga K (PySem.Str.ofString "bought"), PySem.Str.ofString "bought", PySem.Str.ofString "bought", defArgs (top 24), defBody (top 24), defScope (top 24)⟩
def n17 : List Str := [PySem.Str.ofString "year", PySem.Str.ofString "butt"]
def q17 : List Str := [PySem.Str.ofString "year", PySem.Str.ofString "butt"]
def d18 : DD := ⟨fun K => He.ga K (PySem.Str.ofString "spilled"), PySem.Str.ofString "spilled", PySem.Str.ofString "spilled", defArgs (top 25), defBody (top 25), defScope (top 25)⟩
def n18 : List Str := [PySem.Str.ofString "year", PySem.Str.ofString "butt"]
def q18 : List Str := [PySem.Str.ofString "year", PySem.Str.ofString "butt"]
def d19 : DD := ⟨fun K => He.ga K (PySem.Str.ofString "rests"), PySem.Str.ofString "rests", PySem.Str.ofString "rests", defArgs (top 26), defBody (top 26), defScope (top 26)⟩
def n19 : List Str := [PySem.Str.ofString "year", PySem.Str.ofString "butt", PySem.Str.ofString "level", PySem.Str.ofString "need", PySem.Str.ofString "room", PySem.Str.ofString "low", PySem.Str.ofString "more", PySem.Str.ofString "over"]
def q19 : List Str := [PySem.Str.ofString "year", PySem.Str.ofString "butt"]
def d20 : DD := ⟨fun K => He.ga K (PySem.Str.ofString "is_level"), PySem.Str.ofString "is_level", PySem.Str.ofString "is_level", defArgs (top 39), defBody (top 39), defScope (top 39)⟩
def n20 : List Str := [PySem.Str.ofString "butt", PySem.Str.ofString "thing"]
def q20 : List Str := [PySem.Str.ofString "butt", PySem.Str.ofString "thing"]
def d21 : DD := ⟨fun K => He.ga K (PySem.Str.ofString "after_run"), PySem.Str.ofString "after_run", PySem.Str.ofString "after_run", defArgs (top 40), defBody (top 40), defScope (top 40)⟩
def n21 : List Str := [PySem.Str.ofString "run", PySem.Str.ofString "butt", PySem.Str.ofString "level", PySem.Str.ofString "whole"]
def q21 : List Str := [PySem.Str.ofString "run", PySem.Str.ofString "butt", PySem.Str.ofString "level"]
def d22 : DD := ⟨fun K => He.ga K (PySem.Str.ofString "walked_runs"), PySem.Str.ofString "walked_runs", PySem.Str.ofString "walked_runs", defArgs (top 41), defBody (top 41), defScope (top 41)⟩
def n22 : List Str := [PySem.Str.ofString "runs", PySem.Str.ofString "butt", PySem.Str.ofString "first", PySem.Str.ofString "run", PySem.Str.ofString "found", PySem.Str.ofString "level"]
def q22 : List Str := [PySem.Str.ofString "runs", PySem.Str.ofString "butt", PySem.Str.ofString "first"]
def d23 : DD := ⟨fun K => He.ga K (PySem.Str.ofString "walked"), PySem.Str.ofString "walked", PySem.Str.ofString "walked", defArgs (top 42), defBody (top 42), defScope (top 42)⟩
def n23 : List Str := [PySem.Str.ofString "year", PySem.Str.ofString "butt", PySem.Str.ofString "first"]
def q23 : List Str := [PySem.Str.ofString "year", PySem.Str.ofString "butt", PySem.Str.ofString "first"]
def d24 : DD := ⟨fun K => He.ga K (PySem.Str.ofString "levels"), PySem.Str.ofString "levels", PySem.Str.ofString "levels", defArgs (top 43), defBody (top 43), defScope (top 43)⟩
def n24 : List Str := [PySem.Str.ofString "year", PySem.Str.ofString "butt", PySem.Str.ofString "first", PySem.Str.ofString "level", PySem.Str.ofString "more", PySem.Str.ofString "over"]
def q24 : List Str := [PySem.Str.ofString "year", PySem.Str.ofString "butt", PySem.Str.ofString "first"]
def d25 : DD := ⟨fun K => He.ga K (PySem.Str.ofString "level_after"), PySem.Str.ofString "level_after", PySem.Str.ofString "level_after", defArgs (top 44), defBody (top 44), defScope (top 44)⟩
def n25 : List Str := [PySem.Str.ofString "year", PySem.Str.ofString "butt", PySem.Str.ofString "first"]
def q25 : List Str := [PySem.Str.ofString "year", PySem.Str.ofString "butt", PySem.Str.ofString "first"]
def d26 : DD := ⟨fun K => He.ga K (PySem.Str.ofString "bought_in"), PySem.Str.ofString "bought_in", PySem.Str.ofString "bought_in", defArgs (top 45), defBody (top 45), defScope (top 45)⟩
def n26 : List Str := [PySem.Str.ofString "year", PySem.Str.ofString "butt", PySem.Str.ofString "first", PySem.Str.ofString "level", PySem.Str.ofString "more", PySem.Str.ofString "over"]
def q26 : List Str := [PySem.Str.ofString "year", PySem.Str.ofString "butt", PySem.Str.ofString "first"]
def d27 : DD := ⟨fun K => He.ga K (PySem.Str.ofString "spilled_in"), PySem.Str.ofString "spilled_in", PySem.Str.ofString "spilled_in", defArgs (top 46), defBody (top 46), defScope (top 46)⟩
def n27 : List Str := [PySem.Str.ofString "year", PySem.Str.ofString "butt", PySem.Str.ofString "first", PySem.Str.ofString "level", PySem.Str.ofString "more", PySem.Str.ofString "over"]
def q27 : List Str := [PySem.Str.ofString "year", PySem.Str.ofString "butt", PySem.Str.ofString "first"]
def d28 : DD := ⟨fun K => He.ga K (PySem.Str.ofString "is_turn"), PySem.Str.ofString "is_turn", PySem.Str.ofString "is_turn", defArgs (top 51), defBody (top 51), defScope (top 51)⟩
def n28 : List Str := [PySem.Str.ofString "runs", PySem.Str.ofString "place"]
def q28 : List Str := [PySem.Str.ofString "runs", PySem.Str.ofString "place"]
def d29 : DD := ⟨fun K => He.ga K (PySem.Str.ofString "ring_of"), PySem.Str.ofString "ring_of", PySem.Str.ofString "ring_of", defArgs (top 52), defBody (top 52), defScope (top 52)⟩
def n29 : List Str := [PySem.Str.ofString "runs", PySem.Str.ofString "turns", PySem.Str.ofString "around", PySem.Str.ofString "found", PySem.Str.ofString "run", PySem.Str.ofString "place"]
def q29 : List Str := [PySem.Str.ofString "runs"]
def d30 : DD := ⟨fun K => He.ga K (PySem.Str.ofString "swings_of"), PySem.Str.ofString "swings_of", PySem.Str.ofString "swings_of", defArgs (top 53), defBody (top 53), defScope (top 53)⟩
def n30 : List Str := [PySem.Str.ofString "runs", PySem.Str.ofString "left", PySem.Str.ofString "found", PySem.Str.ofString "sizes", PySem.Str.ofString "place", PySem.Str.ofString "around", PySem.Str.ofString "run"]
def q30 : List Str := [PySem.Str.ofString "runs"]
def d31 : DD := ⟨fun K => He.ga K (PySem.Str.ofString "_law_box"), PySem.Str.ofString "_law_box", PySem.Str.ofString "_law_box", defArgs (top 55), defBody (top 55), defScope (top 55)⟩
def n31 : List Str := [PySem.Str.ofString "script", PySem.Str.ofString "k", PySem.Str.ofString "own"]
def q31 : List Str := [PySem.Str.ofString "script", PySem.Str.ofString "k"]
def d32 : DD := ⟨fun K => He.ga K (PySem.Str.ofString "_law_take"), PySem.Str.ofString "_law_take", PySem.Str.ofString "_law_take", defArgs (top 56), defBody (top 56), defScope (top 56)⟩
def n32 : List Str := [PySem.Str.ofString "urn", PySem.Str.ofString "low", PySem.Str.ofString "once", PySem.Str.ofString "far", PySem.Str.ofString "twice", PySem.Str.ofString "drawn"]
def q32 : List Str := [PySem.Str.ofString "urn", PySem.Str.ofString "low"]
def d33 : DD := ⟨fun K => He.ga K (PySem.Str.ofString "_law_cells"), PySem.Str.ofString "_law_cells", PySem.Str.ofString "_law_cells", defArgs (top 57), defBody (top 57), defScope (top 57)⟩
def n33 : List Str := [PySem.Str.ofString "script", PySem.Str.ofString "roof", PySem.Str.ofString "found", PySem.Str.ofString "k", PySem.Str.ofString "own", PySem.Str.ofString "at"]
def q33 : List Str := [PySem.Str.ofString "script", PySem.Str.ofString "roof"]
def d34 : DD := ⟨fun K => He.ga K (PySem.Str.ofString "_law_of"), PySem.Str.ofString "_law_of", PySem.Str.ofString "_law_of", defArgs (top 58), defBody (top 58), defScope (top 58)⟩
def n34 : List Str := [PySem.Str.ofString "urn", PySem.Str.ofString "some"]
def q34 : List Str := [PySem.Str.ofString "urn", PySem.Str.ofString "some"]
def d35 : DD := ⟨fun K => He.ga K (PySem.Str.ofString "_law_same"), PySem.Str.ofString "_law_same", PySem.Str.ofString "_law_same", defArgs (top 59), defBody (top 59), defScope (top 59)⟩
def n35 : List Str := [PySem.Str.ofString "mine", PySem.Str.ofString "due", PySem.Str.ofString "near", PySem.Str.ofString "far"]
def q35 : List Str := [PySem.Str.ofString "mine", PySem.Str.ofString "due"]
def d36 : DD := ⟨fun K => He.ga K (PySem.Str.ofString "_law_lists"), PySem.Str.ofString "_law_lists", PySem.Str.ofString "_law_lists", defArgs (top 60), defBody (top 60), defScope (top 60)⟩
def n36 : List Str := [PySem.Str.ofString "matter", PySem.Str.ofString "own"]
def q36 : List Str := [PySem.Str.ofString "matter"]
def d37 : DD := ⟨fun K => He.ga K (PySem.Str.ofString "_law_soft"), PySem.Str.ofString "_law_soft", PySem.Str.ofString "_law_soft", defArgs (top 61), defBody (top 61), defScope (top 61)⟩
def n37 : List Str := [PySem.Str.ofString "urn", PySem.Str.ofString "matter"]
def q37 : List Str := [PySem.Str.ofString "urn", PySem.Str.ofString "matter"]
def d38 : DD := ⟨fun K => He.ga K (PySem.Str.ofString "_law_runs"), PySem.Str.ofString "_law_runs", PySem.Str.ofString "_law_runs", defArgs (top 62), defBody (top 62), defScope (top 62)⟩
def n38 : List Str := [PySem.Str.ofString "urn", PySem.Str.ofString "most", PySem.Str.ofString "far", PySem.Str.ofString "had", PySem.Str.ofString "lap", PySem.Str.ofString "size"]
def q38 : List Str := [PySem.Str.ofString "urn", PySem.Str.ofString "most", PySem.Str.ofString "far"]
def d39 : DD := ⟨fun K => He.ga K (PySem.Str.ofString "_law_walk"), PySem.Str.ofString "_law_walk", PySem.Str.ofString "_law_walk", defArgs (top 63), defBody (top 63), defScope (top 63)⟩
def n39 : List Str := [PySem.Str.ofString "runs", PySem.Str.ofString "butt", PySem.Str.ofString "first", PySem.Str.ofString "run", PySem.Str.ofString "now", PySem.Str.ofString "had", PySem.Str.ofString "goal"]
def q39 : List Str := [PySem.Str.ofString "runs", PySem.Str.ofString "butt", PySem.Str.ofString "first"]
def d40 : DD := ⟨fun K => He.ga K (PySem.Str.ofString "_law_behind"), PySem.Str.ofString "_law_behind", PySem.Str.ofString "_law_behind", defArgs (top 64), defBody (top 64), defScope (top 64)⟩
def n40 : List Str := [PySem.Str.ofString "runs", PySem.Str.ofString "butt", PySem.Str.ofString "first", PySem.Str.ofString "had", PySem.Str.ofString "own"]
def q40 : List Str := [PySem.Str.ofString "runs", PySem.Str.ofString "butt", PySem.Str.ofString "first"]
def d41 : DD := ⟨fun K => He.ga K (PySem.Str.ofString "_law_long"), PySem.Str.ofString "_law_long", PySem.Str.ofString "_law_long", defArgs (top 65), defBody (top 65), defScope (top 65)⟩
def n41 : List Str := [PySem.Str.ofString "runs", PySem.Str.ofString "butt", PySem.Str.ofString "level", PySem.Str.ofString "lap", PySem.Str.ofString "last", PySem.Str.ofString "dear", PySem.Str.ofString "waste"]
def q41 : List Str := [PySem.Str.ofString "runs", PySem.Str.ofString "butt"]
def d42 : DD := ⟨fun K => He.ga K (PySem.Str.ofString "_law_part_walk"), PySem.Str.ofString "_law_part_walk", PySem.Str.ofString "_law_part_walk", defArgs (top 66), defBody (top 66), defScope (top 66)⟩
def n42 : List Str := [PySem.Str.ofString "part", PySem.Str.ofString "butt", PySem.Str.ofString "level", PySem.Str.ofString "middle_v", PySem.Str.ofString "need", PySem.Str.ofString "room", PySem.Str.ofString "low", PySem.Str.ofString "more", PySem.Str.ofString "over"]
def q42 : List Str := [PySem.Str.ofString "part", PySem.Str.ofString "butt", PySem.Str.ofString "level"]
def d43 : DD := ⟨fun K => He.ga K (PySem.Str.ofString "_law_row_walk"), PySem.Str.ofString "_law_row_walk", PySem.Str.ofString "_law_row_walk", defArgs (top 67), defBody (top 67), defScope (top 67)⟩
def n43 : List Str := [PySem.Str.ofString "runs", PySem.Str.ofString "butt", PySem.Str.ofString "level", PySem.Str.ofString "had", PySem.Str.ofString "now", PySem.Str.ofString "bought_so", PySem.Str.ofString "spilled_so"]
def q43 : List Str := [PySem.Str.ofString "runs", PySem.Str.ofString "butt", PySem.Str.ofString "level"]
def d44 : DD := ⟨fun K => He.ga K (PySem.Str.ofString "_law_is_part"), PySem.Str.ofString "_law_is_part", PySem.Str.ofString "_law_is_part", defArgs (top 68), defBody (top 68), defScope (top 68)⟩
def n44 : List Str := [PySem.Str.ofString "butt", PySem.Str.ofString "part", PySem.Str.ofString "need", PySem.Str.ofString "room", PySem.Str.ofString "low", PySem.Str.ofString "more", PySem.Str.ofString "over"]
def q44 : List Str := [PySem.Str.ofString "butt", PySem.Str.ofString "part"]
def d45 : DD := ⟨fun K => He.ga K (PySem.Str.ofString "_law_row"), PySem.Str.ofString "_law_row", PySem.Str.ofString "_law_row", defArgs (top 69), defBody (top 69), defScope (top 69)⟩
def n45 : List Str := [PySem.Str.ofString "urn", PySem.Str.ofString "most"]
def q45 : List Str := [PySem.Str.ofString "urn", PySem.Str.ofString "most"]
def d46 : DD := ⟨fun K => He.ga K (PySem.Str.ofString "law"), PySem.Str.ofString "law", PySem.Str.ofString "law", defArgs (top 70), defBody (top 70), defScope (top 70)⟩
def n46 : List Str := [PySem.Str.ofString "script", PySem.Str.ofString "urn", PySem.Str.ofString "turn", PySem.Str.ofString "got", PySem.Str.ofString "lap", PySem.Str.ofString "number", PySem.Str.ofString "stands", PySem.Str.ofString "begun", PySem.Str.ofString "end", PySem.Str.ofString "due", PySem.Str.ofString "alone", PySem.Str.ofString "dry", PySem.Str.ofString "wet", PySem.Str.ofString "mine", PySem.Str.ofString "theirs", PySem.Str.ofString "butt", PySem.Str.ofString "one", PySem.Str.ofString "other", PySem.Str.ofString "near", PySem.Str.ofString "far", PySem.Str.ofString "runs", PySem.Str.ofString "part", PySem.Str.ofString "some", PySem.Str.ofString "good", PySem.Str.ofString "year", PySem.Str.ofString "first", PySem.Str.ofString "walk", PySem.Str.ofString "level", PySem.Str.ofString "whole", PySem.Str.ofString "own", PySem.Str.ofString "many", PySem.Str.ofString "rest", PySem.Str.ofString "made", PySem.Str.ofString "level_so", PySem.Str.ofString "k", PySem.Str.ofString "run"]
def q46 : List Str := [PySem.Str.ofString "script"]
def d47 : DD := ⟨fun K => gAd K (PySem.Str.ofString "Year") (PySem.Str.ofString "heap"), PySem.Str.ofString "heap", PySem.Str.ofString "Year.heap", defArgs (met 50 9), defBody (met 50 9), defScope (met 50 9)⟩
def n47 : List Str := [PySem.Str.ofString "self"]
def q47 : List Str := [PySem.Str.ofString "self"]
def d48 : DD := ⟨fun K => gAd K (PySem.Str.ofString "Year") (PySem.Str.ofString "swings"), PySem.Str.ofString "swings", PySem.Str.ofString "Year.swings", defArgs (met 50 8), defBody (met 50 8), defScope (met 50 8)⟩
def n48 : List Str := [PySem.Str.ofString "self"]
def q48 : List Str := [PySem.Str.ofString "self"]
def d49 : DD := ⟨fun K => gAd K (PySem.Str.ofString "Year") (PySem.Str.ofString "wants"), PySem.Str.ofString "wants", PySem.Str.ofString "Year.wants", defArgs (met 50 6), defBody (met 50 6), defScope (met 50 6)⟩
def n49 : List Str := [PySem.Str.ofString "self"]
def q49 : List Str := [PySem.Str.ofString "self"]
def d50 : DD := ⟨fun K => gAd K (PySem.Str.ofString "Year") (PySem.Str.ofString "draws"), PySem.Str.ofString "draws", PySem.Str.ofString "Year.draws", defArgs (met 50 5), defBody (met 50 5), defScope (met 50 5)⟩
def n50 : List Str := [PySem.Str.ofString "self", PySem.Str.ofString "run"]
def q50 : List Str := [PySem.Str.ofString "self"]
def d51 : DD := ⟨fun K => gAd K (PySem.Str.ofString "Year") (PySem.Str.ofString "rain"), PySem.Str.ofString "rain", PySem.Str.ofString "Year.rain", defArgs (met 50 4), defBody (met 50 4), defScope (met 50 4)⟩
def n51 : List Str := [PySem.Str.ofString "self", PySem.Str.ofString "run"]
def q51 : List Str := [PySem.Str.ofString "self"]
def d52 : DD := ⟨fun K => gAd K (PySem.Str.ofString "Year") (PySem.Str.ofString "runs"), PySem.Str.ofString "runs", PySem.Str.ofString "Year.runs", defArgs (met 50 3), defBody (met 50 3), defScope (met 50 3)⟩
def n52 : List Str := [PySem.Str.ofString "self"]
def q52 : List Str := [PySem.Str.ofString "self"]
def d53 : DD := ⟨fun K => gAd K (PySem.Str.ofString "Year") (PySem.Str.ofString "spare"), PySem.Str.ofString "spare", PySem.Str.ofString "Year.spare", defArgs (met 50 7), defBody (met 50 7), defScope (met 50 7)⟩
def n53 : List Str := [PySem.Str.ofString "self"]
def q53 : List Str := [PySem.Str.ofString "self"]
def dY : DD := ⟨fun K => He.ma K (He.ga K (PySem.Str.ofString "Year")) "__init__", "__init__", PySem.Str.ofString "Year.__init__", defArgs (met 50 1), defBody (met 50 1), defScope (met 50 1)⟩
def fn : List DD := [d0, d1, d2, d3, d4, d5, d6, d7, d8, d9, d10, d11, d12, d13, d14, d15, d16, d17, d18, d19, d20, d21, d22, d23, d24, d25, d26, d27, d28, d29, d30, d31, d32, d33, d34, d35, d36, d37, d38, d39, d40, d41, d42, d43, d44, d45, d46, d47, d48, d49, d50, d51, d52, d53, dY]
def fnL : List (Str × Nat × List Nat) := [(PySem.Str.ofString "is_number", 0, []), (PySem.Str.ofString "is_count", 1, []), (PySem.Str.ofString "run_part", 2, []), (PySem.Str.ofString "middle", 3, []), (PySem.Str.ofString "then", 4, []), (PySem.Str.ofString "part_of", 5, []), (PySem.Str.ofString "times", 6, []), (PySem.Str.ofString "is_part", 7, []), (PySem.Str.ofString "through", 8, []), (PySem.Str.ofString "runs_for", 9, []), (PySem.Str.ofString "least_first", 10, []), (PySem.Str.ofString "most_first", 11, []), (PySem.Str.ofString "far_part", 12, []), (PySem.Str.ofString "level_on", 13, []), (PySem.Str.ofString "bought_by", 14, []), (PySem.Str.ofString "spilled_by", 15, []), (PySem.Str.ofString "bought_by_heap", 16, []), (PySem.Str.ofString "bought", 17, []), (PySem.Str.ofString "spilled", 18, []), (PySem.Str.ofString "rests", 19, []), (PySem.Str.ofString "is_level", 20, []), (PySem.Str.ofString "after_run", 21, []), (PySem.Str.ofString "walked_runs", 22, []), (PySem.Str.ofString "walked", 23, []), (PySem.Str.ofString "levels", 24, []), (PySem.Str.ofString "level_after", 25, []), (PySem.Str.ofString "bought_in", 26, []), (PySem.Str.ofString "spilled_in", 27, []), (PySem.Str.ofString "is_turn", 28, []), (PySem.Str.ofString "ring_of", 29, []), (PySem.Str.ofString "swings_of", 30, []), (PySem.Str.ofString "_law_box", 31, []), (PySem.Str.ofString "_law_take", 32, [0]), (PySem.Str.ofString "_law_cells", 33, []), (PySem.Str.ofString "_law_of", 34, [0]), (PySem.Str.ofString "_law_same", 35, []), (PySem.Str.ofString "_law_lists", 36, []), (PySem.Str.ofString "_law_soft", 37, [0]), (PySem.Str.ofString "_law_runs", 38, [0]), (PySem.Str.ofString "_law_walk", 39, []), (PySem.Str.ofString "_law_behind", 40, []), (PySem.Str.ofString "_law_long", 41, []), (PySem.Str.ofString "_law_part_walk", 42, []), (PySem.Str.ofString "_law_row_walk", 43, []), (PySem.Str.ofString "_law_is_part", 44, []), (PySem.Str.ofString "_law_row", 45, [0]), (PySem.Str.ofString "law", 46, []), (PySem.Str.ofString "Year", 54, [])]
def bltL : List Str := [PySem.Str.ofString "len", PySem.Str.ofString "sum", PySem.Str.ofString "max", PySem.Str.ofString "min", PySem.Str.ofString "abs", PySem.Str.ofString "int", PySem.Str.ofString "tuple", PySem.Str.ofString "list", PySem.Str.ofString "sorted", PySem.Str.ofString "all", PySem.Str.ofString "range", PySem.Str.ofString "zip", PySem.Str.ofString "enumerate", PySem.Str.ofString "isinstance", PySem.Str.ofString "bool", PySem.Str.ofString "str"]
def cstL : List (Str × Int) := [(PySem.Str.ofString "FIELDS", 5), (PySem.Str.ofString "PAIR", 2)]
def I0 : Info := { N := [], sc := { kind := .function, names := [], isGenerator := false, isCoroutine := false }, fn := fun x => (fnL.find? fun y => y.1 == x).map (·.2), cst := fun x => (cstL.find? fun y => y.1 == x).map fun y => .int y.2, blt := fun x => bltL.contains x, st := fun _ => true }
def fuel : Nat := 40
def fdOf (N ps : List Str) (d : DD) : Fd := { names := N.length, pars := ps.length, body := seqW (compS fuel (infoOf I0 N d.scope)) d.body }
def ptL : List Fd := [fdOf n0 q0 d0, fdOf n1 q1 d1, fdOf n2 q2 d2, fdOf n3 q3 d3, fdOf n4 q4 d4, fdOf n5 q5 d5, fdOf n6 q6 d6, fdOf n7 q7 d7, fdOf n8 q8 d8, fdOf n9 q9 d9, fdOf n10 q10 d10, fdOf n11 q11 d11, fdOf n12 q12 d12, fdOf n13 q13 d13, fdOf n14 q14 d14, fdOf n15 q15 d15, fdOf n16 q16 d16, fdOf n17 q17 d17, fdOf n18 q18 d18, fdOf n19 q19 d19, fdOf n20 q20 d20, fdOf n21 q21 d21, fdOf n22 q22 d22, fdOf n23 q23 d23, fdOf n24 q24 d24, fdOf n25 q25 d25, fdOf n26 q26 d26, fdOf n27 q27 d27, fdOf n28 q28 d28, fdOf n29 q29 d29, fdOf n30 q30 d30, fdOf n31 q31 d31, fdOf n32 q32 d32, fdOf n33 q33 d33, fdOf n34 q34 d34, fdOf n35 q35 d35, fdOf n36 q36 d36, fdOf n37 q37 d37, fdOf n38 q38 d38, fdOf n39 q39 d39, fdOf n40 q40 d40, fdOf n41 q41 d41, fdOf n42 q42 d42, fdOf n43 q43 d43, fdOf n44 q44 d44, fdOf n45 q45 d45, fdOf n46 q46 d46, fdOf n47 q47 d47, fdOf n48 q48 d48, fdOf n49 q49 d49, fdOf n50 q50 d50, fdOf n51 q51 d51, fdOf n52 q52 d52, fdOf n53 q53 d53, { names := 0, pars := 1, body := .skip, year := some (0, 30) }]
def Pt (g : Nat) : Option Fd := ptL[g]?
def prL : List (Str × Nat) := [(PySem.Str.ofString "heap", 47), (PySem.Str.ofString "swings", 48), (PySem.Str.ofString "wants", 49), (PySem.Str.ofString "draws", 50), (PySem.Str.ofString "rain", 51), (PySem.Str.ofString "runs", 52), (PySem.Str.ofString "spare", 53)]
def T0 : Tab := { field := fun c f => if c == 0 then (if f == PySem.Str.ofString "own_runs" then some 0 else if f == PySem.Str.ofString "own_swings" then some 1 else none) else none, prop := fun c f => if c == 0 then (prL.find? fun y => y.1 == f).map (·.2) else none }
/-- what is looked for of the top -/
def slB (K : PySem.W.Frag) (C : Addr) (f : Str) (i : Nat) : Bool := He.eqO (PySem.W.findIn K (.ref C) f) (some (some (.ref (He.ma K C f)))) && He.eqO (PySem.W.specialIn K (.ref (He.ma K C f)) "__get__") (some (some (.builtin "member_descriptor.__get__"))) &&
  decide (PySem.W.takesIn K (.ref (He.ma K C f)) = some true) && decide (PySem.W.typeIn K (.ref (He.ma K C f)) = some (.type "member_descriptor")) && decide (PySem.W.slotIn K (He.ma K C f) C = some i)
def prB (K : PySem.W.Frag) (C : Addr) (f : Str) (g : Addr) : Bool := He.eqO (PySem.W.findIn K (.ref C) f) (some (some (.ref (He.ma K C f)))) && He.eqO (PySem.W.specialIn K (.ref (He.ma K C f)) "__get__") (some (some (.builtin "property.__get__"))) &&
  decide (PySem.W.takesIn K (.ref (He.ma K C f)) = some true) && (match PySem.W.recIn K (He.ma K C f) "property" with
  | some (.ref h :: _) => decide (h = g)
  | _ => false)
def clB (K : PySem.W.Frag) (C : Addr) : Bool := PySem.W.plainGet K C Str.empty && PySem.W.isClsIn K C && PySem.W.plainOver K C && He.eqO (PySem.W.findIn K (.ref C) "__setattr__") (some (some (.builtin "object.__setattr__")))
def chk (K : PySem.W.Frag) : Bool := (fnL.all fun y => (He.Fa.glo y.1).ok K) && (bltL.all fun x => (He.Fa.free x).ok K) && (cstL.all fun y => (He.Fa.int y.1 y.2).ok K) && clB K (He.ga K (PySem.Str.ofString "Year")) && slB K (He.ga K (PySem.Str.ofString "Year")) (PySem.Str.ofString "own_runs") 0 && slB K (He.ga K (PySem.Str.ofString "Year")) (PySem.Str.ofString "own_swings") 1 && (He.Fa.mkr (PySem.Str.ofString "Year")).ok K && (prL.all fun y => prB K (He.ga K (PySem.Str.ofString "Year")) y.1 (gAd K (PySem.Str.ofString "Year") y.1))
abbrev hk : PySem.W.Hook := hookX 6 chk fn
def ob (s : PySem.W.SharedT) : AlX := obsXG 6 chk fn (HandSHeadRun.getT s)
theorem ob_eq (s : PySem.W.SharedT) : ob s = hk.obs s.abs := obsXG_eq (HandSHeadRun.getT_eq s)
def lo0 : List Str := [PySem.Str.ofString "DIGITS", PySem.Str.ofString "is_number", PySem.Str.ofString "is_count", PySem.Str.ofString "number_in", PySem.Str.ofString "FIELDS", PySem.Str.ofString "run_part", PySem.Str.ofString "middle", PySem.Str.ofString "then", PySem.Str.ofString "part_of", PySem.Str.ofString "times", PySem.Str.ofString "is_part", PySem.Str.ofString "through", PySem.Str.ofString "runs_for", PySem.Str.ofString "least_first", PySem.Str.ofString "most_first", PySem.Str.ofString "far_part", PySem.Str.ofString "level_on", PySem.Str.ofString "bought_by", PySem.Str.ofString "spilled_by", PySem.Str.ofString "bought_by_heap", PySem.Str.ofString "bought", PySem.Str.ofString "spilled", PySem.Str.ofString "rests", PySem.Str.ofString "ButtError", PySem.Str.ofString "BadRun", PySem.Str.ofString "BadText", PySem.Str.ofString "BLANK", PySem.Str.ofString "SIGNS", PySem.Str.ofString "run_text", PySem.Str.ofString "runs_text", PySem.Str.ofString "run_in", PySem.Str.ofString "runs_from", PySem.Str.ofString "is_level", PySem.Str.ofString "after_run", PySem.Str.ofString "walked_runs"]
def lo1 : List Str := [PySem.Str.ofString "walked", PySem.Str.ofString "levels", PySem.Str.ofString "level_after", PySem.Str.ofString "bought_in", PySem.Str.ofString "spilled_in", PySem.Str.ofString "MOST_RUNS", PySem.Str.ofString "PAIR", PySem.Str.ofString "Year", PySem.Str.ofString "is_turn", PySem.Str.ofString "ring_of", PySem.Str.ofString "swings_of", PySem.Str.ofString "_law_box", PySem.Str.ofString "_law_take", PySem.Str.ofString "_law_cells", PySem.Str.ofString "_law_of", PySem.Str.ofString "_law_same", PySem.Str.ofString "_law_lists", PySem.Str.ofString "_law_soft", PySem.Str.ofString "_law_runs", PySem.Str.ofString "_law_walk", PySem.Str.ofString "_law_behind", PySem.Str.ofString "_law_long", PySem.Str.ofString "_law_part_walk", PySem.Str.ofString "_law_row_walk", PySem.Str.ofString "_law_is_part", PySem.Str.ofString "_law_row"]
def lo : List Str := lo0 ++ lo1
theorem run (w : World) : HandSHeadRun.RunEq R qv hk ob 8000 lo w := by
  intro os
  kernel_rfl
section
variable {P : Program} {wd : World} {K : PySem.W.Frag} {h base : Heap} {mg : Str → Option Value}
abbrev Gk (K : PySem.W.Frag) : Gm := ⟨K, fun _ => He.ga K (PySem.Str.ofString "Year"), fun _ => []⟩
theorem and2 {a b : Bool} (h : (a && b) = true) : a = true ∧ b = true := Bool.and_eq_true_iff.mp h
theorem s0 : FnScope n0 q0 d0.scope := scB_ok (by decide +kernel)
theorem f0 (c : SaysX chk fn K) : ∃ fd, DefAt K Pt I0 0 (d0.ad K) fd q0 ∧ PySem.W.keepIn K (.ref (d0.ad K)) = true ∧ Binds K fd q0 [] := by
  obtain ⟨fd, F⟩ := c.def_ 0 (d := d0) rfl
  exact ⟨fd, defAt_of (n := fuel) F s0 rfl, F.kp, F.bindsN fun _ _ _ _ _ _ us hl => match us, hl with | [_], _ => rfl⟩
theorem s1 : FnScope n1 q1 d1.scope := scB_ok (by decide +kernel)
theorem f1 (c : SaysX chk fn K) : ∃ fd, DefAt K Pt I0 1 (d1.ad K) fd q1 ∧ PySem.W.keepIn K (.ref (d1.ad K)) = true ∧ Binds K fd q1 [] := by
  obtain ⟨fd, F⟩ := c.def_ 1 (d := d1) rfl
  exact ⟨fd, defAt_of (n := fuel) F s1 rfl, F.kp, F.bindsN fun _ _ _ _ _ _ us hl => match us, hl with | [_], _ => rfl⟩
theorem s2 : FnScope n2 q2 d2.scope := scB_ok (by decide +kernel)
theorem f2 (c : SaysX chk fn K) : ∃ fd, DefAt K Pt I0 2 (d2.ad K) fd q2 ∧ PySem.W.keepIn K (.ref (d2.ad K)) = true ∧ Binds K fd q2 [] := by
  obtain ⟨fd, F⟩ := c.def_ 2 (d := d2) rfl
  exact ⟨fd, defAt_of (n := fuel) F s2 rfl, F.kp, F.bindsN fun _ _ _ _ _ _ us hl => match us, hl with | [_, _], _ => rfl⟩
theorem s3 : FnScope n3 q3 d3.scope := scB_ok (by decide +kernel)
theorem f3 (c : SaysX chk fn K) : ∃ fd, DefAt K Pt I0 3 (d3.ad K) fd q3 ∧ PySem.W.keepIn K (.ref (d3.ad K)) = true ∧ Binds K fd q3 [] := by
  obtain ⟨fd, F⟩ := c.def_ 3 (d := d3) rfl
  exact ⟨fd, defAt_of (n := fuel) F s3 rfl, F.kp, F.bindsN fun _ _ _ _ _ _ us hl => match us, hl with | [_, _, _], _ => rfl⟩
theorem s4 : FnScope n4 q4 d4.scope := scB_ok (by decide +kernel)
theorem f4 (c : SaysX chk fn K) : ∃ fd, DefAt K Pt I0 4 (d4.ad K) fd q4 ∧ PySem.W.keepIn K (.ref (d4.ad K)) = true ∧ Binds K fd q4 [] := by
  obtain ⟨fd, F⟩ := c.def_ 4 (d := d4) rfl
  exact ⟨fd, defAt_of (n := fuel) F s4 rfl, F.kp, F.bindsN fun _ _ _ _ _ _ us hl => match us, hl with | [_, _], _ => rfl⟩
theorem s5 : FnScope n5 q5 d5.scope := scB_ok (by decide +kernel)
theorem f5 (c : SaysX chk fn K) : ∃ fd, DefAt K Pt I0 5 (d5.ad K) fd q5 ∧ PySem.W.keepIn K (.ref (d5.ad K)) = true ∧ Binds K fd q5 [] := by
  obtain ⟨fd, F⟩ := c.def_ 5 (d := d5) rfl
  exact ⟨fd, defAt_of (n := fuel) F s5 rfl, F.kp, F.bindsN fun _ _ _ _ _ _ us hl => match us, hl with | [_, _], _ => rfl⟩
theorem s6 : FnScope n6 q6 d6.scope := scB_ok (by decide +kernel)
theorem f6 (c : SaysX chk fn K) : ∃ fd, DefAt K Pt I0 6 (d6.ad K) fd q6 ∧ PySem.W.keepIn K (.ref (d6.ad K)) = true ∧ Binds K fd q6 [] := by
  obtain ⟨fd, F⟩ := c.def_ 6 (d := d6) rfl
  exact ⟨fd, defAt_of (n := fuel) F s6 rfl, F.kp, F.bindsN fun _ _ _ _ _ _ us hl => match us, hl with | [_, _], _ => rfl⟩
theorem s7 : FnScope n7 q7 d7.scope := scB_ok (by decide +kernel)
theorem f7 (c : SaysX chk fn K) : ∃ fd, DefAt K Pt I0 7 (d7.ad K) fd q7 ∧ PySem.W.keepIn K (.ref (d7.ad K)) = true ∧ Binds K fd q7 [] := by
  obtain ⟨fd, F⟩ := c.def_ 7 (d := d7) rfl
  exact ⟨fd, defAt_of (n := fuel) F s7 rfl, F.kp, F.bindsN fun _ _ _ _ _ _ us hl => match us, hl with | [_, _], _ => rfl⟩
theorem s8 : FnScope n8 q8 d8.scope := scB_ok (by decide +kernel)
theorem f8 (c : SaysX chk fn K) : ∃ fd, DefAt K Pt I0 8 (d8.ad K) fd q8 ∧ PySem.W.keepIn K (.ref (d8.ad K)) = true ∧ Binds K fd q8 [] := by
  obtain ⟨fd, F⟩ := c.def_ 8 (d := d8) rfl
  exact ⟨fd, defAt_of (n := fuel) F s8 rfl, F.kp, F.bindsN fun _ _ _ _ _ _ us hl => match us, hl with | [_, _], _ => rfl⟩
theorem s9 : FnScope n9 q9 d9.scope := scB_ok (by decide +kernel)
theorem f9 (c : SaysX chk fn K) : ∃ fd, DefAt K Pt I0 9 (d9.ad K) fd q9 ∧ PySem.W.keepIn K (.ref (d9.ad K)) = true ∧ Binds K fd q9 [] := by
  obtain ⟨fd, F⟩ := c.def_ 9 (d := d9) rfl
  exact ⟨fd, defAt_of (n := fuel) F s9 rfl, F.kp, F.bindsN fun _ _ _ _ _ _ us hl => match us, hl with | [_, _], _ => rfl⟩
theorem s10 : FnScope n10 q10 d10.scope := scB_ok (by decide +kernel)
theorem f10 (c : SaysX chk fn K) : ∃ fd, DefAt K Pt I0 10 (d10.ad K) fd q10 ∧ PySem.W.keepIn K (.ref (d10.ad K)) = true ∧ Binds K fd q10 [] := by
  obtain ⟨fd, F⟩ := c.def_ 10 (d := d10) rfl
  exact ⟨fd, defAt_of (n := fuel) F s10 rfl, F.kp, F.bindsN fun _ _ _ _ _ _ us hl => match us, hl with | [_, _], _ => rfl⟩
theorem s11 : FnScope n11 q11 d11.scope := scB_ok (by decide +kernel)
theorem f11 (c : SaysX chk fn K) : ∃ fd, DefAt K Pt I0 11 (d11.ad K) fd q11 ∧ PySem.W.keepIn K (.ref (d11.ad K)) = true ∧ Binds K fd q11 [] := by
  obtain ⟨fd, F⟩ := c.def_ 11 (d := d11) rfl
  exact ⟨fd, defAt_of (n := fuel) F s11 rfl, F.kp, F.bindsN fun _ _ _ _ _ _ us hl => match us, hl with | [_, _], _ => rfl⟩
theorem s12 : FnScope n12 q12 d12.scope := scB_ok (by decide +kernel)
theorem f12 (c : SaysX chk fn K) : ∃ fd, DefAt K Pt I0 12 (d12.ad K) fd q12 ∧ PySem.W.keepIn K (.ref (d12.ad K)) = true ∧ Binds K fd q12 [] := by
  obtain ⟨fd, F⟩ := c.def_ 12 (d := d12) rfl
  exact ⟨fd, defAt_of (n := fuel) F s12 rfl, F.kp, F.bindsN fun _ _ _ _ _ _ us hl => match us, hl with | [_, _, _], _ => rfl⟩
theorem s13 : FnScope n13 q13 d13.scope := scB_ok (by decide +kernel)
theorem f13 (c : SaysX chk fn K) : ∃ fd, DefAt K Pt I0 13 (d13.ad K) fd q13 ∧ PySem.W.keepIn K (.ref (d13.ad K)) = true ∧ Binds K fd q13 [] := by
  obtain ⟨fd, F⟩ := c.def_ 13 (d := d13) rfl
  exact ⟨fd, defAt_of (n := fuel) F s13 rfl, F.kp, F.bindsN fun _ _ _ _ _ _ us hl => match us, hl with | [_, _, _, _], _ => rfl⟩
theorem s14 : FnScope n14 q14 d14.scope := scB_ok (by decide +kernel)
theorem f14 (c : SaysX chk fn K) : ∃ fd, DefAt K Pt I0 14 (d14.ad K) fd q14 ∧ PySem.W.keepIn K (.ref (d14.ad K)) = true ∧ Binds K fd q14 [] := by
  obtain ⟨fd, F⟩ := c.def_ 14 (d := d14) rfl
  exact ⟨fd, defAt_of (n := fuel) F s14 rfl, F.kp, F.bindsN fun _ _ _ _ _ _ us hl => match us, hl with | [_, _, _, _], _ => rfl⟩
theorem s15 : FnScope n15 q15 d15.scope := scB_ok (by decide +kernel)
theorem f15 (c : SaysX chk fn K) : ∃ fd, DefAt K Pt I0 15 (d15.ad K) fd q15 ∧ PySem.W.keepIn K (.ref (d15.ad K)) = true ∧ Binds K fd q15 [] := by
  obtain ⟨fd, F⟩ := c.def_ 15 (d := d15) rfl
  exact ⟨fd, defAt_of (n := fuel) F s15 rfl, F.kp, F.bindsN fun _ _ _ _ _ _ us hl => match us, hl with | [_, _, _, _], _ => rfl⟩
theorem s16 : FnScope n16 q16 d16.scope := scB_ok (by decide +kernel)
theorem f16 (c : SaysX chk fn K) : ∃ fd, DefAt K Pt I0 16 (d16.ad K) fd q16 ∧ PySem.W.keepIn K (.ref (d16.ad K)) = true ∧ Binds K fd q16 [] := by
  obtain ⟨fd, F⟩ := c.def_ 16 (d := d16) rfl
  exact ⟨fd, defAt_of (n := fuel) F s16 rfl, F.kp, F.bindsN fun _ _ _ _ _ _ us hl => match us, hl with | [_, _], _ => rfl⟩
theorem s17 : FnScope n17 q17 d17.scope := scB_ok (by decide +kernel)
theorem f17 (c : SaysX chk fn K) : ∃ fd, DefAt K Pt I0 17 (d17.ad K) fd q17 ∧ PySem.W.keepIn K (.ref (d17.ad K)) = true ∧ Binds K fd q17 [] := by
  obtain ⟨fd, F⟩ := c.def_ 17 (d := d17) rfl
  exact ⟨fd, defAt_of (n := fuel) F s17 rfl, F.kp, F.bindsN fun _ _ _ _ _ _ us hl => match us, hl with | [_, _], _ => rfl⟩
theorem s18 : FnScope n18 q18 d18.scope := scB_ok (by decide +kernel)
theorem f18 (c : SaysX chk fn K) : ∃ fd, DefAt K Pt I0 18 (d18.ad K) fd q18 ∧ PySem.W.keepIn K (.ref (d18.ad K)) = true ∧ Binds K fd q18 [] := by
  obtain ⟨fd, F⟩ := c.def_ 18 (d := d18) rfl
  exact ⟨fd, defAt_of (n := fuel) F s18 rfl, F.kp, F.bindsN fun _ _ _ _ _ _ us hl => match us, hl with | [_, _], _ => rfl⟩
theorem s19 : FnScope n19 q19 d19.scope := scB_ok (by decide +kernel)
theorem f19 (c : SaysX chk fn K) : ∃ fd, DefAt K Pt I0 19 (d19.ad K) fd q19 ∧ PySem.W.keepIn K (.ref (d19.ad K)) = true ∧ Binds K fd q19 [] := by
  obtain ⟨fd, F⟩ := c.def_ 19 (d := d19) rfl
  exact ⟨fd, defAt_of (n := fuel) F s19 rfl, F.kp, F.bindsN fun _ _ _ _ _ _ us hl => match us, hl with | [_, _], _ => rfl⟩
theorem s20 : FnScope n20 q20 d20.scope := scB_ok (by decide +kernel)
theorem f20 (c : SaysX chk fn K) : ∃ fd, DefAt K Pt I0 20 (d20.ad K) fd q20 ∧ PySem.W.keepIn K (.ref (d20.ad K)) = true ∧ Binds K fd q20 [] := by
  obtain ⟨fd, F⟩ := c.def_ 20 (d := d20) rfl
  exact ⟨fd, defAt_of (n := fuel) F s20 rfl, F.kp, F.bindsN fun _ _ _ _ _ _ us hl => match us, hl with | [_, _], _ => rfl⟩
theorem s21 : FnScope n21 q21 d21.scope := scB_ok (by decide +kernel)
theorem f21 (c : SaysX chk fn K) : ∃ fd, DefAt K Pt I0 21 (d21.ad K) fd q21 ∧ PySem.W.keepIn K (.ref (d21.ad K)) = true ∧ Binds K fd q21 [] := by
  obtain ⟨fd, F⟩ := c.def_ 21 (d := d21) rfl
  exact ⟨fd, defAt_of (n := fuel) F s21 rfl, F.kp, F.bindsN fun _ _ _ _ _ _ us hl => match us, hl with | [_, _, _], _ => rfl⟩
theorem s22 : FnScope n22 q22 d22.scope := scB_ok (by decide +kernel)
theorem f22 (c : SaysX chk fn K) : ∃ fd, DefAt K Pt I0 22 (d22.ad K) fd q22 ∧ PySem.W.keepIn K (.ref (d22.ad K)) = true ∧ Binds K fd q22 [] := by
  obtain ⟨fd, F⟩ := c.def_ 22 (d := d22) rfl
  exact ⟨fd, defAt_of (n := fuel) F s22 rfl, F.kp, F.bindsN fun _ _ _ _ _ _ us hl => match us, hl with | [_, _, _], _ => rfl⟩
theorem s23 : FnScope n23 q23 d23.scope := scB_ok (by decide +kernel)
theorem f23 (c : SaysX chk fn K) : ∃ fd, DefAt K Pt I0 23 (d23.ad K) fd q23 ∧ PySem.W.keepIn K (.ref (d23.ad K)) = true ∧ Binds K fd q23 [] := by
  obtain ⟨fd, F⟩ := c.def_ 23 (d := d23) rfl
  exact ⟨fd, defAt_of (n := fuel) F s23 rfl, F.kp, F.bindsN fun _ _ _ _ _ _ us hl => match us, hl with | [_, _, _], _ => rfl⟩
theorem s24 : FnScope n24 q24 d24.scope := scB_ok (by decide +kernel)
theorem f24 (c : SaysX chk fn K) : ∃ fd, DefAt K Pt I0 24 (d24.ad K) fd q24 ∧ PySem.W.keepIn K (.ref (d24.ad K)) = true ∧ Binds K fd q24 [] := by
  obtain ⟨fd, F⟩ := c.def_ 24 (d := d24) rfl
  exact ⟨fd, defAt_of (n := fuel) F s24 rfl, F.kp, F.bindsN fun _ _ _ _ _ _ us hl => match us, hl with | [_, _, _], _ => rfl⟩
theorem s25 : FnScope n25 q25 d25.scope := scB_ok (by decide +kernel)
theorem f25 (c : SaysX chk fn K) : ∃ fd, DefAt K Pt I0 25 (d25.ad K) fd q25 ∧ PySem.W.keepIn K (.ref (d25.ad K)) = true ∧ Binds K fd q25 [] := by
  obtain ⟨fd, F⟩ := c.def_ 25 (d := d25) rfl
  exact ⟨fd, defAt_of (n := fuel) F s25 rfl, F.kp, F.bindsN fun _ _ _ _ _ _ us hl => match us, hl with | [_, _, _], _ => rfl⟩
theorem s26 : FnScope n26 q26 d26.scope := scB_ok (by decide +kernel)
theorem f26 (c : SaysX chk fn K) : ∃ fd, DefAt K Pt I0 26 (d26.ad K) fd q26 ∧ PySem.W.keepIn K (.ref (d26.ad K)) = true ∧ Binds K fd q26 [] := by
  obtain ⟨fd, F⟩ := c.def_ 26 (d := d26) rfl
  exact ⟨fd, defAt_of (n := fuel) F s26 rfl, F.kp, F.bindsN fun _ _ _ _ _ _ us hl => match us, hl with | [_, _, _], _ => rfl⟩
theorem s27 : FnScope n27 q27 d27.scope := scB_ok (by decide +kernel)
theorem f27 (c : SaysX chk fn K) : ∃ fd, DefAt K Pt I0 27 (d27.ad K) fd q27 ∧ PySem.W.keepIn K (.ref (d27.ad K)) = true ∧ Binds K fd q27 [] := by
  obtain ⟨fd, F⟩ := c.def_ 27 (d := d27) rfl
  exact ⟨fd, defAt_of (n := fuel) F s27 rfl, F.kp, F.bindsN fun _ _ _ _ _ _ us hl => match us, hl with | [_, _, _], _ => rfl⟩
theorem s28 : FnScope n28 q28 d28.scope := scB_ok (by decide +kernel)
theorem f28 (c : SaysX chk fn K) : ∃ fd, DefAt K Pt I0 28 (d28.ad K) fd q28 ∧ PySem.W.keepIn K (.ref (d28.ad K)) = true ∧ Binds K fd q28 [] := by
  obtain ⟨fd, F⟩ := c.def_ 28 (d := d28) rfl
  exact ⟨fd, defAt_of (n := fuel) F s28 rfl, F.kp, F.bindsN fun _ _ _ _ _ _ us hl => match us, hl with | [_, _], _ => rfl⟩
theorem s29 : FnScope n29 q29 d29.scope := scB_ok (by decide +kernel)
theorem f29 (c : SaysX chk fn K) : ∃ fd, DefAt K Pt I0 29 (d29.ad K) fd q29 ∧ PySem.W.keepIn K (.ref (d29.ad K)) = true ∧ Binds K fd q29 [] := by
  obtain ⟨fd, F⟩ := c.def_ 29 (d := d29) rfl
  exact ⟨fd, defAt_of (n := fuel) F s29 rfl, F.kp, F.bindsN fun _ _ _ _ _ _ us hl => match us, hl with | [_], _ => rfl⟩
theorem s30 : FnScope n30 q30 d30.scope := scB_ok (by decide +kernel)
theorem f30 (c : SaysX chk fn K) : ∃ fd, DefAt K Pt I0 30 (d30.ad K) fd q30 ∧ PySem.W.keepIn K (.ref (d30.ad K)) = true ∧ Binds K fd q30 [] := by
  obtain ⟨fd, F⟩ := c.def_ 30 (d := d30) rfl
  exact ⟨fd, defAt_of (n := fuel) F s30 rfl, F.kp, F.bindsN fun _ _ _ _ _ _ us hl => match us, hl with | [_], _ => rfl⟩
theorem s31 : FnScope n31 q31 d31.scope := scB_ok (by decide +kernel)
theorem f31 (c : SaysX chk fn K) : ∃ fd, DefAt K Pt I0 31 (d31.ad K) fd q31 ∧ PySem.W.keepIn K (.ref (d31.ad K)) = true ∧ Binds K fd q31 [] := by
  obtain ⟨fd, F⟩ := c.def_ 31 (d := d31) rfl
  exact ⟨fd, defAt_of (n := fuel) F s31 rfl, F.kp, F.bindsN fun _ _ _ _ _ _ us hl => match us, hl with | [_, _], _ => rfl⟩
theorem s32 : FnScope n32 q32 d32.scope := scB_ok (by decide +kernel)
theorem f32 (c : SaysX chk fn K) : ∃ fd, DefAt K Pt I0 32 (d32.ad K) fd q32 ∧ PySem.W.keepIn K (.ref (d32.ad K)) = true ∧ Binds K fd q32 [] := by
  obtain ⟨fd, F⟩ := c.def_ 32 (d := d32) rfl
  exact ⟨fd, defAt_of (n := fuel) F s32 rfl, F.kp, F.bindsN fun _ _ _ _ _ _ us hl => match us, hl with | [_, _], _ => rfl⟩
theorem s33 : FnScope n33 q33 d33.scope := scB_ok (by decide +kernel)
theorem f33 (c : SaysX chk fn K) : ∃ fd, DefAt K Pt I0 33 (d33.ad K) fd q33 ∧ PySem.W.keepIn K (.ref (d33.ad K)) = true ∧ Binds K fd q33 [] := by
  obtain ⟨fd, F⟩ := c.def_ 33 (d := d33) rfl
  exact ⟨fd, defAt_of (n := fuel) F s33 rfl, F.kp, F.bindsN fun _ _ _ _ _ _ us hl => match us, hl with | [_, _], _ => rfl⟩
theorem s34 : FnScope n34 q34 d34.scope := scB_ok (by decide +kernel)
theorem f34 (c : SaysX chk fn K) : ∃ fd, DefAt K Pt I0 34 (d34.ad K) fd q34 ∧ PySem.W.keepIn K (.ref (d34.ad K)) = true ∧ Binds K fd q34 [] := by
  obtain ⟨fd, F⟩ := c.def_ 34 (d := d34) rfl
  exact ⟨fd, defAt_of (n := fuel) F s34 rfl, F.kp, F.bindsN fun _ _ _ _ _ _ us hl => match us, hl with | [_, _], _ => rfl⟩
theorem s35 : FnScope n35 q35 d35.scope := scB_ok (by decide +kernel)
theorem f35 (c : SaysX chk fn K) : ∃ fd, DefAt K Pt I0 35 (d35.ad K) fd q35 ∧ PySem.W.keepIn K (.ref (d35.ad K)) = true ∧ Binds K fd q35 [] := by
  obtain ⟨fd, F⟩ := c.def_ 35 (d := d35) rfl
  exact ⟨fd, defAt_of (n := fuel) F s35 rfl, F.kp, F.bindsN fun _ _ _ _ _ _ us hl => match us, hl with | [_, _], _ => rfl⟩
theorem s36 : FnScope n36 q36 d36.scope := scB_ok (by decide +kernel)
theorem f36 (c : SaysX chk fn K) : ∃ fd, DefAt K Pt I0 36 (d36.ad K) fd q36 ∧ PySem.W.keepIn K (.ref (d36.ad K)) = true ∧ Binds K fd q36 [] := by
  obtain ⟨fd, F⟩ := c.def_ 36 (d := d36) rfl
  exact ⟨fd, defAt_of (n := fuel) F s36 rfl, F.kp, F.bindsN fun _ _ _ _ _ _ us hl => match us, hl with | [_], _ => rfl⟩
theorem s37 : FnScope n37 q37 d37.scope := scB_ok (by decide +kernel)
theorem f37 (c : SaysX chk fn K) : ∃ fd, DefAt K Pt I0 37 (d37.ad K) fd q37 ∧ PySem.W.keepIn K (.ref (d37.ad K)) = true ∧ Binds K fd q37 [] := by
  obtain ⟨fd, F⟩ := c.def_ 37 (d := d37) rfl
  exact ⟨fd, defAt_of (n := fuel) F s37 rfl, F.kp, F.bindsN fun _ _ _ _ _ _ us hl => match us, hl with | [_, _], _ => rfl⟩
theorem s38 : FnScope n38 q38 d38.scope := scB_ok (by decide +kernel)
theorem f38 (c : SaysX chk fn K) : ∃ fd, DefAt K Pt I0 38 (d38.ad K) fd q38 ∧ PySem.W.keepIn K (.ref (d38.ad K)) = true ∧ Binds K fd q38 [] := by
  obtain ⟨fd, F⟩ := c.def_ 38 (d := d38) rfl
  exact ⟨fd, defAt_of (n := fuel) F s38 rfl, F.kp, F.bindsN fun _ _ _ _ _ _ us hl => match us, hl with | [_, _, _], _ => rfl⟩
theorem s39 : FnScope n39 q39 d39.scope := scB_ok (by decide +kernel)
theorem f39 (c : SaysX chk fn K) : ∃ fd, DefAt K Pt I0 39 (d39.ad K) fd q39 ∧ PySem.W.keepIn K (.ref (d39.ad K)) = true ∧ Binds K fd q39 [] := by
  obtain ⟨fd, F⟩ := c.def_ 39 (d := d39) rfl
  exact ⟨fd, defAt_of (n := fuel) F s39 rfl, F.kp, F.bindsN fun _ _ _ _ _ _ us hl => match us, hl with | [_, _, _], _ => rfl⟩
theorem s40 : FnScope n40 q40 d40.scope := scB_ok (by decide +kernel)
theorem f40 (c : SaysX chk fn K) : ∃ fd, DefAt K Pt I0 40 (d40.ad K) fd q40 ∧ PySem.W.keepIn K (.ref (d40.ad K)) = true ∧ Binds K fd q40 [] := by
  obtain ⟨fd, F⟩ := c.def_ 40 (d := d40) rfl
  exact ⟨fd, defAt_of (n := fuel) F s40 rfl, F.kp, F.bindsN fun _ _ _ _ _ _ us hl => match us, hl with | [_, _, _], _ => rfl⟩
theorem s41 : FnScope n41 q41 d41.scope := scB_ok (by decide +kernel)
theorem f41 (c : SaysX chk fn K) : ∃ fd, DefAt K Pt I0 41 (d41.ad K) fd q41 ∧ PySem.W.keepIn K (.ref (d41.ad K)) = true ∧ Binds K fd q41 [] := by
  obtain ⟨fd, F⟩ := c.def_ 41 (d := d41) rfl
  exact ⟨fd, defAt_of (n := fuel) F s41 rfl, F.kp, F.bindsN fun _ _ _ _ _ _ us hl => match us, hl with | [_, _], _ => rfl⟩
theorem s42 : FnScope n42 q42 d42.scope := scB_ok (by decide +kernel)
theorem f42 (c : SaysX chk fn K) : ∃ fd, DefAt K Pt I0 42 (d42.ad K) fd q42 ∧ PySem.W.keepIn K (.ref (d42.ad K)) = true ∧ Binds K fd q42 [] := by
  obtain ⟨fd, F⟩ := c.def_ 42 (d := d42) rfl
  exact ⟨fd, defAt_of (n := fuel) F s42 rfl, F.kp, F.bindsN fun _ _ _ _ _ _ us hl => match us, hl with | [_, _, _], _ => rfl⟩
theorem s43 : FnScope n43 q43 d43.scope := scB_ok (by decide +kernel)
theorem f43 (c : SaysX chk fn K) : ∃ fd, DefAt K Pt I0 43 (d43.ad K) fd q43 ∧ PySem.W.keepIn K (.ref (d43.ad K)) = true ∧ Binds K fd q43 [] := by
  obtain ⟨fd, F⟩ := c.def_ 43 (d := d43) rfl
  exact ⟨fd, defAt_of (n := fuel) F s43 rfl, F.kp, F.bindsN fun _ _ _ _ _ _ us hl => match us, hl with | [_, _, _], _ => rfl⟩
theorem s44 : FnScope n44 q44 d44.scope := scB_ok (by decide +kernel)
theorem f44 (c : SaysX chk fn K) : ∃ fd, DefAt K Pt I0 44 (d44.ad K) fd q44 ∧ PySem.W.keepIn K (.ref (d44.ad K)) = true ∧ Binds K fd q44 [] := by
  obtain ⟨fd, F⟩ := c.def_ 44 (d := d44) rfl
  exact ⟨fd, defAt_of (n := fuel) F s44 rfl, F.kp, F.bindsN fun _ _ _ _ _ _ us hl => match us, hl with | [_, _], _ => rfl⟩
theorem s45 : FnScope n45 q45 d45.scope := scB_ok (by decide +kernel)
theorem f45 (c : SaysX chk fn K) : ∃ fd, DefAt K Pt I0 45 (d45.ad K) fd q45 ∧ PySem.W.keepIn K (.ref (d45.ad K)) = true ∧ Binds K fd q45 [] := by
  obtain ⟨fd, F⟩ := c.def_ 45 (d := d45) rfl
  exact ⟨fd, defAt_of (n := fuel) F s45 rfl, F.kp, F.bindsN fun _ _ _ _ _ _ us hl => match us, hl with | [_, _], _ => rfl⟩
theorem s46 : FnScope n46 q46 d46.scope := scB_ok (by decide +kernel)
theorem f46 (c : SaysX chk fn K) : ∃ fd, DefAt K Pt I0 46 (d46.ad K) fd q46 ∧ PySem.W.keepIn K (.ref (d46.ad K)) = true ∧ Binds K fd q46 [] := by
  obtain ⟨fd, F⟩ := c.def_ 46 (d := d46) rfl
  exact ⟨fd, defAt_of (n := fuel) F s46 rfl, F.kp, F.bindsN fun _ _ _ _ _ _ us hl => match us, hl with | [_], _ => rfl⟩
theorem s47 : FnScope n47 q47 d47.scope := scB_ok (by decide +kernel)
theorem f47 (c : SaysX chk fn K) : ∃ fd, DefAt K Pt I0 47 (d47.ad K) fd q47 ∧ PySem.W.keepIn K (.ref (d47.ad K)) = true ∧ Binds K fd q47 [] := by
  obtain ⟨fd, F⟩ := c.def_ 47 (d := d47) rfl
  exact ⟨fd, defAt_of (n := fuel) F s47 rfl, F.kp, F.bindsN fun _ _ _ _ _ _ us hl => match us, hl with | [_], _ => rfl⟩
theorem s48 : FnScope n48 q48 d48.scope := scB_ok (by decide +kernel)
theorem f48 (c : SaysX chk fn K) : ∃ fd, DefAt K Pt I0 48 (d48.ad K) fd q48 ∧ PySem.W.keepIn K (.ref (d48.ad K)) = true ∧ Binds K fd q48 [] := by
  obtain ⟨fd, F⟩ := c.def_ 48 (d := d48) rfl
  exact ⟨fd, defAt_of (n := fuel) F s48 rfl, F.kp, F.bindsN fun _ _ _ _ _ _ us hl => match us, hl with | [_], _ => rfl⟩
theorem s49 : FnScope n49 q49 d49.scope := scB_ok (by decide +kernel)
theorem f49 (c : SaysX chk fn K) : ∃ fd, DefAt K Pt I0 49 (d49.ad K) fd q49 ∧ PySem.W.keepIn K (.ref (d49.ad K)) = true ∧ Binds K fd q49 [] := by
  obtain ⟨fd, F⟩ := c.def_ 49 (d := d49) rfl
  exact ⟨fd, defAt_of (n := fuel) F s49 rfl, F.kp, F.bindsN fun _ _ _ _ _ _ us hl => match us, hl with | [_], _ => rfl⟩
theorem s50 : FnScope n50 q50 d50.scope := scB_ok (by decide +kernel)
theorem f50 (c : SaysX chk fn K) : ∃ fd, DefAt K Pt I0 50 (d50.ad K) fd q50 ∧ PySem.W.keepIn K (.ref (d50.ad K)) = true ∧ Binds K fd q50 [] := by
  obtain ⟨fd, F⟩ := c.def_ 50 (d := d50) rfl
  exact ⟨fd, defAt_of (n := fuel) F s50 rfl, F.kp, F.bindsN fun _ _ _ _ _ _ us hl => match us, hl with | [_], _ => rfl⟩
theorem s51 : FnScope n51 q51 d51.scope := scB_ok (by decide +kernel)
theorem f51 (c : SaysX chk fn K) : ∃ fd, DefAt K Pt I0 51 (d51.ad K) fd q51 ∧ PySem.W.keepIn K (.ref (d51.ad K)) = true ∧ Binds K fd q51 [] := by
  obtain ⟨fd, F⟩ := c.def_ 51 (d := d51) rfl
  exact ⟨fd, defAt_of (n := fuel) F s51 rfl, F.kp, F.bindsN fun _ _ _ _ _ _ us hl => match us, hl with | [_], _ => rfl⟩
theorem s52 : FnScope n52 q52 d52.scope := scB_ok (by decide +kernel)
theorem f52 (c : SaysX chk fn K) : ∃ fd, DefAt K Pt I0 52 (d52.ad K) fd q52 ∧ PySem.W.keepIn K (.ref (d52.ad K)) = true ∧ Binds K fd q52 [] := by
  obtain ⟨fd, F⟩ := c.def_ 52 (d := d52) rfl
  exact ⟨fd, defAt_of (n := fuel) F s52 rfl, F.kp, F.bindsN fun _ _ _ _ _ _ us hl => match us, hl with | [_], _ => rfl⟩
theorem s53 : FnScope n53 q53 d53.scope := scB_ok (by decide +kernel)
theorem f53 (c : SaysX chk fn K) : ∃ fd, DefAt K Pt I0 53 (d53.ad K) fd q53 ∧ PySem.W.keepIn K (.ref (d53.ad K)) = true ∧ Binds K fd q53 [] := by
  obtain ⟨fd, F⟩ := c.def_ 53 (d := d53) rfl
  exact ⟨fd, defAt_of (n := fuel) F s53 rfl, F.kp, F.bindsN fun _ _ _ _ _ _ us hl => match us, hl with | [_], _ => rfl⟩
theorem cl_ok {C : Addr} (h : clB K C = true) : SlX.SCls K C := by
  obtain ⟨h, h4⟩ := and2 h
  obtain ⟨h, h3⟩ := and2 h
  obtain ⟨h1, h2⟩ := and2 h
  exact ⟨h1, h2, h3, He.eqO_ok h4⟩
theorem sl_ok {C : Addr} {f : Str} {i : Nat} (hi : i < 1000) (h : slB K C f i = true) : SlX.Slot1 K C f (He.ma K C f) i := by
  obtain ⟨h, h5⟩ := and2 h
  obtain ⟨h, h4⟩ := and2 h
  obtain ⟨h, h3⟩ := and2 h
  obtain ⟨h1, h2⟩ := and2 h
  exact ⟨He.eqO_ok h1, He.eqO_ok h2, of_decide_eq_true h3, of_decide_eq_true h4, of_decide_eq_true h5, hi⟩
theorem pr_ok {C g : Addr} {f : Str} (h : prB K C f g = true) : PySem.W.findIn K (.ref C) f = some (some (.ref (He.ma K C f))) ∧ PySem.W.specialIn K (.ref (He.ma K C f)) "__get__" = some (some (.builtin "property.__get__")) ∧ PySem.W.takesIn K (.ref (He.ma K C f)) = some true ∧
    ∃ rest, PySem.W.recIn K (He.ma K C f) "property" = some (.ref g :: rest) := by
  obtain ⟨h, h4⟩ := and2 h
  obtain ⟨h, h3⟩ := and2 h
  obtain ⟨h1, h2⟩ := and2 h
  refine ⟨He.eqO_ok h1, He.eqO_ok h2, of_decide_eq_true h3, ?_⟩
  split at h4
  · rename_i a r e
    cases of_decide_eq_true h4
    exact ⟨r, e⟩
  · cases h4
theorem yb : ∃ a1 a2 a3 a4 a5 a6 b1 b2 b3 b4 b5 b6 b7 b9 b10 c1 c2 c3 c4 c5 c6 c7 d1 d3 d4 kk d2 rs, dY.body = initBody a1 a2 a3 a4 a5 a6 b1 b2 b3 b4 b5 b6 b7 b9 b10 c1 c2 c3 c4 c5 c6 c7 d1 d3 d4 kk d2 rs := ⟨_, _, _, _, _, _, _, _, _, _, _, _, _, _, _, _, _, _, _, _, _, _, _, _, _, _, _, _, rfl⟩
theorem sY : FnScope initN ["self", "runs"] dY.scope := scB_ok (by decide +kernel)
theorem fY (KX : K.In h) (Gm : h.Ns mainGlobals mg) (c : SaysX chk fn K) : ∃ fd, L2.Mk K (He.ga K (PySem.Str.ofString "Year")) (dY.ad K) ∧ Binds K fd ["self", "runs"] [] ∧ ∃ ad fds pss, DefAt K Pt I0 30 ad fds pss ∧
    ∀ (w k : Nat), FnOk P wd K mg base (L2.CX P wd) (2 * k) ad fds pss (spF (Gk K) (callF T0 Pt w k) 30) → FnOk P wd K mg base (L2.CX P wd) (2 * k + 1) (dY.ad K) fd ["self", "runs"] (spI (Gk K) (callF T0 Pt w (k + 1)) (He.ga K (PySem.Str.ofString "Year")) 54) := by
  obtain ⟨fd, F⟩ := c.def_ 54 (d := dY) rfl
  obtain ⟨fds, hd, hk, hb⟩ := f30 c
  have ck := c.chk_
  unfold chk at ck
  obtain ⟨ck, k8⟩ := and2 ck
  obtain ⟨ck, k7⟩ := and2 ck
  obtain ⟨ck, k6⟩ := and2 ck
  obtain ⟨ck, k5⟩ := and2 ck
  obtain ⟨ck, k4⟩ := and2 ck
  obtain ⟨ck, k3⟩ := and2 ck
  obtain ⟨k1, k2⟩ := and2 ck
  have glo : ∀ y ∈ fnL, mg y.1 = some (.ref (He.ga K y.1)) := fun y hy => He.glo_ok KX Gm (List.all_eq_true.mp k1 y hy)
  have fre : ∀ x ∈ bltL, mg x = none := fun x hx => He.free_ok KX Gm (List.all_eq_true.mp k2 x hx)
  refine ⟨fd, He.mkr_ok k7, F.bindsN fun _ _ _ _ _ _ us hl => match us, hl with | [_, _], _ => rfl, d30.ad K, fds, q30, hd, fun w k hF => ?_⟩
  obtain ⟨oc, od, dV, kV, doc, pm, an, cdv, ct, osl, e, lk, hcd, _, _⟩ := F.ex
  subst e
  obtain ⟨a1, a2, a3, a4, a5, a6, b1, b2, b3, b4, b5, b6, b7, b9, b10, c1, c2, c3, c4, c5, c6, c7, d1, d3, d4, kk, d2, rs, eb⟩ := yb
  rw [eb] at lk ⊢
  exact init_ok (G := Gk K) (cl := 0) (gs := 30) rfl rfl lk hcd sY (by decide +kernel) (by decide +kernel) (by decide +kernel) (by decide +kernel) (by decide +kernel) (by decide +kernel) (by decide +kernel)
    (fre (PySem.Str.ofString "tuple") (by decide +kernel)) (fre (PySem.Str.ofString "enumerate") (by decide +kernel)) (glo (PySem.Str.ofString "swings_of", 30, []) (by decide +kernel)) hk hb (cl_ok k4) (sl_ok (by decide) k5) (sl_ok (by decide) k6) hF
theorem prg (KX : K.In h) (Gm : h.Ns mainGlobals mg) (c : SaysX chk fn K) : Prg (Gk K) T0 P wd mg base Pt I0 := by
  have ck := c.chk_
  unfold chk at ck
  obtain ⟨ck, k8⟩ := and2 ck
  obtain ⟨ck, k7⟩ := and2 ck
  obtain ⟨ck, k6⟩ := and2 ck
  obtain ⟨ck, k5⟩ := and2 ck
  obtain ⟨ck, k4⟩ := and2 ck
  obtain ⟨ck, k3⟩ := and2 ck
  obtain ⟨k1, k2⟩ := and2 ck
  have glo : ∀ y ∈ fnL, mg y.1 = some (.ref (He.ga K y.1)) := fun y hy => He.glo_ok KX Gm (List.all_eq_true.mp k1 y hy)
  have fre : ∀ x ∈ bltL, mg x = none := fun x hx => He.free_ok KX Gm (List.all_eq_true.mp k2 x hx)
  have all : ∀ y ∈ fnL, mg y.1 = some (.ref (He.ga K y.1)) → (∃ ad fd ps, DefAt K Pt I0 y.2.1 ad fd ps ∧ mg y.1 = some (.ref ad) ∧ PySem.W.keepIn K (.ref ad) = true ∧ Binds K fd ps []) ∨
      (∃ C f fd ps cl gs ad fds pss fY, L2.Mk K C f ∧ mg y.1 = some (.ref C) ∧ Binds K fd ps [] ∧ Pt y.2.1 = some fY ∧ fY.year = some (cl, gs) ∧ DefAt K Pt I0 gs ad fds pss ∧
        ∀ (w k : Nat), FnOk P wd K mg base (L2.CX P wd) (2 * k) ad fds pss (spF (Gk K) (callF T0 Pt w k) gs) → FnOk P wd K mg base (L2.CX P wd) (2 * k + 1) f fd ps (spI (Gk K) (callF T0 Pt w (k + 1)) C y.2.1)) := by
    simp only [fnL, List.forall_mem_cons]
    exact ⟨fun hm => .inl ((f0 c).elim fun fd z => ⟨_, fd, _, z.1, hm, z.2.1, z.2.2⟩), fun hm => .inl ((f1 c).elim fun fd z => ⟨_, fd, _, z.1, hm, z.2.1, z.2.2⟩), fun hm => .inl ((f2 c).elim fun fd z => ⟨_, fd, _, z.1, hm, z.2.1, z.2.2⟩), fun hm => .inl ((f3 c).elim fun fd z => ⟨_, fd, _, z.1, hm, z.2.1, z.2.2⟩), fun hm => .inl ((f4 c).elim fun fd z => ⟨_, fd, _, z.1, hm, z.2.1, z.2.2⟩), fun hm => .inl ((f5 c).elim fun fd z => ⟨_, fd, _, z.1, hm, z.2.1, z.2.2⟩), fun hm => .inl ((f6 c).elim fun fd z => ⟨_, fd, _, z.1, hm, z.2.1, z.2.2⟩), fun hm => .inl ((f7 c).elim fun fd z => ⟨_, fd, _, z.1, hm, z.2.1, z.2.2⟩), fun hm => .inl ((f8 c).elim fun fd z => ⟨_, fd, _, z.1, hm, z.2.1, z.2.2⟩), fun hm => .inl ((f9 c).elim fun fd z => ⟨_, fd, _, z.1, hm, z.2.1, z.2.2⟩), fun hm => .inl ((f10 c).elim fun fd z => ⟨_, fd, _, z.1, hm, z.2.1, z.2.2⟩), fun hm => .inl ((f11 c).elim fun fd z => ⟨_, fd, _, z.1, hm, z.2.1, z.2.2⟩), fun hm => .inl ((f12 c).elim fun fd z => ⟨_, fd, _, z.1, hm, z.2.1, z.2.2⟩), fun hm => .inl ((f13 c).elim fun fd z => ⟨_, fd, _, z.1, hm, z.2.1, z.2.2⟩), fun hm => .inl ((f14 c).elim fun fd z => ⟨_, fd, _, z.1, hm, z.2.1, z.2.2⟩), fun hm => .inl ((f15 c).elim fun fd z => ⟨_, fd, _, z.1, hm, z.2.1, z.2.2⟩), fun hm => .inl ((f16 c).elim fun fd z => ⟨_, fd, _, z.1, hm, z.2.1, z.2.2⟩), fun hm => .inl ((f17 c).elim fun fd z => ⟨_, fd, _, z.1, hm, z.2.1, z.2.2⟩), fun hm => .inl ((f18 c).elim fun fd z => ⟨_, fd, _, z.1, hm, z.2.1, z.2.2⟩), fun hm => .inl ((f19 c).elim fun fd z => ⟨_, fd, _, z.1, hm, z.2.1, z.2.2⟩), fun hm => .inl ((f20 c).elim fun fd z => ⟨_, fd, _, z.1, hm, z.2.1, z.2.2⟩), fun hm => .inl ((f21 c).elim fun fd z => ⟨_, fd, _, z.1, hm, z.2.1, z.2.2⟩), fun hm => .inl ((f22 c).elim fun fd z => ⟨_, fd, _, z.1, hm, z.2.1, z.2.2⟩), fun hm => .inl ((f23 c).elim fun fd z => ⟨_, fd, _, z.1, hm, z.2.1, z.2.2⟩), fun hm => .inl ((f24 c).elim fun fd z => ⟨_, fd, _, z.1, hm, z.2.1, z.2.2⟩), fun hm => .inl ((f25 c).elim fun fd z => ⟨_, fd, _, z.1, hm, z.2.1, z.2.2⟩), fun hm => .inl ((f26 c).elim fun fd z => ⟨_, fd, _, z.1, hm, z.2.1, z.2.2⟩), fun hm => .inl ((f27 c).elim fun fd z => ⟨_, fd, _, z.1, hm, z.2.1, z.2.2⟩), fun hm => .inl ((f28 c).elim fun fd z => ⟨_, fd, _, z.1, hm, z.2.1, z.2.2⟩), fun hm => .inl ((f29 c).elim fun fd z => ⟨_, fd, _, z.1, hm, z.2.1, z.2.2⟩), fun hm => .inl ((f30 c).elim fun fd z => ⟨_, fd, _, z.1, hm, z.2.1, z.2.2⟩), fun hm => .inl ((f31 c).elim fun fd z => ⟨_, fd, _, z.1, hm, z.2.1, z.2.2⟩), fun hm => .inl ((f32 c).elim fun fd z => ⟨_, fd, _, z.1, hm, z.2.1, z.2.2⟩), fun hm => .inl ((f33 c).elim fun fd z => ⟨_, fd, _, z.1, hm, z.2.1, z.2.2⟩), fun hm => .inl ((f34 c).elim fun fd z => ⟨_, fd, _, z.1, hm, z.2.1, z.2.2⟩), fun hm => .inl ((f35 c).elim fun fd z => ⟨_, fd, _, z.1, hm, z.2.1, z.2.2⟩), fun hm => .inl ((f36 c).elim fun fd z => ⟨_, fd, _, z.1, hm, z.2.1, z.2.2⟩), fun hm => .inl ((f37 c).elim fun fd z => ⟨_, fd, _, z.1, hm, z.2.1, z.2.2⟩), fun hm => .inl ((f38 c).elim fun fd z => ⟨_, fd, _, z.1, hm, z.2.1, z.2.2⟩), fun hm => .inl ((f39 c).elim fun fd z => ⟨_, fd, _, z.1, hm, z.2.1, z.2.2⟩), fun hm => .inl ((f40 c).elim fun fd z => ⟨_, fd, _, z.1, hm, z.2.1, z.2.2⟩), fun hm => .inl ((f41 c).elim fun fd z => ⟨_, fd, _, z.1, hm, z.2.1, z.2.2⟩), fun hm => .inl ((f42 c).elim fun fd z => ⟨_, fd, _, z.1, hm, z.2.1, z.2.2⟩), fun hm => .inl ((f43 c).elim fun fd z => ⟨_, fd, _, z.1, hm, z.2.1, z.2.2⟩), fun hm => .inl ((f44 c).elim fun fd z => ⟨_, fd, _, z.1, hm, z.2.1, z.2.2⟩), fun hm => .inl ((f45 c).elim fun fd z => ⟨_, fd, _, z.1, hm, z.2.1, z.2.2⟩), fun hm => .inl ((f46 c).elim fun fd z => ⟨_, fd, _, z.1, hm, z.2.1, z.2.2⟩), fun hm => .inr ((fY KX Gm c).elim fun fd z => z.2.2.elim fun ad z2 => z2.elim fun fds z3 => z3.elim fun pss z4 => ⟨_, _, fd, _, 0, 30, ad, fds, pss, _, z.1, hm, z.2.1, rfl, rfl, z4.1, z4.2⟩), fun y h => by cases h⟩
  refine ⟨fun x g refs hx => ?_, fun x hx => fre x (by have hx : bltL.contains x = true := hx; simpa using hx), fun x d hx => ?_, fun f cc i hx => ?_, fun f cc g hx => ?_⟩
  · obtain ⟨y, q, e⟩ := Option.map_eq_some_iff.mp (show (fnL.find? fun y => y.1 == x).map (·.2) = some (g, refs) from hx)
    have ex := List.find?_some q
    have ex : y.1 = x := eq_of_beq ex
    have hm := List.mem_of_find?_eq_some q
    have := all y hm (glo y hm)
    rw [ex, e] at this
    exact this
  · obtain ⟨y, q, e⟩ := Option.map_eq_some_iff.mp (show (cstL.find? fun y => y.1 == x).map (fun y => D.int y.2) = some d from hx)
    have ex := List.find?_some q
    have ex : y.1 = x := eq_of_beq ex
    have hm := List.mem_of_find?_eq_some q
    obtain ⟨t, ht⟩ := He.int_ok KX Gm (List.all_eq_true.mp k3 y hm)
    rw [ex] at ht
    subst e
    exact ⟨.int y.2, _, ht, ⟨t, rfl⟩, fun _ _ => rfl⟩
  · have hx : (if cc == 0 then (if f == PySem.Str.ofString "own_runs" then some 0 else if f == PySem.Str.ofString "own_swings" then some 1 else none) else none) = some i := hx
    split at hx
    · split at hx
      · rename_i ef
        cases hx
        rw [eq_of_beq ef]
        exact ⟨cl_ok k4, _, sl_ok (by decide) k5⟩
      · split at hx
        · rename_i ef
          cases hx
          rw [eq_of_beq ef]
          exact ⟨cl_ok k4, _, sl_ok (by decide) k6⟩
        · cases hx
    · cases hx
  · have hx : (if cc == 0 then (prL.find? fun y => y.1 == f).map (·.2) else none) = some g := hx
    split at hx
    · obtain ⟨y, q, e⟩ := Option.map_eq_some_iff.mp hx
      have ex := List.find?_some q
      have ex : y.1 = f := eq_of_beq ex
      have hm := List.mem_of_find?_eq_some q
      have pall : ∀ y ∈ prL, prB K (He.ga K (PySem.Str.ofString "Year")) y.1 (gAd K (PySem.Str.ofString "Year") y.1) = true → ∃ p ga fd ps, PySem.W.findIn K (.ref (He.ga K (PySem.Str.ofString "Year"))) y.1 = some (some (.ref p)) ∧ PySem.W.specialIn K (.ref p) "__get__" = some (some (.builtin "property.__get__")) ∧ PySem.W.takesIn K (.ref p) = some true ∧
          (∃ rest, PySem.W.recIn K p "property" = some (.ref ga :: rest)) ∧ DefAt K Pt I0 y.2 ga fd ps ∧ Binds K fd ps [] := by
        simp only [prL, List.forall_mem_cons]
        exact ⟨fun z => (f47 c).elim fun fd z2 => ⟨_, _, fd, _, (pr_ok z).1, (pr_ok z).2.1, (pr_ok z).2.2.1, (pr_ok z).2.2.2, z2.1, z2.2.2⟩, fun z => (f48 c).elim fun fd z2 => ⟨_, _, fd, _, (pr_ok z).1, (pr_ok z).2.1, (pr_ok z).2.2.1, (pr_ok z).2.2.2, z2.1, z2.2.2⟩, fun z => (f49 c).elim fun fd z2 => ⟨_, _, fd, _, (pr_ok z).1, (pr_ok z).2.1, (pr_ok z).2.2.1, (pr_ok z).2.2.2, z2.1, z2.2.2⟩, fun z => (f50 c).elim fun fd z2 => ⟨_, _, fd, _, (pr_ok z).1, (pr_ok z).2.1, (pr_ok z).2.2.1, (pr_ok z).2.2.2, z2.1, z2.2.2⟩, fun z => (f51 c).elim fun fd z2 => ⟨_, _, fd, _, (pr_ok z).1, (pr_ok z).2.1, (pr_ok z).2.2.1, (pr_ok z).2.2.2, z2.1, z2.2.2⟩, fun z => (f52 c).elim fun fd z2 => ⟨_, _, fd, _, (pr_ok z).1, (pr_ok z).2.1, (pr_ok z).2.2.1, (pr_ok z).2.2.2, z2.1, z2.2.2⟩, fun z => (f53 c).elim fun fd z2 => ⟨_, _, fd, _, (pr_ok z).1, (pr_ok z).2.1, (pr_ok z).2.2.1, (pr_ok z).2.2.2, z2.1, z2.2.2⟩, fun y h => by cases h⟩
      have := pall y hm (List.all_eq_true.mp k8 y hm)
      rw [ex, e] at this
      exact ⟨cl_ok k4, this⟩
    · cases hx
theorem binL (c : SaysX chk fn K) {fa : Addr} (hfa : mg (PySem.Str.ofString "law") = some (.ref fa)) (KX : K.In h) (Gm : h.Ns mainGlobals mg) : ∃ fd, DefAt K Pt I0 46 fa fd ["script"] ∧ ∀ (s : Shared) (u : Value), BindsTo s fd ⟨[u], []⟩ [("script", u)] := by
  obtain ⟨fd, F⟩ := c.def_ 46 (d := d46) rfl
  have ck := c.chk_
  unfold chk at ck
  obtain ⟨ck, k8⟩ := and2 ck
  obtain ⟨ck, k7⟩ := and2 ck
  obtain ⟨ck, k6⟩ := and2 ck
  obtain ⟨ck, k5⟩ := and2 ck
  obtain ⟨ck, k4⟩ := and2 ck
  obtain ⟨ck, k3⟩ := and2 ck
  obtain ⟨k1, k2⟩ := and2 ck
  have e := He.glo_ok KX Gm (List.all_eq_true.mp k1 (PySem.Str.ofString "law", 46, []) (by decide +kernel))
  rw [hfa] at e
  cases e
  exact ⟨fd, defAt_of (n := fuel) F s46 rfl, fun s u => F.bindsA (ps := ["script"]) (fun _ _ _ _ _ _ us hl => match us, hl with | [_], _ => rfl) s [u] rfl⟩
end
end Lw

open PySem PySem.W PySem.Calls PyProof.Rows
theorem law_holds (true_ : ∀ ns : List Int, ns.length ≤ 63 → ∃ st, Ev.callF Lw.T0 Lw.Pt 300 20 46 [.frz (ns.map Ev.D.int)] [] = .ok (.bl true) st) : PySem.Challenge.rw_allbutts_k77_across_parts_walks_and_far.Holds := by
  w_on; o_law
  refine HandSHeadRun.head_any (r := OpenLaw.row PySem.Challenge.rw_allbutts_k77_across_parts_walks_and_far) (q := Lw.qv) (H := Lw.hk) (ob := Lw.ob) (M := 8000) (loose := Lw.lo) (d := HandSHeadRun.topDef (OpenLaw.row PySem.Challenge.rw_allbutts_k77_across_parts_walks_and_far).prog 70) (kwd := []) Lw.ob_eq (by kernel_rfl) (fun s => by kernel_rfl) Lw.run (by kernel_rfl) (by kernel_rfl) (by kernel_rfl) (by rfl) (by first | assumption | decide +kernel) (by decide +kernel) ⟨rfl, rfl, rfl, rfl, rfl, by decide +kernel⟩ ?hw ?hc
  case hw => w_witness2
  case hc =>
    refine Ev.walkX (l := PySem.Challenge.rw_allbutts_k77_across_parts_walks_and_far) (n := 63) (k := 2 * 20) (x := "script") rfl (by decide) (by kernel_rfl) ⟨rfl, by decide, by decide⟩ ?F
    intro w mg fa h Y Gm hmg0
    obtain ⟨K, KX, c⟩ := Y
    have hmg : mg (PySem.Str.ofString "law") = some (.ref fa) := by
      have e : (HandSHeadRun.topDef (OpenLaw.row PySem.Challenge.rw_allbutts_k77_across_parts_walks_and_far).prog 70).name = (PySem.Str.ofString "law") := by kernel_rfl
      rw [← e]
      exact hmg0
    obtain ⟨fd, hd, hb⟩ := Lw.binL c hmg KX Gm
    exact ⟨K, fd, Ev.spF (Lw.Gk K) (Ev.callF Lw.T0 Lw.Pt 300 20) 46, KX, hb, fun H a ns hl hO hS => Ev.law_sp (G := Lw.Gk K) (true_ ns hl) hO hS, fun base hK hN => Ev.defs_ok (G := Lw.Gk K) (Lw.prg hK hN c) 20 46 fa fd _ hd⟩

end
section
set_option linter.all false
/-! Evs: the evaluator, step by step (for simp). -/
namespace Ev
open PySem
@[simp] theorem ob_ok {α β : Type} (a : α) (en : Env) (st : Store) (f : α → Env → Store → Out β) : (Out.ok a en st).bind f = f a en st := by cases st <;> rfl
@[simp] theorem ob_bad {α β : Type} (f : α → Env → Store → Out β) : (Out.bad : Out α).bind f = .bad := id rfl
@[simp] theorem of_some {α : Type} (a : α) (en : Env) (st : Store) : Out.of (some a) en st = .ok a en st := by cases st <;> rfl
@[simp] theorem chk_t {α : Type} (a : α) : chk true a = some a := id rfl
theorem chk_of {α : Type} {c : Bool} {a : α} (h : c = true) : chk c a = some a := by rw [h]; rfl
@[simp] theorem lenS (en : Env) (i : Nat) (d : D) : (setS en i d).length = en.length := by simp [setS]
theorem get_eq {en : Env} {i : Nat} {d : D} (h : i < en.length) : getS (setS en i d) i = some d := by simp [getS, setS, h]
theorem get_ne {en : Env} {i j : Nat} {d : D} (h : i ≠ j) : getS (setS en i d) j = getS en j := by simp [getS, setS, List.getElem?_set_ne h]
@[simp] theorem getL0 (d : D) (r : Env) : getS (some d :: r) 0 = some d := by cases r <;> rfl
@[simp] theorem getLN0 (r : Env) : getS (none :: r) 0 = none := by cases r <;> rfl
@[simp] theorem getLn (x : Option D) (r : Env) (n : Nat) : getS (x :: r) (n + 1) = getS r n := by cases r <;> rfl
@[simp] theorem setL0 (x : Option D) (d : D) (r : Env) : setS (x :: r) 0 d = some d :: r := by cases r <;> rfl
@[simp] theorem setLn (x : Option D) (d : D) (r : Env) (n : Nat) : setS (x :: r) (n + 1) d = x :: setS r n d := by cases r <;> rfl
/-- one name wiped -/
def wip (en : Env) (i : Nat) : Env := en.set i none
@[simp] theorem lenW (en : Env) (i : Nat) : (wip en i).length = en.length := by simp [wip]
theorem wip_ne {en : Env} {i j : Nat} (h : i ≠ j) : getS (wip en i) j = getS en j := by simp [getS, wip, List.getElem?_set_ne h]
@[simp] theorem wipL0 (x : Option D) (r : Env) : wip (x :: r) 0 = none :: r := by cases r <;> rfl
@[simp] theorem wipLn (x : Option D) (r : Env) (n : Nat) : wip (x :: r) (n + 1) = x :: wip r n := by cases r <;> rfl
theorem wipeE_nil (en : Env) : wipeE en [] = en := rfl
theorem wipeE_cons (en : Env) (v : Nat) (vs : List Nat) : wipeE en (v :: vs) = wip (wipeE en vs) v := rfl
theorem getElem?_wipeE (en : Env) : ∀ (vs : List Nat) (j : Nat), (wipeE en vs)[j]? = if j ∈ vs then (if j < en.length then some none else none) else en[j]?
  | [], j => by simp [wipeE]
  | v :: vs, j => by
    have ih := getElem?_wipeE en vs j
    have hl : (wipeE en vs).length = en.length := by
      clear ih
      induction vs with
      | nil => rfl
      | cons x xs ih => simp [wipeE, ih]
    simp only [wipeE, List.getElem?_set, hl, ih, List.mem_cons]
    by_cases c : v = j
    · subst c; simp
    · have : ¬ j = v := fun z => c z.symm
      simp [c, this]
theorem lenWE (en : Env) : ∀ vs : List Nat, (wipeE en vs).length = en.length
  | [] => rfl
  | v :: vs => by simp [wipeE, lenWE en vs]
theorem lenBE (old new : Env) : ∀ vs : List Nat, (backE old new vs).length = new.length
  | [] => rfl
  | v :: vs => by simp [backE, lenBE old new vs]
theorem getElem?_backE (old new : Env) : ∀ (vs : List Nat) (j : Nat), (backE old new vs)[j]? = if j ∈ vs then (if j < new.length then some (old.getD j none) else none) else new[j]?
  | [], j => by simp [backE]
  | v :: vs, j => by
    have ih := getElem?_backE old new vs j
    simp only [backE, List.getElem?_set, lenBE, ih, List.mem_cons]
    by_cases c : v = j
    · subst c; simp
    · have : ¬ j = v := fun z => c z.symm
      simp [c, this]
theorem back_wipe (en : Env) (vs : List Nat) : backE en (wipeE en vs) vs = en := by
  apply List.ext_getElem?
  intro j
  rw [getElem?_backE, lenWE, getElem?_wipeE]
  by_cases c : j ∈ vs
  · by_cases l : j < en.length
    · simp [c, l]
    · simp [c, l]
  · simp [c]
theorem wip_setS (en : Env) (i : Nat) (d : D) : wip (setS en i d) i = wip en i := by simp [wip, setS]
theorem wip_wip (en : Env) (i : Nat) : wip (wip en i) i = wip en i := by simp [wip]
theorem wip_comm (en : Env) (i j : Nat) : wip (wip en i) j = wip (wip en j) i := by
  by_cases h : i = j
  · subst h; rfl
  · simp only [wip]; exact List.set_comm _ _ h
theorem wip_setS_ne {en : Env} {i j : Nat} {d : D} (h : i ≠ j) : wip (setS en i d) j = setS (wip en j) i d := by
  simp only [wip, setS]; exact List.set_comm _ _ h
/-! the turns of a for, of a comprehension -/
def forT (T0 : Tab) (F : Fn) (w : Nat) (t : T) (b : S) : D → Env → Store → Out Flow := fun d en st => (assignT T0 F t d en st).bind fun _ en st => evalS T0 F w b en st
def cmpT (T0 : Tab) (F : Fn) (ow : List Nat) (t : T) (c e : E) : D → List D → Env → Store → Out (List D) := fun d acc en st => (assignT T0 F t d en st).bind fun _ en st => ((evalE T0 F c en st).bind boolO).bind fun b en st =>
  if b then (evalE T0 F e en st).bind fun x en st => (Out.of x.item en st).bind fun x en st => .ok (acc ++ [x]) (wipeE en ow) st else .ok acc (wipeE en ow) st
def whT (T0 : Tab) (F : Fn) (c : E) : Env → Store → Out Bool := fun en st => (evalE T0 F c en st).bind boolO
section
variable (T0 : Tab) (F : Fn) (w : Nat) (en : Env) (st : Store)
@[simp] theorem xe_var (i : Nat) : evalE T0 F (.var i) en st = readV i en st := by cases st <;> rfl
@[simp] theorem xe_pk (i : Nat) : evalE T0 F (.pk i) en st = peekV i en st := by cases st <;> rfl
@[simp] theorem xe_ref (i : Nat) : evalE T0 F (.ref i) en st = refV i en st := by cases st <;> rfl
@[simp] theorem xe_lit (d : D) : evalE T0 F (.lit d) en st = .ok d en st := by cases st <;> rfl
@[simp] theorem xe_glob (x : Str) (d : D) : evalE T0 F (.glob x d) en st = .ok d en st := by cases st <;> rfl
@[simp] theorem xe_nil : evalE T0 F .nil en st = .ok (.tup []) en st := by cases st <;> rfl
@[simp] theorem xe_cons (a b : E) : evalE T0 F (.cons a b) en st = (evalE T0 F a en st).bind fun d en st => (evalE T0 F b en st).bind fun r en st => .ok (.tup (d :: listO r)) en st := by cases st <;> rfl
@[simp] theorem xe_star (a b : E) : evalE T0 F (.star a b) en st = (evalE T0 F a en st).bind fun d en st => (Out.of (res d en st).seq en st).bind fun xs en st => (evalE T0 F b en st).bind fun r en st => .ok (.tup (xs ++ listO r)) en st := by cases st <;> rfl
@[simp] theorem xe_tup (a : E) : evalE T0 F (.tup a) en st = (evalE T0 F a en st).bind fun r en st => .of ((items (listO r)).bind fun ds => chk (decide (ds.length ≤ lim)) (.tup ds)) en st := by cases st <;> rfl
@[simp] theorem xe_lst (a : E) : evalE T0 F (.lst a) en st = (evalE T0 F a en st).bind fun r en st => .of ((items (listO r)).bind fun ds => chk (decide (ds.length ≤ lim)) (.own ds)) en st := by cases st <;> rfl
@[simp] theorem xe_bin (o : Bop) (a b : E) : evalE T0 F (.bin o a b) en st = (evalE T0 F a en st).bind fun x en st => (evalE T0 F b en st).bind fun y en st => .of (binop o (res x en st) (res y en st)) en st := by cases st <;> rfl
@[simp] theorem xe_neg (a : E) : evalE T0 F (.neg a) en st = (evalE T0 F a en st).bind fun x en st => .of (negD x) en st := by cases st <;> rfl
@[simp] theorem xe_not (a : E) : evalE T0 F (.not a) en st = (evalE T0 F a en st).bind fun x en st => (boolO x en st).bind fun b en st => .ok (.bl (!b)) en st := by cases st <;> rfl
@[simp] theorem xe_cmp (o : Cop) (a b : E) : evalE T0 F (.cmp o a b) en st = (evalE T0 F a en st).bind fun x en st => (evalE T0 F b en st).bind fun y en st => .of ((cmpop o (res x en st) (res y en st)).map .bl) en st := by cases st <;> rfl
@[simp] theorem xe_chain (o p : Cop) (a b c : E) : evalE T0 F (.chain o p a b c) en st = (evalE T0 F a en st).bind fun x en st => (evalE T0 F b en st).bind fun y en st => (Out.of (cmpop o (res x en st) (res y en st)) en st).bind fun k en st =>
      if k then (evalE T0 F c en st).bind fun z en st => .of ((cmpop p (res y en st) (res z en st)).map .bl) en st else .ok (.bl false) en st := by cases st <;> rfl
@[simp] theorem xe_and (a b : E) : evalE T0 F (.and a b) en st = (evalE T0 F a en st).bind fun x en st => (boolO x en st).bind fun k en st => if k then evalE T0 F b en st else .ok (.bl false) en st := by cases st <;> rfl
@[simp] theorem xe_or (a b : E) : evalE T0 F (.or a b) en st = (evalE T0 F a en st).bind fun x en st => (boolO x en st).bind fun k en st => if k then .ok (.bl true) en st else evalE T0 F b en st := by cases st <;> rfl
@[simp] theorem xe_orL (a b : E) : evalE T0 F (.orL a b) en st = (evalE T0 F a en st).bind fun x en st => (match x with
    | .own (y :: r) => .ok (.own (y :: r)) en st
    | .own [] => evalE T0 F b en st
    | _ => .bad) := by cases st <;> rfl
@[simp] theorem xe_ite (c a b : E) : evalE T0 F (.ite c a b) en st = (evalE T0 F c en st).bind fun x en st => (boolO x en st).bind fun k en st => if k then evalE T0 F a en st else evalE T0 F b en st := by cases st <;> rfl
@[simp] theorem xe_idx (a b : E) : evalE T0 F (.idx a b) en st = (evalE T0 F a en st).bind fun x en st => (evalE T0 F b en st).bind fun y en st => .of (idxD (res x en st) y) en st := by cases st <;> rfl
@[simp] theorem xe_slice (a lo hi : E) : evalE T0 F (.slice a lo hi) en st = (evalE T0 F a en st).bind fun x en st => (evalE T0 F lo en st).bind fun l en st => (Out.of (bound lo l) en st).bind fun l en st =>
      (evalE T0 F hi en st).bind fun h en st => (Out.of (bound hi h) en st).bind fun h en st => .of (sliceD (res x en st) l h) en st := by cases st <;> rfl
@[simp] theorem xe_rev (a : E) : evalE T0 F (.rev a) en st = (evalE T0 F a en st).bind fun x en st => .of (revD (res x en st)) en st := by cases st <;> rfl
@[simp] theorem xe_no : evalE T0 F .no en st = .ok .non en st := by cases st <;> rfl
@[simp] theorem xe_call (f : Nat) (a : E) : evalE T0 F (.call f a) en st = (evalE T0 F a en st).bind fun r en st => (Out.of (args (listO r)) en st).bind fun ds en st => callO F f ds en st := by cases st <;> rfl
@[simp] theorem xe_attr (a : E) (f : Str) : evalE T0 F (.attr a f) en st = (evalE T0 F a en st).bind fun x en st => (match x with
    | .ins c vs => (match T0.field c f with
      | some i => .of vs[i]? en st
      | none => (match T0.prop c f with
        | some g => noX (callO F g [.ins c vs] en st)
        | none => .bad))
    | _ => .bad) := by cases st <;> rfl
@[simp] theorem xe_bi (f : Bi) (a : E) : evalE T0 F (.bi f a) en st = (evalE T0 F a en st).bind fun r en st => .of (bi f ((listO r).map fun d => res d en st)) en st := by cases st <;> rfl
@[simp] theorem xe_bm (f : Bm) (o a : E) : evalE T0 F (.bm f o a) en st = (evalE T0 F o en st).bind fun x en st => (Out.of (res x en st).seqL en st).bind fun _ en st => (evalE T0 F a en st).bind fun r en st => .of (bm f (res x en st) (listO r)) en st := by cases st <;> rfl
@[simp] theorem xe_isi (a : E) (k : List Ty) : evalE T0 F (.isi a k) en st = (evalE T0 F a en st).bind fun x en st => .of ((isTys (res x en st) k).map .bl) en st := by cases st <;> rfl
@[simp] theorem xe_rng (a : E) : evalE T0 F (.rng a) en st = (evalE T0 F a en st).bind fun r en st => .of (rngL (listO r)) en st := by cases st <;> rfl
@[simp] theorem xe_zip (a : E) : evalE T0 F (.zip a) en st = (evalE T0 F a en st).bind fun r en st => .of (zipL (listO r)) en st := by cases st <;> rfl
@[simp] theorem xe_enum (a : E) : evalE T0 F (.enum a) en st = (evalE T0 F a en st).bind fun r en st => .of (enumL (listO r)) en st := by cases st <;> rfl
theorem xe_comp (ow : List Nat) (t : T) (it c e : E) : evalE T0 F (.comp ow t it c e) en st = ((evalE T0 F it en st).bind fun d en st => .of (iterD d) en st).bind fun ds en st =>
      if ow.any (isOwn en) then .bad else (noX (accL (cmpT T0 F ow t c e) ds [] (wipeE en ow) st)).bind fun ds en' st => .ok (.own ds) (backE en en' ow) st := by cases st <;> rfl
@[simp] theorem xt_nm (i : Nat) (d : D) : assignT T0 F (.nm i) d en st = (Out.of (dataD d) en st).bind fun d en st => if i < en.length then .ok () (setS en i d) st else .bad := by cases st <;> rfl
@[simp] theorem xt_tp (a : T) (d : D) : assignT T0 F (.tp a) d en st = (match d with
    | .tup ds => if tgLen a = some ds.length then assignT T0 F a (.tup ds) en st else .bad
    | .lst ds => if tgLen a = some ds.length then assignT T0 F a (.tup ds) en st else .bad
    | _ => .bad) := by cases st <;> rfl
@[simp] theorem xt_nil : assignT T0 F .nil (.tup []) en st = .ok () en st := by cases st <;> rfl
@[simp] theorem xt_cons (a b : T) (x : D) (r : List D) : assignT T0 F (.cons a b) (.tup (x :: r)) en st = (assignT T0 F a x en st).bind fun _ en st => assignT T0 F b (.tup r) en st := by cases st <;> rfl
@[simp] theorem xt_ix (i : Nat) (b : E) (d : D) : assignT T0 F (.ix i b) d en st = (Out.of (getS en i) en st).bind fun _ en st => (Out.of (dataD d) en st).bind fun x en st => (evalE T0 F b en st).bind fun k en st => storeAt i k x en st := by cases st <;> rfl
@[simp] theorem xs_skip : evalS T0 F w .skip en st = .ok .nx en st := by cases st <;> rfl
@[simp] theorem xs_seq (a b : S) : evalS T0 F w (.seq a b) en st = (evalS T0 F w a en st).bind fun f en st => match f with
    | .nx => evalS T0 F w b en st
    | f => .ok f en st := by cases st <;> rfl
@[simp] theorem xs_asg (t : T) (e : E) : evalS T0 F w (.asg t e) en st = (evalE T0 F e en st).bind fun d en st => (Out.of d.item en st).bind fun d en st => (assignT T0 F t d en st).bind fun _ en st => .ok .nx en st := by cases st <;> rfl
@[simp] theorem xs_ex (e : E) : evalS T0 F w (.ex e) en st = (evalE T0 F e en st).bind fun _ en st => .ok .nx en st := by cases st <;> rfl
@[simp] theorem xs_ret (e : E) : evalS T0 F w (.ret e) en st = (evalE T0 F e en st).bind fun d en st => (Out.of (retD d) en st).bind fun d en st => .ok (.rt d) en st := by cases st <;> rfl
@[simp] theorem xs_ite (c : E) (a b : S) : evalS T0 F w (.ite c a b) en st = ((evalE T0 F c en st).bind boolO).bind fun k en st => if k then evalS T0 F w a en st else evalS T0 F w b en st := by cases st <;> rfl
@[simp] theorem xs_for (t : T) (it : E) (b : S) : evalS T0 F w (.for t it b) en st = ((evalE T0 F it en st).bind fun d en st => .of (iterD d) en st).bind fun ds en st => forL (forT T0 F w t b) ds en st := by cases st <;> rfl
@[simp] theorem xs_while (c : E) (b : S) : evalS T0 F w (.while c b) en st = whileL (whT T0 F c) (evalS T0 F w b) w en st := by cases st <;> rfl
@[simp] theorem xs_par (is : List Nat) (a : E) : evalS T0 F w (.par is a) en st = (evalE T0 F a en st).bind fun r en st => parS is (listO r) en st := by cases st <;> rfl
@[simp] theorem xs_mut (m : Mu) (i : Nat) (a : E) : evalS T0 F w (.mut m i a) en st = if mutable i en st then (evalE T0 F a en st).bind fun r en st => mutS m i (listO r) en st else .bad := by cases st <;> rfl
@[simp] theorem xs_brk : evalS T0 F w .brk en st = .ok .bk en st := by cases st <;> rfl
@[simp] theorem xs_cont : evalS T0 F w .cont en st = .ok .ct en st := by cases st <;> rfl
end
@[simp] theorem boolO_bl (b : Bool) (en : Env) (st : Store) : boolO (.bl b) en st = .ok b en st := by cases st <;> rfl
@[simp] theorem listO_tup (xs : List D) : listO (.tup xs) = xs := by cases xs <;> rfl
/-- a call's end -/
def finF (st : Store) : Out Flow → OutF
  | .ok (.rt d) _ st' => (match retD d with
    | some d => .ok d (st'.take st.length)
    | none => .bad)
  | .ok .nx _ st' => .ok .non (st'.take st.length)
  | .exc c vs _ st' => .exc c vs (st'.take st.length)
  | _ => .bad
theorem callF_def {T0 : Tab} {P : Nat → Option Fd} {w k f n p : Nat} {b : S} {ds : List D} {st : Store} (h : P f = some { names := n, pars := p, body := b }) (hl : ds.length = p) :
    callF T0 P w (k + 1) f ds st = finF st (evalS T0 (callF T0 P w k) w b (ds.map some ++ List.replicate (n - p) none) st) := by
  show (match P f with
    | none => OutF.bad
    | some fd => _) = _
  rw [h]
  dsimp only
  rw [if_pos hl]
  unfold finF
  rfl
/-! folds -/
theorem forL_fold {α β : Type} {turn : D → Env → Store → Out Flow} (e : α → D) (f : β → α → β) (en : β → Option D → Env) (st : Store) : ∀ (xs : List α) (b : β) (y : Option D),
    (∀ a ∈ xs, ∀ b y, turn (e a) (en b y) st = .ok .nx (en (f b a) (some (e a))) st) → forL turn (xs.map e) (en b y) st = .ok .nx (en (xs.foldl f b) (match xs.getLast? with
      | some a => some (e a)
      | none => y)) st
  | [], b, y, _ => rfl
  | a :: xs, b, y, h => by
    show (turn (e a) (en b y) st).bind _ = _
    rw [h a List.mem_cons_self]
    show forL turn (xs.map e) (en (f b a) (some (e a))) st = _
    rw [forL_fold e f en st xs (f b a) (some (e a)) fun a' ha => h a' (List.mem_cons_of_mem _ ha)]
    cases xs with
    | nil => rfl
    | cons c t =>
      have : (c :: t).getLast? = some ((c :: t).getLast (by simp)) := List.getLast?_eq_some_getLast _
      rw [List.getLast?_cons_cons, this]; rfl
/-- an invariant of a for that goes through -/
theorem forL_R {turn : D → Env → Store → Out Flow} (R : List D → Env → Store → Prop) : ∀ (ds ps : List D) (en : Env) (st : Store),
    (∀ p d q en st, ps ++ ds = p ++ d :: q → R p en st → ∃ en' st', (turn d en st = .ok .nx en' st' ∨ turn d en st = .ok .ct en' st') ∧ R (p ++ [d]) en' st') → R ps en st → ∃ en' st', forL turn ds en st = .ok .nx en' st' ∧ R (ps ++ ds) en' st'
  | [], ps, en, st, _, r => ⟨en, st, rfl, by simpa using r⟩
  | d :: ds, ps, en, st, h, r => by
    obtain ⟨en1, st1, e1, r1⟩ := h ps d ds en st rfl r
    obtain ⟨en2, st2, e2, r2⟩ := forL_R R ds (ps ++ [d]) en1 st1 (fun p d' q en st e => h p d' q en st (by rw [← e]; simp)) r1
    refine ⟨en2, st2, ?_, by simpa using r2⟩
    show (turn d en st).bind _ = _
    rcases e1 with e1 | e1 <;> rw [e1] <;> exact e2
/-- the same, the items told by xs -/
theorem forL_A {α : Type} {turn : D → Env → Store → Out Flow} (e : α → D) (R : List α → Env → Store → Prop) : ∀ (xs ps : List α) (en : Env) (st : Store),
    (∀ p a q en st, ps ++ xs = p ++ a :: q → R p en st → ∃ en' st', turn (e a) en st = .ok .nx en' st' ∧ R (p ++ [a]) en' st') → R ps en st → ∃ en' st', forL turn (xs.map e) en st = .ok .nx en' st' ∧ R (ps ++ xs) en' st'
  | [], ps, en, st, _, r => ⟨en, st, rfl, by simpa using r⟩
  | d :: ds, ps, en, st, h, r => by
    obtain ⟨en1, st1, e1, r1⟩ := h ps d ds en st rfl r
    obtain ⟨en2, st2, e2, r2⟩ := forL_A e R ds (ps ++ [d]) en1 st1 (fun p d' q en st e => h p d' q en st (by rw [← e]; simp)) r1
    refine ⟨en2, st2, ?_, by simpa using r2⟩
    show (turn (e d) en st).bind _ = _
    rw [e1]; exact e2
theorem accL_map {α : Type} {turn : D → List D → Env → Store → Out (List D)} (e : α → D) (f : α → Option D) (en : Env) (st : Store) : ∀ (xs : List α) (acc : List D),
    (∀ a ∈ xs, ∀ acc, turn (e a) acc en st = .ok (acc ++ (f a).toList) en st) → accL turn (xs.map e) acc en st = .ok (acc ++ xs.filterMap f) en st
  | [], acc, _ => by simp [accL]
  | a :: xs, acc, h => by
    show (turn (e a) acc en st).bind _ = _
    rw [h a List.mem_cons_self]
    show accL turn (xs.map e) _ en st = _
    rw [accL_map e f en st xs _ fun a' ha => h a' (List.mem_cons_of_mem _ ha)]
    cases q : f a <;> simp [List.filterMap_cons, q]
/-- an invariant of a comprehension that draws -/
theorem accL_R {turn : D → List D → Env → Store → Out (List D)} (R : List D → List D → Env → Store → Prop) : ∀ (ds ps acc : List D) (en : Env) (st : Store),
    (∀ p d q acc en st, ps ++ ds = p ++ d :: q → R p acc en st → ∃ acc' en' st', turn d acc en st = .ok acc' en' st' ∧ R (p ++ [d]) acc' en' st') → R ps acc en st → ∃ acc' en' st', accL turn ds acc en st = .ok acc' en' st' ∧ R (ps ++ ds) acc' en' st'
  | [], ps, acc, en, st, _, r => ⟨acc, en, st, rfl, by simpa using r⟩
  | d :: ds, ps, acc, en, st, h, r => by
    obtain ⟨acc1, en1, st1, e1, r1⟩ := h ps d ds acc en st rfl r
    obtain ⟨acc2, en2, st2, e2, r2⟩ := accL_R R ds (ps ++ [d]) acc1 en1 st1 (fun p d' q acc en st e => h p d' q acc en st (by rw [← e]; simp)) r1
    refine ⟨acc2, en2, st2, ?_, by simpa using r2⟩
    show (turn d acc en st).bind _ = _
    rw [e1]; exact e2
theorem comp_pure {T0 : Tab} {F : Fn} {ow : List Nat} {t : T} {it c e : E} {en : Env} {st : Store} {d : D} {α : Type} (xs : List α) (ei : α → D) (f : α → Option D)
    (hit : evalE T0 F it en st = .ok d en st) (hd : iterD d = some (xs.map ei)) (how : ow.any (isOwn en) = false)
    (turn : ∀ a ∈ xs, ∀ acc, cmpT T0 F ow t c e (ei a) acc (wipeE en ow) st = .ok (acc ++ (f a).toList) (wipeE en ow) st) : evalE T0 F (.comp ow t it c e) en st = .ok (.own (xs.filterMap f)) en st := by
  rw [xe_comp, hit]
  simp only [ob_ok, hd, of_some, how]
  rw [accL_map ei f (wipeE en ow) st xs [] turn]
  simp [noX, back_wipe]
/-- the same, every item kept -/
theorem comp_map {T0 : Tab} {F : Fn} {ow : List Nat} {t : T} {it c e : E} {en : Env} {st : Store} {d : D} {α : Type} (xs : List α) (ei : α → D) (f : α → D)
    (hit : evalE T0 F it en st = .ok d en st) (hd : iterD d = some (xs.map ei)) (how : ow.any (isOwn en) = false)
    (turn : ∀ a ∈ xs, ∀ acc, cmpT T0 F ow t c e (ei a) acc (wipeE en ow) st = .ok (acc ++ [f a]) (wipeE en ow) st) : evalE T0 F (.comp ow t it c e) en st = .ok (.own (xs.map f)) en st := by
  rw [comp_pure xs ei (fun a => some (f a)) hit hd how turn]
  simp
theorem mx (a b : Int) : (if b > a then b else a) = max a b := by split <;> omega
theorem mn (a b : Int) : (if b < a then b else a) = min a b := by split <;> omega
theorem ab (a : Int) : (if a < 0 then -a else a) = (a.natAbs : Int) := by split <;> omega
end Ev

end
section
set_option linter.all false
/-! Evs2: slices, loops by their prefix. -/
namespace Ev
open PySem
theorem forL_P {α γ : Type} {turn : D → Env → Store → Out Flow} (e : α → D) (EN : List α → γ → Env) (st : Store) (xs : List α) (y : γ)
    (h : ∀ p a q y, xs = p ++ a :: q → ∃ y', turn (e a) (EN p y) st = .ok .nx (EN (p ++ [a]) y') st) : ∃ y', forL turn (xs.map e) (EN [] y) st = .ok .nx (EN xs y') st := by
  obtain ⟨en', st', e1, y', rfl, rfl⟩ := forL_A (turn := turn) e (fun p en s => ∃ y, en = EN p y ∧ s = st) xs [] (EN [] y) st (fun p a q en s eq ⟨y, e1, e2⟩ => by
    subst e1 e2
    obtain ⟨y', e3⟩ := h p a q y (by simpa using eq)
    exact ⟨_, _, e3, y', rfl, rfl⟩) ⟨y, rfl, rfl⟩
  exact ⟨y', by simpa using e1⟩
theorem cut_to (xs : List D) (k : Nat) : cut xs none (some (k : Int)) = xs.take k := by
  unfold cut
  rw [HT.sIx_none, HT.sIx_nat]
  simp
theorem cut_from (xs : List D) (k : Nat) : cut xs (some (k : Int)) none = xs.drop k := by
  unfold cut
  rw [HT.sIx_none, HT.sIx_nat]
  by_cases h : k ≤ xs.length
  · rw [Nat.min_eq_left h, List.take_of_length_le (by simp)]
  · rw [Nat.min_eq_right (by omega), List.drop_eq_nil_of_le (Nat.le_refl _), List.drop_eq_nil_of_le (by omega)]; simp
theorem cut_m1 (xs : List D) : cut xs none (some (-1)) = xs.dropLast := by
  unfold cut
  rw [HT.sIx_none]
  show (xs.drop 0).take (((-1 : Int) + xs.length).toNat - 0) = _
  rw [List.dropLast_eq_take, List.drop_zero]
  congr 1
  omega
theorem cut_2m1 (xs : List D) : cut xs (some 2) (some (-1)) = (xs.drop 2).dropLast := by
  unfold cut
  have : HT.sIx xs.length 0 (some 2) = min 2 xs.length := HT.sIx_nat _ _ 2
  rw [this]
  show (xs.drop (min 2 xs.length)).take (((-1 : Int) + xs.length).toNat - min 2 xs.length) = _
  rw [List.dropLast_eq_take, List.length_drop]
  by_cases h : 2 ≤ xs.length
  · rw [Nat.min_eq_left h]; congr 1; omega
  · rw [Nat.min_eq_right (by omega), List.drop_eq_nil_of_le (Nat.le_refl _), List.drop_eq_nil_of_le (by omega)]; simp
theorem atI_nat {α : Type} (xs : List α) (k : Nat) : L2.atI xs (k : Int) = xs[k]? := by
  unfold L2.atI L2.ixN
  rw [if_pos (by omega)]
  by_cases h : k < xs.length
  · rw [if_pos (by omega)]; simp
  · rw [if_neg (by omega)]; simp; omega
theorem atI_m1 {α : Type} (xs : List α) : L2.atI xs (-1) = xs.getLast? := by
  unfold L2.atI L2.ixN
  rw [if_neg (by omega)]
  by_cases h : 1 ≤ xs.length
  · rw [if_pos (by omega), List.getLast?_eq_getElem?]
    show xs[((-1 : Int) + xs.length).toNat]? = _
    congr 1; omega
  · rw [if_neg (by omega)]
    have : xs = [] := by cases xs with
      | nil => rfl
      | cons _ _ => simp at h
    subst this; rfl
theorem atI_0 {α : Type} (xs : List α) : L2.atI xs 0 = xs[0]? := atI_nat xs 0
theorem atI_1 {α : Type} (xs : List α) : L2.atI xs 1 = xs[1]? := atI_nat xs 1
theorem atI_2 {α : Type} (xs : List α) : L2.atI xs 2 = xs[2]? := atI_nat xs 2
theorem rng_map (n : Nat) : rng 0 n 1 = (List.range n).map fun (k : Nat) => D.int (k : Int) := by
  unfold rng
  apply List.map_congr_left
  intro k _
  simp
theorem rng_map' (a : Int) (n : Nat) : rng a n 1 = (List.range n).map fun (k : Nat) => D.int (a + k) := by
  unfold rng
  apply List.map_congr_left
  intro k _
  simp
theorem rngOk_nat {n : Nat} (h : n ≤ 1000000) : rngOk (n : Int) = true := by
  unfold rngOk
  rw [Bool.and_eq_true, decide_eq_true_eq, decide_eq_true_eq]
  omega
theorem rngOk_int {n : Int} (h0 : -1000000 ≤ n) (h : n ≤ 1000000) : rngOk n = true := by
  unfold rngOk
  rw [Bool.and_eq_true, decide_eq_true_eq, decide_eq_true_eq]
  omega
@[simp] theorem items_map : ∀ xs : List Int, items (xs.map D.int) = some (xs.map D.int)
  | [] => rfl
  | x :: r => by
    show (match (some (D.int x)), items (r.map D.int) with
      | some x, some xs => some (x :: xs)
      | _, _ => none) = _
    rw [items_map r]; rfl
@[simp] theorem items_app : ∀ a b : List D, items (a ++ b) = (items a).bind fun x => (items b).map fun y => x ++ y
  | [], b => by simp [items]
  | d :: a, b => by
    have := items_app a b
    simp only [List.cons_append, items, this]
    cases d.item with
    | none => rfl
    | some x => cases items a with
      | none => rfl
      | some xs => cases items b <;> rfl
end Ev

end
section
set_option Elab.async false
set_option linter.all false
set_option maxRecDepth 100000
/-! Tb: the compiled defs of law k77 -/
namespace Mr
open PySem Ev
def b_is_number : S := (.seq (.ret (.and (.isi (.pk 0) [.int]) (.not (.isi (.pk 0) [.bool])))) .skip)
def b_is_count : S := (.seq (.ret (.and (.call 0 (.cons (.var 0) .nil)) (.cmp .ge (.pk 0) (.lit (.int (0)))))) .skip)
def b_run_part : S := (.seq (.par [2] (.cons (.bi .abs (.cons (.pk 0) .nil)) .nil)) (.seq (.ite (.cmp .gt (.pk 0) (.lit (.int (0)))) (.seq (.ret (.tup (.cons (.lit (.int (0))) (.cons (.bi .max2 (.cons (.lit (.int (0))) (.cons (.bin .sub (.pk 1) (.pk 2)) .nil))) (.cons (.bi .min2 (.cons (.pk 1) (.cons (.pk 2) .nil))) (.cons (.lit (.int (0))) (.cons (.bi .max2 (.cons (.lit (.int (0))) (.cons (.bin .sub (.pk 2) (.pk 1)) .nil))) .nil))))))) .skip) .skip) (.seq (.ret (.tup (.cons (.bi .min2 (.cons (.pk 1) (.cons (.pk 2) .nil))) (.cons (.var 1) (.cons (.lit (.int (0))) (.cons (.bi .max2 (.cons (.lit (.int (0))) (.cons (.bin .sub (.pk 2) (.pk 1)) .nil))) (.cons (.lit (.int (0))) .nil))))))) .skip)))
def b_middle : S := (.seq (.ret (.bi .max2 (.cons (.pk 0) (.cons (.bi .min2 (.cons (.pk 1) (.cons (.pk 2) .nil))) .nil)))) .skip)
def b_then : S := (.seq (.asg (.tp (.cons (.nm 7) (.cons (.nm 8) (.cons (.nm 9) (.cons (.nm 10) (.cons (.nm 11) .nil)))))) (.var 0)) (.seq (.asg (.tp (.cons (.nm 12) (.cons (.nm 13) (.cons (.nm 14) (.cons (.nm 15) (.cons (.nm 16) .nil)))))) (.var 1)) (.seq (.par [2] (.cons (.bin .sub (.bin .add (.pk 9) (.pk 8)) (.pk 7)) .nil)) (.seq (.par [3] (.cons (.bin .add (.pk 7) (.call 3 (.cons (.lit (.int (0))) (.cons (.bin .sub (.pk 12) (.pk 9)) (.cons (.bin .sub (.pk 8) (.pk 7)) .nil))))) .nil)) (.seq (.par [4] (.cons (.bin .add (.pk 7) (.call 3 (.cons (.lit (.int (0))) (.cons (.bin .sub (.pk 13) (.pk 9)) (.cons (.bin .sub (.pk 8) (.pk 7)) .nil))))) .nil)) (.seq (.par [5] (.cons (.bin .sub (.bin .add (.pk 14) (.call 3 (.cons (.var 12) (.cons (.var 9) (.cons (.var 13) .nil))))) (.pk 12)) .nil)) (.seq (.par [6] (.cons (.bin .add (.bin .add (.pk 10) (.pk 15)) (.bi .max2 (.cons (.lit (.int (0))) (.cons (.bin .sub (.pk 12) (.pk 2)) .nil)))) .nil)) (.seq (.ret (.tup (.cons (.var 3) (.cons (.var 4) (.cons (.var 5) (.cons (.var 6) (.cons (.bin .add (.bin .add (.pk 11) (.pk 16)) (.bi .max2 (.cons (.lit (.int (0))) (.cons (.bin .sub (.pk 9) (.pk 13)) .nil)))) .nil))))))) .skip))))))))
def b_part_of : S := (.seq (.par [2] (.cons (.tup (.cons (.lit (.int (0))) (.cons (.var 1) (.cons (.lit (.int (0))) (.cons (.lit (.int (0))) (.cons (.lit (.int (0))) .nil)))))) .nil)) (.seq (.for (.nm 3) (.var 0) (.seq (.par [2] (.cons (.call 4 (.cons (.var 2) (.cons (.call 2 (.cons (.var 3) (.cons (.var 1) .nil))) .nil))) .nil)) .skip)) (.seq (.ret (.var 2)) .skip)))
def b_times : S := (.seq (.par [2, 3, 4] (.cons (.bi .toTup (.cons (.pk 0) .nil)) (.cons (.var 1) (.cons (.lit .non) .nil)))) (.seq (.while (.cmp .gt (.pk 3) (.lit (.int (0)))) (.seq (.ite (.cmp .eq (.bin .mod (.pk 3) (.lit (.int (2)))) (.lit (.int (1)))) (.seq (.par [4] (.cons (.ite (.cmp .isn (.pk 4) (.lit .non)) (.var 2) (.call 4 (.cons (.var 4) (.cons (.var 2) .nil)))) .nil)) .skip) .skip) (.seq (.par [2, 3] (.cons (.call 4 (.cons (.var 2) (.cons (.var 2) .nil))) (.cons (.bin .fdiv (.pk 3) (.lit (.int (2)))) .nil))) .skip))) (.seq (.ret (.var 4)) .skip)))
def b_is_part : S := (.seq (.ite (.or (.not (.isi (.pk 1) [.tuple])) (.or (.cmp .ne (.bi .len (.cons (.pk 1) .nil)) (.glob (PySem.Str.ofString "FIELDS") (.int (5)))) (.not (.bi .all (.cons (.comp [7] (.nm 7) (.var 1) (.lit (.bl true)) (.call 1 (.cons (.var 7) .nil))) .nil))))) (.seq (.ret (.lit (.bl false))) .skip) .skip) (.seq (.asg (.tp (.cons (.nm 2) (.cons (.nm 3) (.cons (.nm 4) (.cons (.nm 5) (.cons (.nm 6) .nil)))))) (.var 1)) (.seq (.ite (.or (.not (.chain .le .le (.pk 2) (.pk 3) (.pk 0))) (.cmp .gt (.bin .sub (.bin .add (.pk 4) (.pk 3)) (.pk 2)) (.pk 0))) (.seq (.ret (.lit (.bl false))) .skip) .skip) (.seq (.ret (.or (.cmp .eq (.pk 2) (.pk 3)) (.and (.cmp .eq (.pk 5) (.lit (.int (0)))) (.cmp .eq (.pk 6) (.lit (.int (0))))))) .skip))))
def b_through : S := (.seq (.asg (.tp (.cons (.nm 2) (.cons (.nm 3) (.cons (.nm 4) (.cons (.nm 5) (.cons (.nm 6) .nil)))))) (.var 0)) (.seq (.ret (.tup (.cons (.bin .sub (.bin .add (.pk 4) (.call 3 (.cons (.var 2) (.cons (.var 1) (.cons (.var 3) .nil))))) (.pk 2)) (.cons (.bin .add (.pk 5) (.bi .max2 (.cons (.lit (.int (0))) (.cons (.bin .sub (.pk 2) (.pk 1)) .nil)))) (.cons (.bin .add (.pk 6) (.bi .max2 (.cons (.lit (.int (0))) (.cons (.bin .sub (.pk 1) (.pk 3)) .nil)))) .nil))))) .skip))
def b_runs_for : S := (.seq (.asg (.tp (.cons (.nm 2) (.cons (.nm 3) (.cons (.nm 4) (.cons (.nm 5) (.cons (.nm 6) .nil)))))) (.var 1)) (.seq (.ite (.cmp .lt (.pk 2) (.pk 3)) (.seq (.par [7] (.cons (.bin .add (.bin .sub (.pk 0) (.pk 3)) (.pk 2)) .nil)) (.seq (.par [8] (.cons (.tup (.cons (.neg (.var 2)) (.cons (.var 7) (.cons (.bin .sub (.pk 4) (.pk 7)) .nil)))) .nil)) .skip)) (.seq (.ite (.cmp .gt (.pk 5) (.lit (.int (0)))) (.seq (.par [8] (.cons (.tup (.cons (.neg (.var 2)) (.cons (.var 0) (.cons (.bin .sub (.neg (.var 0)) (.pk 5)) (.cons (.bin .add (.pk 0) (.pk 6)) (.cons (.bin .sub (.pk 4) (.pk 0)) .nil)))))) .nil)) .skip) (.seq (.par [8] (.cons (.tup (.cons (.neg (.var 2)) (.cons (.bin .add (.pk 0) (.pk 6)) (.cons (.bin .sub (.pk 4) (.pk 0)) .nil)))) .nil)) .skip)) .skip)) (.seq (.ret (.bi .toTup (.cons (.comp [9] (.nm 9) (.var 8) (.cmp .ne (.pk 9) (.lit (.int (0)))) (.var 9)) .nil))) .skip)))
def b_least_first : S := (.seq (.asg (.tp (.cons (.nm 2) (.cons (.nm 3) (.cons (.nm 4) (.cons (.nm 5) (.cons (.nm 6) .nil)))))) (.call 5 (.cons (.attr (.var 0) (PySem.Str.ofString "runs")) (.cons (.var 1) .nil)))) (.seq (.ret (.ite (.cmp .eq (.pk 5) (.lit (.int (0)))) (.var 2) (.lit .non))) .skip))
def b_most_first : S := (.seq (.asg (.tp (.cons (.nm 2) (.cons (.nm 3) (.cons (.nm 4) (.cons (.nm 5) (.cons (.nm 6) .nil)))))) (.call 5 (.cons (.attr (.var 0) (PySem.Str.ofString "runs")) (.cons (.var 1) .nil)))) (.seq (.ret (.ite (.cmp .eq (.pk 6) (.lit (.int (0)))) (.var 3) (.lit .non))) .skip))
def b_far_part : S := (.seq (.par [4, 5] (.cons (.bin .fdiv (.pk 2) (.bi .len (.cons (.attr (.var 0) (PySem.Str.ofString "runs")) .nil))) (.cons (.bin .mod (.pk 2) (.bi .len (.cons (.attr (.var 0) (PySem.Str.ofString "runs")) .nil))) .nil))) (.seq (.par [3] (.cons (.call 5 (.cons (.slice (.attr (.var 0) (PySem.Str.ofString "runs")) .no (.var 5)) (.cons (.var 1) .nil))) .nil)) (.seq (.ret (.ite (.cmp .gt (.pk 4) (.lit (.int (0)))) (.call 4 (.cons (.call 6 (.cons (.call 5 (.cons (.attr (.var 0) (PySem.Str.ofString "runs")) (.cons (.var 1) .nil))) (.cons (.var 4) .nil))) (.cons (.var 3) .nil))) (.var 3))) .skip)))
def b_level_on : S := (.seq (.ret (.idx (.call 8 (.cons (.call 12 (.cons (.var 0) (.cons (.var 1) (.cons (.var 3) .nil)))) (.cons (.var 2) .nil))) (.lit (.int (0))))) .skip)
def b_bought_by : S := (.seq (.ret (.idx (.call 8 (.cons (.call 12 (.cons (.var 0) (.cons (.var 1) (.cons (.var 3) .nil)))) (.cons (.var 2) .nil))) (.lit (.int (1))))) .skip)
def b_spilled_by : S := (.seq (.ret (.idx (.call 8 (.cons (.call 12 (.cons (.var 0) (.cons (.var 1) (.cons (.var 3) .nil)))) (.cons (.var 2) .nil))) (.lit (.int (2))))) .skip)
def b_bought_by_heap : S := (.seq (.asg (.tp (.cons (.nm 2) (.cons (.nm 3) .nil))) (.var 0)) (.seq (.ret (.bin .add (.pk 2) (.bi .sum (.cons (.comp [4] (.nm 4) (.var 3) (.lit (.bl true)) (.bi .max2 (.cons (.lit (.int (0))) (.cons (.bin .sub (.pk 4) (.pk 1)) .nil)))) .nil)))) .skip))
def b_bought : S := (.seq (.ret (.call 16 (.cons (.attr (.var 0) (PySem.Str.ofString "heap")) (.cons (.var 1) .nil)))) .skip)
def b_spilled : S := (.seq (.ret (.call 16 (.cons (.tup (.cons (.attr (.var 0) (PySem.Str.ofString "spare")) (.cons (.attr (.var 0) (PySem.Str.ofString "swings")) .nil))) (.cons (.var 1) .nil)))) .skip)
def b_rests : S := (.seq (.asg (.tp (.cons (.nm 3) (.cons (.nm 4) (.cons (.nm 5) (.cons (.nm 6) (.cons (.nm 7) .nil)))))) (.call 5 (.cons (.attr (.var 0) (PySem.Str.ofString "runs")) (.cons (.var 1) .nil)))) (.seq (.ite (.and (.cmp .lt (.pk 3) (.pk 4)) (.cmp .eq (.pk 5) (.pk 3))) (.seq (.ret (.tup (.cons (.var 3) (.cons (.var 4) .nil)))) .skip) .skip) (.seq (.par [2] (.cons (.ite (.cmp .gt (.pk 5) (.pk 3)) (.bin .sub (.bin .add (.pk 5) (.pk 4)) (.pk 3)) (.var 5)) .nil)) (.seq (.ret (.tup (.cons (.var 2) (.cons (.var 2) .nil)))) .skip))))
def b_is_level : S := (.seq (.ret (.and (.call 1 (.cons (.var 1) .nil)) (.cmp .le (.pk 1) (.pk 0)))) .skip)
def b_after_run : S := (.seq (.par [3] (.cons (.bin .add (.pk 2) (.pk 0)) .nil)) (.seq (.ret (.tup (.cons (.bi .min2 (.cons (.pk 1) (.cons (.bi .max2 (.cons (.lit (.int (0))) (.cons (.pk 3) .nil))) .nil))) (.cons (.bi .max2 (.cons (.lit (.int (0))) (.cons (.neg (.var 3)) .nil))) (.cons (.bi .max2 (.cons (.lit (.int (0))) (.cons (.bin .sub (.pk 3) (.pk 1)) .nil))) .nil))))) .skip))
def b_walked_runs : S := (.seq (.par [4, 5] (.cons (.lst .nil) (.cons (.var 2) .nil))) (.seq (.for (.nm 3) (.var 0) (.seq (.mut .append 4 (.cons (.call 21 (.cons (.var 3) (.cons (.var 1) (.cons (.var 5) .nil)))) .nil)) (.seq (.par [5] (.cons (.idx (.idx (.pk 4) (.neg (.lit (.int (1))))) (.lit (.int (0)))) .nil)) .skip))) (.seq (.ret (.var 4)) .skip)))
def b_walked : S := (.seq (.ret (.call 22 (.cons (.attr (.var 0) (PySem.Str.ofString "runs")) (.cons (.var 1) (.cons (.var 2) .nil))))) .skip)
def b_levels : S := (.seq (.ret (.comp [3, 4, 5] (.tp (.cons (.nm 3) (.cons (.nm 4) (.cons (.nm 5) .nil)))) (.call 23 (.cons (.var 0) (.cons (.var 1) (.cons (.var 2) .nil)))) (.lit (.bl true)) (.var 3))) .skip)
def b_level_after : S := (.seq (.ret (.idx (.call 24 (.cons (.var 0) (.cons (.var 1) (.cons (.var 2) .nil)))) (.neg (.lit (.int (1)))))) .skip)
def b_bought_in : S := (.seq (.ret (.bi .sum (.cons (.comp [3, 4, 5] (.tp (.cons (.nm 3) (.cons (.nm 4) (.cons (.nm 5) .nil)))) (.call 23 (.cons (.var 0) (.cons (.var 1) (.cons (.var 2) .nil)))) (.lit (.bl true)) (.var 4)) .nil))) .skip)
def b_spilled_in : S := (.seq (.ret (.bi .sum (.cons (.comp [3, 4, 5] (.tp (.cons (.nm 3) (.cons (.nm 4) (.cons (.nm 5) .nil)))) (.call 23 (.cons (.var 0) (.cons (.var 1) (.cons (.var 2) .nil)))) (.lit (.bl true)) (.var 5)) .nil))) .skip)
def b_is_turn : S := (.seq (.ret (.cmp .ne (.cmp .gt (.idx (.pk 0) (.var 1)) (.lit (.int (0)))) (.cmp .gt (.idx (.pk 0) (.bin .sub (.pk 1) (.lit (.int (1))))) (.lit (.int (0)))))) .skip)
def b_ring_of : S := (.seq (.par [1] (.cons (.comp [5] (.nm 5) (.rng (.cons (.bi .len (.cons (.pk 0) .nil)) .nil)) (.call 28 (.cons (.var 0) (.cons (.var 5) .nil))) (.var 5)) .nil)) (.seq (.ite (.cmp .eq (.bi .len (.cons (.pk 1) .nil)) (.lit (.int (0)))) (.seq (.ret (.tup (.cons (.bi .sum (.cons (.pk 0) .nil)) .nil))) .skip) .skip) (.seq (.par [2] (.cons (.lst (.star (.slice (.pk 0) (.idx (.pk 1) (.lit (.int (0)))) .no) (.star (.slice (.pk 0) .no (.idx (.pk 1) (.lit (.int (0))))) .nil))) .nil)) (.seq (.par [3] (.cons (.lst .nil) .nil)) (.seq (.for (.nm 4) (.var 2) (.seq (.ite (.and (.cmp .gt (.bi .len (.cons (.pk 3) .nil)) (.lit (.int (0)))) (.cmp .eq (.cmp .gt (.pk 4) (.lit (.int (0)))) (.cmp .gt (.idx (.pk 3) (.neg (.lit (.int (1))))) (.lit (.int (0)))))) (.seq (.par [3] (.cons (.lst (.star (.slice (.pk 3) .no (.neg (.lit (.int (1))))) (.cons (.bin .add (.idx (.pk 3) (.neg (.lit (.int (1))))) (.pk 4)) .nil))) .nil)) .skip) (.seq (.par [3] (.cons (.lst (.star (.pk 3) (.cons (.var 4) .nil))) .nil)) .skip)) .skip)) (.seq (.ret (.bi .toTup (.cons (.pk 3) .nil))) .skip))))))
def b_swings_of : S := (.seq (.par [1] (.cons (.call 29 (.cons (.var 0) .nil)) .nil)) (.seq (.par [2] (.cons (.lst .nil) .nil)) (.seq (.while (.cmp .gt (.bi .len (.cons (.pk 1) .nil)) (.glob (PySem.Str.ofString "PAIR") (.int (2)))) (.seq (.par [3] (.cons (.comp [6] (.nm 6) (.var 1) (.lit (.bl true)) (.bi .abs (.cons (.pk 6) .nil))) .nil)) (.seq (.par [4] (.cons (.bm .index (.pk 3) (.cons (.bi .min1 (.cons (.pk 3) .nil)) .nil)) .nil)) (.seq (.par [2] (.cons (.lst (.star (.pk 2) (.cons (.idx (.pk 3) (.var 4)) .nil))) .nil)) (.seq (.par [5] (.cons (.lst (.star (.slice (.pk 1) (.var 4) .no) (.star (.slice (.pk 1) .no (.var 4)) .nil))) .nil)) (.seq (.par [1] (.cons (.lst (.cons (.bin .add (.bin .add (.idx (.pk 5) (.neg (.lit (.int (1))))) (.idx (.pk 5) (.lit (.int (0))))) (.idx (.pk 5) (.lit (.int (1))))) (.star (.slice (.pk 5) (.glob (PySem.Str.ofString "PAIR") (.int (2))) (.neg (.lit (.int (1))))) .nil))) .nil)) .skip)))))) (.seq (.ite (.cmp .eq (.bi .len (.cons (.pk 1) .nil)) (.glob (PySem.Str.ofString "PAIR") (.int (2)))) (.seq (.par [2] (.cons (.lst (.star (.pk 2) (.cons (.bi .min1 (.cons (.comp [6] (.nm 6) (.var 1) (.lit (.bl true)) (.bi .abs (.cons (.pk 6) .nil))) .nil)) .nil))) .nil)) .skip) .skip) (.seq (.ret (.bi .toTup (.cons (.rev (.bi .sorted (.cons (.pk 2) .nil))) .nil))) .skip)))))
def b__law_box : S := (.seq (.par [2] (.cons (.ite (.cmp .lt (.pk 1) (.bi .len (.cons (.pk 0) .nil))) (.idx (.pk 0) (.var 1)) (.lit (.int (0)))) .nil)) (.seq (.ret (.lst (.cons (.bin .mul (.bi .abs (.cons (.pk 2) .nil)) (.bi .toInt (.cons (.cmp .ge (.bi .abs (.cons (.pk 2) .nil)) (.bin .pow (.lit (.int (10))) (.lit (.int (18))))) .nil))) (.cons (.bin .add (.bin .add (.bin .mod (.bi .toInt (.cons (.pk 2) .nil)) (.lit (.int (2305843009213693951)))) (.bin .mul (.lit (.int (39551))) (.pk 1))) (.lit (.int (821577)))) (.cons (.lit (.int (0))) .nil))))) .skip))
def b__law_take : S := (.seq (.ite (.cmp .gt (.idx (.pk 0) (.lit (.int (0)))) (.lit (.int (0)))) (.seq (.par [5] (.cons (.bin .mod (.bi .toInt (.cons (.idx (.pk 0) (.lit (.int (0)))) .nil)) (.pk 1)) .nil)) (.seq (.asg (.ix 0 (.lit (.int (0)))) (.bin .fdiv (.idx (.pk 0) (.lit (.int (0)))) (.pk 1))) (.seq (.ret (.var 5)) .skip))) .skip) (.seq (.asg (.ix 0 (.lit (.int (2)))) (.bin .add (.idx (.pk 0) (.lit (.int (2)))) (.lit (.int (1))))) (.seq (.par [2] (.cons (.bin .mod (.bi .toInt (.cons (.bin .mul (.bin .add (.idx (.pk 0) (.lit (.int (1)))) (.bin .mul (.lit (.int (48271))) (.idx (.pk 0) (.lit (.int (2)))))) (.bin .add (.lit (.int (39373))) (.idx (.pk 0) (.lit (.int (2)))))) .nil)) (.lit (.int (2147483647)))) .nil)) (.seq (.par [3] (.cons (.bin .add (.bin .mod (.bi .toInt (.cons (.pk 2) .nil)) (.lit (.int (40009)))) (.lit (.int (7)))) .nil)) (.seq (.par [4] (.cons (.bin .mod (.bi .toInt (.cons (.bin .mul (.bin .add (.bin .add (.pk 2) (.idx (.pk 0) (.lit (.int (2))))) (.bin .fdiv (.idx (.pk 0) (.lit (.int (1)))) (.lit (.int (1000003))))) (.pk 3)) .nil)) (.lit (.int (2147483629)))) .nil)) (.seq (.ret (.bin .mod (.bi .toInt (.cons (.bin .fdiv (.bin .mod (.bi .toInt (.cons (.bin .add (.bin .mul (.pk 4) (.lit (.int (48271)))) (.pk 2)) .nil)) (.lit (.int (2147483587)))) (.lit (.int (64)))) .nil)) (.pk 1))) .skip))))))
def b__law_cells : S := (.seq (.par [2] (.cons (.orL (.bi .toLst (.cons (.slice (.pk 0) .no (.var 1)) .nil)) (.lst (.cons (.lit (.int (0))) .nil))) .nil)) (.seq (.for (.tp (.cons (.nm 3) (.cons (.nm 4) .nil))) (.enum (.cons (.slice (.pk 0) (.var 1) (.lit (.int (63)))) .nil)) (.seq (.par [5] (.cons (.bin .mod (.bi .toInt (.cons (.pk 3) .nil)) (.pk 1)) .nil)) (.seq (.asg (.ix 2 (.var 5)) (.bin .add (.idx (.pk 2) (.var 5)) (.bin .mul (.pk 4) (.bin .add (.pk 3) (.lit (.int (2))))))) .skip))) (.seq (.ret (.var 2)) .skip)))
def b__law_of : S := (.seq (.ret (.idx (.pk 1) (.call 32 (.cons (.ref 0) (.cons (.bi .len (.cons (.pk 1) .nil)) .nil))))) .skip)
def b__law_same : S := (.seq (.ite (.isi (.pk 1) [.list, .tuple]) (.seq (.ite (.or (.cmp .ne (.isi (.pk 0) [.list]) (.isi (.pk 1) [.list])) (.cmp .ne (.isi (.pk 0) [.tuple]) (.isi (.pk 1) [.tuple]))) (.seq (.ret (.lit (.bl false))) .skip) .skip) (.seq (.ret (.and (.cmp .eq (.bi .len (.cons (.pk 0) .nil)) (.bi .len (.cons (.pk 1) .nil))) (.bi .all (.cons (.comp [2, 3] (.tp (.cons (.nm 2) (.cons (.nm 3) .nil))) (.zip (.cons (.var 0) (.cons (.var 1) .nil))) (.lit (.bl true)) (.call 35 (.cons (.var 2) (.cons (.var 3) .nil)))) .nil)))) .skip)) .skip) (.seq (.ite (.or (.cmp .isn (.pk 1) (.lit .non)) (.isi (.pk 1) [.bool, .str])) (.seq (.ret (.and (.cmp .eq (.pk 0) (.pk 1)) (.and (.cmp .eq (.isi (.pk 0) [.bool]) (.isi (.pk 1) [.bool])) (.cmp .eq (.cmp .isn (.pk 0) (.lit .non)) (.cmp .isn (.pk 1) (.lit .non)))))) .skip) .skip) (.seq (.ret (.and (.isi (.pk 0) [.int]) (.and (.not (.isi (.pk 0) [.bool])) (.cmp .eq (.pk 0) (.pk 1))))) .skip)))
def b__law_lists : S := (.seq (.ret (.ite (.isi (.pk 0) [.list, .tuple]) (.comp [1] (.nm 1) (.var 0) (.lit (.bl true)) (.call 36 (.cons (.var 1) .nil))) (.var 0))) .skip)
def b__law_soft : S := (.seq (.ret (.ite (.cmp .eq (.call 32 (.cons (.ref 0) (.cons (.lit (.int (3))) .nil))) (.lit (.int (0)))) (.call 36 (.cons (.var 1) .nil)) (.var 1))) .skip)
def b__law_runs : S := (.seq (.par [3] (.cons (.lst .nil) .nil)) (.seq (.for (.nm 4) (.rng (.cons (.bin .add (.lit (.int (1))) (.call 32 (.cons (.ref 0) (.cons (.var 1) .nil)))) .nil)) (.seq (.par [5] (.cons (.bin .add (.lit (.int (1))) (.call 32 (.cons (.ref 0) (.cons (.var 2) .nil)))) .nil)) (.seq (.mut .append 3 (.cons (.ite (.cmp .eq (.call 32 (.cons (.ref 0) (.cons (.lit (.int (2))) .nil))) (.lit (.int (0)))) (.var 5) (.bin .sub (.lit (.int (0))) (.pk 5))) .nil)) .skip))) (.seq (.ret (.bi .toTup (.cons (.pk 3) .nil))) .skip)))
def b__law_walk : S := (.seq (.par [4, 5] (.cons (.var 2) (.cons (.lst .nil) .nil))) (.seq (.for (.nm 3) (.var 0) (.seq (.par [6] (.cons (.bin .add (.pk 4) (.pk 3)) .nil)) (.seq (.par [4] (.cons (.bi .min2 (.cons (.pk 1) (.cons (.bi .max2 (.cons (.lit (.int (0))) (.cons (.pk 6) .nil))) .nil))) .nil)) (.seq (.mut .append 5 (.cons (.tup (.cons (.var 4) (.cons (.bi .max2 (.cons (.lit (.int (0))) (.cons (.bin .sub (.lit (.int (0))) (.pk 6)) .nil))) (.cons (.bi .max2 (.cons (.lit (.int (0))) (.cons (.bin .sub (.pk 6) (.pk 1)) .nil))) .nil)))) .nil)) .skip)))) (.seq (.ret (.var 5)) .skip)))
def b__law_behind : S := (.seq (.par [3] (.cons (.call 39 (.cons (.var 0) (.cons (.var 1) (.cons (.var 2) .nil)))) .nil)) (.seq (.ret (.tup (.cons (.idx (.idx (.pk 3) (.neg (.lit (.int (1))))) (.lit (.int (0)))) (.cons (.bi .sum (.cons (.comp [4] (.nm 4) (.var 3) (.lit (.bl true)) (.idx (.pk 4) (.lit (.int (1))))) .nil)) (.cons (.bi .sum (.cons (.comp [4] (.nm 4) (.var 3) (.lit (.bl true)) (.idx (.pk 4) (.lit (.int (2))))) .nil)) .nil))))) .skip))
def b__law_long : S := (.seq (.par [2] (.cons (.lit (.int (0))) .nil)) (.seq (.for (.nm 3) (.rng (.cons (.bin .add (.pk 1) (.lit (.int (2)))) .nil)) (.seq (.asg (.tp (.cons (.nm 4) (.cons (.nm 5) (.cons (.nm 6) .nil)))) (.call 40 (.cons (.var 0) (.cons (.var 1) (.cons (.var 2) .nil))))) (.seq (.ite (.cmp .eq (.pk 4) (.pk 2)) (.seq (.ret (.tup (.cons (.var 5) (.cons (.var 6) .nil)))) .skip) .skip) (.seq (.par [2] (.cons (.var 4) .nil)) .skip)))) (.seq (.ret (.lit .non)) .skip)))
def b__law_part_walk : S := (.seq (.asg (.tp (.cons (.nm 4) (.cons (.nm 5) (.cons (.nm 6) (.cons (.nm 7) (.cons (.nm 8) .nil)))))) (.var 0)) (.seq (.par [3] (.cons (.idx (.bi .sorted (.cons (.lst (.cons (.var 4) (.cons (.var 2) (.cons (.var 5) .nil)))) .nil)) (.lit (.int (1)))) .nil)) (.seq (.ret (.tup (.cons (.bin .sub (.bin .add (.pk 6) (.pk 3)) (.pk 4)) (.cons (.bin .add (.pk 7) (.bi .max2 (.cons (.lit (.int (0))) (.cons (.bin .sub (.pk 4) (.pk 2)) .nil)))) (.cons (.bin .add (.pk 8) (.bi .max2 (.cons (.lit (.int (0))) (.cons (.bin .sub (.pk 2) (.pk 5)) .nil)))) .nil))))) .skip)))
def b__law_row_walk : S := (.seq (.par [3] (.cons (.call 39 (.cons (.var 0) (.cons (.var 1) (.cons (.var 2) .nil)))) .nil)) (.seq (.ret (.tup (.cons (.ite (.cmp .ne (.pk 3) (.lst .nil)) (.idx (.idx (.pk 3) (.neg (.lit (.int (1))))) (.lit (.int (0)))) (.var 2)) (.cons (.bi .sum (.cons (.comp [4, 5, 6] (.tp (.cons (.nm 4) (.cons (.nm 5) (.cons (.nm 6) .nil)))) (.var 3) (.lit (.bl true)) (.var 5)) .nil)) (.cons (.bi .sum (.cons (.comp [4, 5, 6] (.tp (.cons (.nm 4) (.cons (.nm 5) (.cons (.nm 6) .nil)))) (.var 3) (.lit (.bl true)) (.var 6)) .nil)) .nil))))) .skip))
def b__law_is_part : S := (.seq (.asg (.tp (.cons (.nm 2) (.cons (.nm 3) (.cons (.nm 4) (.cons (.nm 5) (.cons (.nm 6) .nil)))))) (.var 1)) (.seq (.ret (.and (.cmp .ge (.bi .min1 (.cons (.pk 1) .nil)) (.lit (.int (0)))) (.and (.chain .le .le (.pk 2) (.pk 3) (.pk 0)) (.and (.cmp .le (.bin .sub (.bin .add (.pk 4) (.pk 3)) (.pk 2)) (.pk 0)) (.or (.cmp .eq (.pk 2) (.pk 3)) (.and (.cmp .eq (.pk 5) (.lit (.int (0)))) (.cmp .eq (.pk 6) (.lit (.int (0)))))))))) .skip))
def b__law_row : S := (.seq (.ret (.slice (.call 38 (.cons (.ref 0) (.cons (.var 1) (.cons (.lit (.int (4))) .nil)))) .no (.call 32 (.cons (.ref 0) (.cons (.bin .add (.pk 1) (.lit (.int (1)))) .nil))))) .skip)
def b_law_0 : S := (.par [1] (.cons (.call 31 (.cons (.call 33 (.cons (.var 0) (.cons (.lit (.int (1))) .nil))) (.cons (.lit (.int (0))) .nil))) .nil))
def b_law_1 : S := (.asg (.tp (.cons (.nm 15) (.cons (.nm 16) (.cons (.nm 17) .nil)))) (.tup (.cons (.call 32 (.cons (.ref 1) (.cons (.lit (.int (7))) .nil))) (.cons (.call 45 (.cons (.ref 1) (.cons (.lit (.int (5))) .nil))) (.cons (.call 45 (.cons (.ref 1) (.cons (.lit (.int (4))) .nil))) .nil)))))
def b_law_2 : S := (.par [18, 19] (.cons (.call 5 (.cons (.call 37 (.cons (.ref 1) (.cons (.var 16) .nil))) (.cons (.var 15) .nil))) (.cons (.call 5 (.cons (.var 17) (.cons (.var 15) .nil))) .nil)))
def b_law_3b_0 : S := (.par [3] (.cons (.comp [27] (.nm 27) (.rng (.cons (.bin .add (.pk 15) (.lit (.int (1)))) .nil)) (.lit (.bl true)) (.call 8 (.cons (.var 21) (.cons (.var 27) .nil)))) .nil))
def b_law_3b_1 : S := (.par [9] (.cons (.comp [27] (.nm 27) (.rng (.cons (.bin .add (.pk 15) (.lit (.int (1)))) .nil)) (.lit (.bl true)) (.call 43 (.cons (.var 20) (.cons (.var 15) (.cons (.var 27) .nil))))) .nil))
def b_law_3b_2t_0 : S := (.ret (.lit (.bl false)))
def b_law_3b_2t : S := .seq b_law_3b_2t_0 (.skip)
def b_law_3b_2 : S := (.ite (.or (.not (.call 35 (.cons (.lst (.cons (.var 3) (.cons (.call 7 (.cons (.var 15) (.cons (.var 21) .nil))) (.cons (.call 7 (.cons (.var 15) (.cons (.bi .toLst (.cons (.pk 21) .nil)) .nil))) .nil)))) (.cons (.lst (.cons (.var 9) (.cons (.lit (.bl true)) (.cons (.lit (.bl false)) .nil)))) .nil)))) (.not (.call 44 (.cons (.var 15) (.cons (.var 21) .nil))))) b_law_3b_2t .skip)
def b_law_3b_3t_0 : S := (.ret (.lit (.bl false)))
def b_law_3b_3t : S := .seq b_law_3b_3t_0 (.skip)
def b_law_3b_3 : S := (.ite (.or (.cmp .ne (.pk 9) (.comp [27] (.nm 27) (.rng (.cons (.bin .add (.pk 15) (.lit (.int (1)))) .nil)) (.lit (.bl true)) (.call 42 (.cons (.var 21) (.cons (.var 15) (.cons (.var 27) .nil)))))) (.cmp .ne (.pk 21) (.call 5 (.cons (.var 20) (.cons (.var 15) .nil))))) b_law_3b_3t .skip)
def b_law_3b : S := .seq b_law_3b_0 (.seq b_law_3b_1 (.seq b_law_3b_2 (.seq b_law_3b_3 (.skip))))
def b_law_3 : S := (.for (.tp (.cons (.nm 20) (.cons (.nm 21) .nil))) (.tup (.cons (.tup (.cons (.var 16) (.cons (.var 18) .nil))) (.cons (.tup (.cons (.var 17) (.cons (.var 19) .nil))) (.cons (.tup (.cons (.bin .add (.pk 16) (.pk 17)) (.cons (.call 4 (.cons (.var 18) (.cons (.call 37 (.cons (.ref 1) (.cons (.var 19) .nil))) .nil))) .nil))) (.cons (.tup (.cons (.bin .mul (.pk 16) (.lit (.int (3)))) (.cons (.call 6 (.cons (.var 18) (.cons (.lit (.int (3))) .nil))) .nil))) .nil))))) b_law_3b)
def b_law_4b_0 : S := (.par [22] (.cons (.bin .add (.bi .toTup (.cons (.comp [34] (.nm 34) (.rng (.cons (.lit (.int (3))) .nil)) (.lit (.bl true)) (.call 32 (.cons (.ref 1) (.cons (.bin .add (.pk 15) (.lit (.int (3)))) .nil)))) .nil)) (.tup (.cons (.call 34 (.cons (.ref 1) (.cons (.lst (.cons (.lit (.int (0))) (.cons (.lit (.int (0))) (.cons (.lit (.int (2))) .nil)))) .nil))) (.cons (.call 34 (.cons (.ref 1) (.cons (.lst (.cons (.lit (.int (0))) (.cons (.lit (.int (0))) (.cons (.lit (.int (1))) .nil)))) .nil))) .nil)))) .nil))
def b_law_4b_1 : S := (.par [23] (.cons (.call 44 (.cons (.var 15) (.cons (.var 22) .nil))) .nil))
def b_law_4b_2t_0 : S := (.ret (.lit (.bl false)))
def b_law_4b_2t : S := .seq b_law_4b_2t_0 (.skip)
def b_law_4b_2 : S := (.ite (.cmp .ne (.call 7 (.cons (.var 15) (.cons (.var 22) .nil))) (.pk 23)) b_law_4b_2t .skip)
def b_law_4b_3t_0 : S := (.par [32] (.cons (.call 9 (.cons (.var 15) (.cons (.call 37 (.cons (.ref 1) (.cons (.var 22) .nil))) .nil))) .nil))
def b_law_4b_3t_1 : S := (.par [3] (.cons (.lst (.cons (.cmp .lt (.bi .len (.cons (.pk 32) .nil)) (.lit (.int (6)))) (.cons (.isi (.pk 32) [.tuple]) (.cons (.call 5 (.cons (.var 32) (.cons (.var 15) .nil))) (.cons (.comp [27] (.nm 27) (.rng (.cons (.bin .add (.pk 15) (.lit (.int (1)))) .nil)) (.lit (.bl true)) (.call 43 (.cons (.var 32) (.cons (.var 15) (.cons (.var 27) .nil))))) .nil))))) .nil))
def b_law_4b_3t_2t_0 : S := (.ret (.lit (.bl false)))
def b_law_4b_3t_2t : S := .seq b_law_4b_3t_2t_0 (.skip)
def b_law_4b_3t_2 : S := (.ite (.or (.not (.call 35 (.cons (.var 3) (.cons (.lst (.cons (.lit (.bl true)) (.cons (.lit (.bl true)) (.cons (.var 22) (.cons (.comp [27] (.nm 27) (.rng (.cons (.bin .add (.pk 15) (.lit (.int (1)))) .nil)) (.lit (.bl true)) (.call 42 (.cons (.var 22) (.cons (.var 15) (.cons (.var 27) .nil))))) .nil))))) .nil)))) (.cmp .ne (.comp [35] (.nm 35) (.var 32) (.cmp .eq (.pk 35) (.lit (.int (0)))) (.var 35)) (.lst .nil))) b_law_4b_3t_2t .skip)
def b_law_4b_3t : S := .seq b_law_4b_3t_0 (.seq b_law_4b_3t_1 (.seq b_law_4b_3t_2 (.skip)))
def b_law_4b_3 : S := (.ite (.var 23) b_law_4b_3t .skip)
def b_law_4b : S := .seq b_law_4b_0 (.seq b_law_4b_1 (.seq b_law_4b_2 (.seq b_law_4b_3 (.skip))))
def b_law_4 : S := (.for (.nm 2) (.rng (.cons (.lit (.int (12))) .nil)) b_law_4b)
def b_law_5 : S := (.par [3] (.cons (.lst (.cons (.call 7 (.cons (.var 15) (.cons (.slice (.pk 18) .no (.lit (.int (4)))) .nil))) (.cons (.call 7 (.cons (.var 15) (.cons (.bin .add (.slice (.pk 18) .no (.lit (.int (4)))) (.tup (.cons (.lit (.bl true)) .nil))) .nil))) (.cons (.comp [27] (.nm 27) (.tup (.cons (.neg (.lit (.int (1)))) (.cons (.lit (.int (0))) (.cons (.var 15) (.cons (.bin .add (.pk 15) (.lit (.int (1)))) .nil))))) (.lit (.bl true)) (.call 20 (.cons (.var 15) (.cons (.var 27) .nil)))) (.cons (.call 20 (.cons (.var 15) (.cons (.lit (.bl true)) .nil))) (.cons (.call 5 (.cons (.tup .nil) (.cons (.var 15) .nil))) .nil)))))) .nil))
def b_law_6t_0 : S := (.ret (.lit (.bl false)))
def b_law_6t : S := .seq b_law_6t_0 (.skip)
def b_law_6 : S := (.ite (.not (.call 35 (.cons (.var 3) (.cons (.lst (.cons (.lit (.bl false)) (.cons (.lit (.bl false)) (.cons (.lst (.cons (.lit (.bl false)) (.cons (.lit (.bl true)) (.cons (.lit (.bl true)) (.cons (.lit (.bl false)) .nil))))) (.cons (.lit (.bl false)) (.cons (.tup (.cons (.lit (.int (0))) (.cons (.var 15) (.cons (.lit (.int (0))) (.cons (.lit (.int (0))) (.cons (.lit (.int (0))) .nil)))))) .nil)))))) .nil)))) b_law_6t .skip)
def b_law_7t_0 : S := (.ret (.lit (.bl true)))
def b_law_7t : S := .seq b_law_7t_0 (.skip)
def b_law_7 : S := (.ite (.cmp .eq (.pk 16) (.tup .nil)) b_law_7t .skip)
def b_law_8 : S := (.asg (.tp (.cons (.nm 24) (.cons (.nm 25) .nil))) (.tup (.cons (.call 54 (.cons (.var 16) .nil)) (.cons (.call 32 (.cons (.ref 1) (.cons (.bin .add (.pk 15) (.lit (.int (1)))) .nil))) .nil))))
def b_law_9 : S := (.par [26, 27, 28] (.cons (.lst .nil) (.cons (.var 25) (.cons (.lst (.cons (.tup (.cons (.var 25) (.cons (.lit (.int (0))) (.cons (.lit (.int (0))) .nil)))) .nil)) .nil))))
def b_law_10b_0b_0 : S := (.mut .append 28 (.cons (.tup (.cons (.idx (.pk 29) (.lit (.int (0)))) (.cons (.bin .add (.idx (.idx (.pk 28) (.neg (.lit (.int (1))))) (.lit (.int (1)))) (.idx (.pk 29) (.lit (.int (1))))) (.cons (.bin .add (.idx (.idx (.pk 28) (.neg (.lit (.int (1))))) (.lit (.int (2)))) (.idx (.pk 29) (.lit (.int (2))))) .nil)))) .nil))
def b_law_10b_0b : S := .seq b_law_10b_0b_0 (.skip)
def b_law_10b_0 : S := (.for (.nm 29) (.call 39 (.cons (.var 16) (.cons (.var 15) (.cons (.var 27) .nil)))) b_law_10b_0b)
def b_law_10b_1 : S := (.par [27] (.cons (.idx (.idx (.pk 28) (.neg (.lit (.int (1))))) (.lit (.int (0)))) .nil))
def b_law_10b : S := .seq b_law_10b_0 (.seq b_law_10b_1 (.skip))
def b_law_10 : S := (.for (.nm 4) (.rng (.cons (.lit (.int (6))) .nil)) b_law_10b)
def b_law_11 : S := (.par [3, 9] (.cons (.lst .nil) (.cons (.lst .nil) .nil)))
def b_law_12b_0 : S := (.par [3] (.cons (.bin .add (.pk 3) (.lst (.cons (.call 13 (.cons (.var 24) (.cons (.var 15) (.cons (.var 25) (.cons (.var 5) .nil))))) (.cons (.call 14 (.cons (.var 24) (.cons (.var 15) (.cons (.var 25) (.cons (.var 5) .nil))))) (.cons (.call 15 (.cons (.var 24) (.cons (.var 15) (.cons (.var 25) (.cons (.var 5) .nil))))) .nil))))) .nil))
def b_law_12b_1 : S := (.par [9] (.cons (.bin .add (.pk 9) (.bi .toLst (.cons (.idx (.pk 28) (.var 5)) .nil))) .nil))
def b_law_12b : S := .seq b_law_12b_0 (.seq b_law_12b_1 (.skip))
def b_law_12 : S := (.for (.nm 5) (.rng (.cons (.bin .add (.bin .mul (.bi .len (.cons (.pk 16) .nil)) (.lit (.int (6)))) (.lit (.int (1)))) .nil)) b_law_12b)
def b_law_13t_0 : S := (.ret (.lit (.bl false)))
def b_law_13t : S := .seq b_law_13t_0 (.skip)
def b_law_13 : S := (.ite (.not (.call 35 (.cons (.var 3) (.cons (.var 9) .nil)))) b_law_13t .skip)
def b_law_14 : S := (.par [6] (.cons (.comp [29] (.nm 29) (.rng (.cons (.bin .add (.pk 15) (.lit (.int (1)))) .nil)) (.cmp .eq (.idx (.call 40 (.cons (.var 16) (.cons (.var 15) (.cons (.var 29) .nil)))) (.lit (.int (0)))) (.pk 29)) (.var 29)) .nil))
def b_law_15 : S := (.par [30, 31] (.cons (.bin .pow (.lit (.int (10))) (.lit (.int (20)))) (.cons (.call 32 (.cons (.ref 1) (.cons (.bin .add (.bi .len (.cons (.pk 16) .nil)) (.lit (.int (1)))) .nil))) .nil)))
def b_law_16 : S := (.par [7] (.cons (.idx (.pk 6) (.lit (.int (0)))) .nil))
def b_law_17 : S := (.par [8] (.cons (.call 43 (.cons (.slice (.pk 16) .no (.var 31)) (.cons (.var 15) (.cons (.var 7) .nil)))) .nil))
def b_law_18 : S := (.par [3] (.cons (.lst (.cons (.call 19 (.cons (.var 24) (.cons (.var 15) .nil))) (.cons (.call 13 (.cons (.var 24) (.cons (.var 15) (.cons (.var 7) (.cons (.bin .add (.bin .mul (.bi .len (.cons (.pk 16) .nil)) (.pk 30)) (.pk 31)) .nil))))) (.cons (.call 14 (.cons (.var 24) (.cons (.var 15) (.cons (.var 7) (.cons (.bin .add (.bin .mul (.bi .len (.cons (.pk 16) .nil)) (.pk 30)) (.pk 31)) .nil))))) (.cons (.call 15 (.cons (.var 24) (.cons (.var 15) (.cons (.var 7) (.cons (.bin .add (.bin .mul (.bi .len (.cons (.pk 16) .nil)) (.pk 30)) (.pk 31)) .nil))))) .nil))))) .nil))
def b_law_19 : S := (.par [9] (.cons (.lst (.cons (.tup (.cons (.idx (.pk 6) (.lit (.int (0)))) (.cons (.idx (.pk 6) (.neg (.lit (.int (1))))) .nil))) (.cons (.idx (.pk 8) (.lit (.int (0)))) (.cons (.bin .add (.bin .mul (.call 17 (.cons (.var 24) (.cons (.var 15) .nil))) (.pk 30)) (.idx (.pk 8) (.lit (.int (1))))) (.cons (.bin .add (.bin .mul (.call 18 (.cons (.var 24) (.cons (.var 15) .nil))) (.pk 30)) (.idx (.pk 8) (.lit (.int (2))))) .nil))))) .nil))
def b_law_20 : S := (.par [10] (.cons (.call 6 (.cons (.var 18) (.cons (.var 30) .nil))) .nil))
def b_law_21 : S := (.par [3, 9] (.cons (.bin .add (.pk 3) (.lst (.cons (.call 8 (.cons (.var 10) (.cons (.var 7) .nil))) (.cons (.cmp .eq (.call 5 (.cons (.var 16) (.cons (.var 15) .nil))) (.pk 18)) .nil)))) (.cons (.bin .add (.pk 9) (.lst (.cons (.tup (.cons (.var 7) (.cons (.bin .mul (.idx (.call 41 (.cons (.var 16) (.cons (.var 15) .nil))) (.lit (.int (0)))) (.pk 30)) (.cons (.bin .mul (.idx (.call 41 (.cons (.var 16) (.cons (.var 15) .nil))) (.lit (.int (1)))) (.pk 30)) .nil)))) (.cons (.lit (.bl true)) .nil)))) .nil)))
def b_law_22 : S := (.par [11] (.cons (.comp [33] (.nm 33) (.rng (.cons (.bin .add (.pk 15) (.lit (.int (1)))) .nil)) (.cmp .eq (.call 26 (.cons (.var 24) (.cons (.var 15) (.cons (.var 33) .nil)))) (.lit (.int (0)))) (.var 33)) .nil))
def b_law_23 : S := (.par [12] (.cons (.comp [33] (.nm 33) (.rng (.cons (.bin .add (.pk 15) (.lit (.int (1)))) .nil)) (.cmp .eq (.call 27 (.cons (.var 24) (.cons (.var 15) (.cons (.var 33) .nil)))) (.lit (.int (0)))) (.var 33)) .nil))
def b_law_24 : S := (.par [13] (.cons (.comp [33] (.nm 33) (.rng (.cons (.bin .add (.pk 15) (.lit (.int (1)))) .nil)) (.cmp .eq (.idx (.call 40 (.cons (.var 16) (.cons (.var 15) (.cons (.var 33) .nil)))) (.lit (.int (1)))) (.lit (.int (0)))) (.var 33)) .nil))
def b_law_25 : S := (.par [14] (.cons (.comp [33] (.nm 33) (.rng (.cons (.bin .add (.pk 15) (.lit (.int (1)))) .nil)) (.cmp .eq (.idx (.call 40 (.cons (.var 16) (.cons (.var 15) (.cons (.var 33) .nil)))) (.lit (.int (2)))) (.lit (.int (0)))) (.var 33)) .nil))
def b_law_26 : S := (.par [3] (.cons (.bin .add (.pk 3) (.lst (.cons (.call 10 (.cons (.var 24) (.cons (.var 15) .nil))) (.cons (.call 11 (.cons (.var 24) (.cons (.var 15) .nil))) (.cons (.var 11) (.cons (.var 12) (.cons (.call 25 (.cons (.var 24) (.cons (.var 15) (.cons (.var 25) .nil)))) .nil))))))) .nil))
def b_law_27 : S := (.par [9] (.cons (.bin .add (.pk 9) (.lst (.cons (.ite (.cmp .ne (.pk 13) (.lst .nil)) (.idx (.pk 13) (.lit (.int (0)))) (.lit .non)) (.cons (.ite (.cmp .ne (.pk 14) (.lst .nil)) (.idx (.pk 14) (.neg (.lit (.int (1))))) (.lit .non)) (.cons (.var 13) (.cons (.var 14) (.cons (.idx (.call 40 (.cons (.var 16) (.cons (.var 15) (.cons (.var 25) .nil)))) (.lit (.int (0)))) .nil))))))) .nil))
def b_law_28 : S := (.ret (.call 35 (.cons (.var 3) (.cons (.var 9) .nil))))
def b_law : S := .seq b_law_0 (.seq b_law_1 (.seq b_law_2 (.seq b_law_3 (.seq b_law_4 (.seq b_law_5 (.seq b_law_6 (.seq b_law_7 (.seq b_law_8 (.seq b_law_9 (.seq b_law_10 (.seq b_law_11 (.seq b_law_12 (.seq b_law_13 (.seq b_law_14 (.seq b_law_15 (.seq b_law_16 (.seq b_law_17 (.seq b_law_18 (.seq b_law_19 (.seq b_law_20 (.seq b_law_21 (.seq b_law_22 (.seq b_law_23 (.seq b_law_24 (.seq b_law_25 (.seq b_law_26 (.seq b_law_27 (.seq b_law_28 (.skip)))))))))))))))))))))))))))))
def b_Year_heap : S := (.seq (.ret (.tup (.cons (.attr (.var 0) (PySem.Str.ofString "wants")) (.cons (.attr (.var 0) (PySem.Str.ofString "swings")) .nil)))) .skip)
def b_Year_swings : S := (.seq (.ret (.attr (.var 0) (PySem.Str.ofString "own_swings"))) .skip)
def b_Year_wants : S := (.seq (.ret (.bi .max2 (.cons (.lit (.int (0))) (.cons (.bin .sub (.attr (.var 0) (PySem.Str.ofString "draws")) (.attr (.var 0) (PySem.Str.ofString "rain"))) .nil)))) .skip)
def b_Year_draws : S := (.seq (.ret (.bi .sum (.cons (.comp [1] (.nm 1) (.attr (.var 0) (PySem.Str.ofString "own_runs")) (.cmp .lt (.pk 1) (.lit (.int (0)))) (.neg (.var 1))) .nil))) .skip)
def b_Year_rain : S := (.seq (.ret (.bi .sum (.cons (.comp [1] (.nm 1) (.attr (.var 0) (PySem.Str.ofString "own_runs")) (.cmp .gt (.pk 1) (.lit (.int (0)))) (.var 1)) .nil))) .skip)
def b_Year_runs : S := (.seq (.ret (.attr (.var 0) (PySem.Str.ofString "own_runs"))) .skip)
def b_Year_spare : S := (.seq (.ret (.bi .max2 (.cons (.lit (.int (0))) (.cons (.bin .sub (.attr (.var 0) (PySem.Str.ofString "rain")) (.attr (.var 0) (PySem.Str.ofString "draws"))) .nil)))) .skip)
def tbL : List Fd := [{ names := 1, pars := 1, body := b_is_number },
  { names := 1, pars := 1, body := b_is_count },
  { names := 3, pars := 2, body := b_run_part },
  { names := 3, pars := 3, body := b_middle },
  { names := 17, pars := 2, body := b_then },
  { names := 4, pars := 2, body := b_part_of },
  { names := 5, pars := 2, body := b_times },
  { names := 8, pars := 2, body := b_is_part },
  { names := 7, pars := 2, body := b_through },
  { names := 10, pars := 2, body := b_runs_for },
  { names := 7, pars := 2, body := b_least_first },
  { names := 7, pars := 2, body := b_most_first },
  { names := 6, pars := 3, body := b_far_part },
  { names := 4, pars := 4, body := b_level_on },
  { names := 4, pars := 4, body := b_bought_by },
  { names := 4, pars := 4, body := b_spilled_by },
  { names := 5, pars := 2, body := b_bought_by_heap },
  { names := 2, pars := 2, body := b_bought },
  { names := 2, pars := 2, body := b_spilled },
  { names := 8, pars := 2, body := b_rests },
  { names := 2, pars := 2, body := b_is_level },
  { names := 4, pars := 3, body := b_after_run },
  { names := 6, pars := 3, body := b_walked_runs },
  { names := 3, pars := 3, body := b_walked },
  { names := 6, pars := 3, body := b_levels },
  { names := 3, pars := 3, body := b_level_after },
  { names := 6, pars := 3, body := b_bought_in },
  { names := 6, pars := 3, body := b_spilled_in },
  { names := 2, pars := 2, body := b_is_turn },
  { names := 6, pars := 1, body := b_ring_of },
  { names := 7, pars := 1, body := b_swings_of },
  { names := 3, pars := 2, body := b__law_box },
  { names := 6, pars := 2, body := b__law_take },
  { names := 6, pars := 2, body := b__law_cells },
  { names := 2, pars := 2, body := b__law_of },
  { names := 4, pars := 2, body := b__law_same },
  { names := 2, pars := 1, body := b__law_lists },
  { names := 2, pars := 2, body := b__law_soft },
  { names := 6, pars := 3, body := b__law_runs },
  { names := 7, pars := 3, body := b__law_walk },
  { names := 5, pars := 3, body := b__law_behind },
  { names := 7, pars := 2, body := b__law_long },
  { names := 9, pars := 3, body := b__law_part_walk },
  { names := 7, pars := 3, body := b__law_row_walk },
  { names := 7, pars := 2, body := b__law_is_part },
  { names := 2, pars := 2, body := b__law_row },
  { names := 36, pars := 1, body := b_law },
  { names := 1, pars := 1, body := b_Year_heap },
  { names := 1, pars := 1, body := b_Year_swings },
  { names := 1, pars := 1, body := b_Year_wants },
  { names := 2, pars := 1, body := b_Year_draws },
  { names := 2, pars := 1, body := b_Year_rain },
  { names := 1, pars := 1, body := b_Year_runs },
  { names := 1, pars := 1, body := b_Year_spare },
  { names := 0, pars := 1, body := .skip, year := some (0, 30) }]
def PT (g : Nat) : Option Fd := tbL[g]?
theorem p_is_number : PT 0 = some { names := 1, pars := 1, body := b_is_number } := rfl
theorem p_is_count : PT 1 = some { names := 1, pars := 1, body := b_is_count } := rfl
theorem p_run_part : PT 2 = some { names := 3, pars := 2, body := b_run_part } := rfl
theorem p_middle : PT 3 = some { names := 3, pars := 3, body := b_middle } := rfl
theorem p_then : PT 4 = some { names := 17, pars := 2, body := b_then } := rfl
theorem p_part_of : PT 5 = some { names := 4, pars := 2, body := b_part_of } := rfl
theorem p_times : PT 6 = some { names := 5, pars := 2, body := b_times } := rfl
theorem p_is_part : PT 7 = some { names := 8, pars := 2, body := b_is_part } := rfl
theorem p_through : PT 8 = some { names := 7, pars := 2, body := b_through } := rfl
theorem p_runs_for : PT 9 = some { names := 10, pars := 2, body := b_runs_for } := rfl
theorem p_least_first : PT 10 = some { names := 7, pars := 2, body := b_least_first } := rfl
theorem p_most_first : PT 11 = some { names := 7, pars := 2, body := b_most_first } := rfl
theorem p_far_part : PT 12 = some { names := 6, pars := 3, body := b_far_part } := rfl
theorem p_level_on : PT 13 = some { names := 4, pars := 4, body := b_level_on } := rfl
theorem p_bought_by : PT 14 = some { names := 4, pars := 4, body := b_bought_by } := rfl
theorem p_spilled_by : PT 15 = some { names := 4, pars := 4, body := b_spilled_by } := rfl
theorem p_bought_by_heap : PT 16 = some { names := 5, pars := 2, body := b_bought_by_heap } := rfl
theorem p_bought : PT 17 = some { names := 2, pars := 2, body := b_bought } := rfl
theorem p_spilled : PT 18 = some { names := 2, pars := 2, body := b_spilled } := rfl
theorem p_rests : PT 19 = some { names := 8, pars := 2, body := b_rests } := rfl
theorem p_is_level : PT 20 = some { names := 2, pars := 2, body := b_is_level } := rfl
theorem p_after_run : PT 21 = some { names := 4, pars := 3, body := b_after_run } := rfl
theorem p_walked_runs : PT 22 = some { names := 6, pars := 3, body := b_walked_runs } := rfl
theorem p_walked : PT 23 = some { names := 3, pars := 3, body := b_walked } := rfl
theorem p_levels : PT 24 = some { names := 6, pars := 3, body := b_levels } := rfl
theorem p_level_after : PT 25 = some { names := 3, pars := 3, body := b_level_after } := rfl
theorem p_bought_in : PT 26 = some { names := 6, pars := 3, body := b_bought_in } := rfl
theorem p_spilled_in : PT 27 = some { names := 6, pars := 3, body := b_spilled_in } := rfl
theorem p_is_turn : PT 28 = some { names := 2, pars := 2, body := b_is_turn } := rfl
theorem p_ring_of : PT 29 = some { names := 6, pars := 1, body := b_ring_of } := rfl
theorem p_swings_of : PT 30 = some { names := 7, pars := 1, body := b_swings_of } := rfl
theorem p__law_box : PT 31 = some { names := 3, pars := 2, body := b__law_box } := rfl
theorem p__law_take : PT 32 = some { names := 6, pars := 2, body := b__law_take } := rfl
theorem p__law_cells : PT 33 = some { names := 6, pars := 2, body := b__law_cells } := rfl
theorem p__law_of : PT 34 = some { names := 2, pars := 2, body := b__law_of } := rfl
theorem p__law_same : PT 35 = some { names := 4, pars := 2, body := b__law_same } := rfl
theorem p__law_lists : PT 36 = some { names := 2, pars := 1, body := b__law_lists } := rfl
theorem p__law_soft : PT 37 = some { names := 2, pars := 2, body := b__law_soft } := rfl
theorem p__law_runs : PT 38 = some { names := 6, pars := 3, body := b__law_runs } := rfl
theorem p__law_walk : PT 39 = some { names := 7, pars := 3, body := b__law_walk } := rfl
theorem p__law_behind : PT 40 = some { names := 5, pars := 3, body := b__law_behind } := rfl
theorem p__law_long : PT 41 = some { names := 7, pars := 2, body := b__law_long } := rfl
theorem p__law_part_walk : PT 42 = some { names := 9, pars := 3, body := b__law_part_walk } := rfl
theorem p__law_row_walk : PT 43 = some { names := 7, pars := 3, body := b__law_row_walk } := rfl
theorem p__law_is_part : PT 44 = some { names := 7, pars := 2, body := b__law_is_part } := rfl
theorem p__law_row : PT 45 = some { names := 2, pars := 2, body := b__law_row } := rfl
theorem p_law : PT 46 = some { names := 36, pars := 1, body := b_law } := rfl
theorem p_Year_heap : PT 47 = some { names := 1, pars := 1, body := b_Year_heap } := rfl
theorem p_Year_swings : PT 48 = some { names := 1, pars := 1, body := b_Year_swings } := rfl
theorem p_Year_wants : PT 49 = some { names := 1, pars := 1, body := b_Year_wants } := rfl
theorem p_Year_draws : PT 50 = some { names := 2, pars := 1, body := b_Year_draws } := rfl
theorem p_Year_rain : PT 51 = some { names := 2, pars := 1, body := b_Year_rain } := rfl
theorem p_Year_runs : PT 52 = some { names := 1, pars := 1, body := b_Year_runs } := rfl
theorem p_Year_spare : PT 53 = some { names := 1, pars := 1, body := b_Year_spare } := rfl
theorem p_Year : PT 54 = some { names := 0, pars := 1, body := .skip, year := some (0, 30) } := rfl
def prL : List (Str × Nat) := [(PySem.Str.ofString "heap", 47), (PySem.Str.ofString "swings", 48), (PySem.Str.ofString "wants", 49), (PySem.Str.ofString "draws", 50), (PySem.Str.ofString "rain", 51), (PySem.Str.ofString "runs", 52), (PySem.Str.ofString "spare", 53)]
def T0 : Tab := { field := fun c f => if c == 0 then (if f == PySem.Str.ofString "own_runs" then some 0 else if f == PySem.Str.ofString "own_swings" then some 1 else none) else none, prop := fun c f => if c == 0 then (prL.find? fun y => y.1 == f).map (·.2) else none }
@[simp] theorem tf_own_runs : T0.field 0 (PySem.Str.ofString "own_runs") = some 0 := by decide +kernel
@[simp] theorem tf_own_swings : T0.field 0 (PySem.Str.ofString "own_swings") = some 1 := by decide +kernel
@[simp] theorem tf_heap : T0.field 0 (PySem.Str.ofString "heap") = none := by decide +kernel
@[simp] theorem tp_heap : T0.prop 0 (PySem.Str.ofString "heap") = some 47 := by decide +kernel
@[simp] theorem tf_swings : T0.field 0 (PySem.Str.ofString "swings") = none := by decide +kernel
@[simp] theorem tp_swings : T0.prop 0 (PySem.Str.ofString "swings") = some 48 := by decide +kernel
@[simp] theorem tf_wants : T0.field 0 (PySem.Str.ofString "wants") = none := by decide +kernel
@[simp] theorem tp_wants : T0.prop 0 (PySem.Str.ofString "wants") = some 49 := by decide +kernel
@[simp] theorem tf_draws : T0.field 0 (PySem.Str.ofString "draws") = none := by decide +kernel
@[simp] theorem tp_draws : T0.prop 0 (PySem.Str.ofString "draws") = some 50 := by decide +kernel
@[simp] theorem tf_rain : T0.field 0 (PySem.Str.ofString "rain") = none := by decide +kernel
@[simp] theorem tp_rain : T0.prop 0 (PySem.Str.ofString "rain") = some 51 := by decide +kernel
@[simp] theorem tf_runs : T0.field 0 (PySem.Str.ofString "runs") = none := by decide +kernel
@[simp] theorem tp_runs : T0.prop 0 (PySem.Str.ofString "runs") = some 52 := by decide +kernel
@[simp] theorem tf_spare : T0.field 0 (PySem.Str.ofString "spare") = none := by decide +kernel
@[simp] theorem tp_spare : T0.prop 0 (PySem.Str.ofString "spare") = some 53 := by decide +kernel
end Mr

end
section
set_option linter.all false
/-! Mth1: walks with a butt; parts. Plain Lean. -/
namespace Mh
/-- the LEVEL behind a run -/
def cl (b x : Int) : Int := min b (max 0 x)
def lev (b : Int) : List Int → Int → Int
  | [], x => x
  | r :: rs, x => lev b rs (cl b (x + r))
def buy (b : Int) : List Int → Int → Int
  | [], _ => 0
  | r :: rs, x => max 0 (-(x + r)) + buy b rs (cl b (x + r))
def spl (b : Int) : List Int → Int → Int
  | [], _ => 0
  | r :: rs, x => max 0 (x + r - b) + spl b rs (cl b (x + r))
theorem lev_app (b : Int) : ∀ (rs ss : List Int) (x : Int), lev b (rs ++ ss) x = lev b ss (lev b rs x)
  | [], _, _ => rfl
  | r :: rs, ss, x => lev_app b rs ss _
theorem buy_app (b : Int) : ∀ (rs ss : List Int) (x : Int), buy b (rs ++ ss) x = buy b rs x + buy b ss (lev b rs x)
  | [], _, _ => by simp [buy, lev]
  | r :: rs, ss, x => by simp only [List.cons_append, buy, lev, buy_app b rs ss]; omega
theorem spl_app (b : Int) : ∀ (rs ss : List Int) (x : Int), spl b (rs ++ ss) x = spl b rs x + spl b ss (lev b rs x)
  | [], _, _ => by simp [spl, lev]
  | r :: rs, ss, x => by simp only [List.cons_append, spl, lev, spl_app b rs ss]; omega
theorem buy_nn (b : Int) : ∀ (rs : List Int) (x : Int), 0 ≤ buy b rs x
  | [], _ => by simp [buy]
  | r :: rs, x => by have := buy_nn b rs (cl b (x + r)); simp only [buy]; omega
theorem spl_nn (b : Int) : ∀ (rs : List Int) (x : Int), 0 ≤ spl b rs x
  | [], _ => by simp [spl]
  | r :: rs, x => by have := spl_nn b rs (cl b (x + r)); simp only [spl]; omega
theorem cl_in {b x : Int} (hb : 0 ≤ b) : 0 ≤ cl b x ∧ cl b x ≤ b := by unfold cl; omega
theorem lev_in {b : Int} (hb : 0 ≤ b) : ∀ (rs : List Int) (x : Int), 0 ≤ x ∧ x ≤ b → 0 ≤ lev b rs x ∧ lev b rs x ≤ b
  | [], _, h => h
  | r :: rs, x, _ => lev_in hb rs _ (cl_in hb)
/-- what comes is what goes -/
theorem flow {b : Int} (hb : 0 ≤ b) : ∀ (rs : List Int) (x : Int), x + rs.sum + buy b rs x = lev b rs x + spl b rs x
  | [], x => by simp [buy, spl, lev]
  | r :: rs, x => by
    have := flow hb rs (cl b (x + r))
    simp only [buy, spl, lev, List.sum_cons]
    have : cl b (x + r) = x + r + max 0 (-(x + r)) - max 0 (x + r - b) := by unfold cl; omega
    omega
theorem lev_mono {b : Int} : ∀ (rs : List Int) (x y : Int), x ≤ y → lev b rs x ≤ lev b rs y
  | [], _, _, h => h
  | r :: rs, x, y, h => lev_mono rs _ _ (by unfold cl; omega)
/-! parts -/
structure P5 where
  n : Int
  r : Int
  l : Int
  m : Int
  o : Int
  deriving DecidableEq, Repr
def mid (lo v hi : Int) : Int := max lo (min v hi)
def P5.lv (p : P5) (x : Int) : Int := p.l + mid p.n x p.r - p.n
def P5.by (p : P5) (x : Int) : Int := p.m + max 0 (p.n - x)
def P5.sp (p : P5) (x : Int) : Int := p.o + max 0 (x - p.r)
structure P5.Ok (p : P5) (b : Int) : Prop where
  n0 : 0 ≤ p.n
  nr : p.n ≤ p.r
  rb : p.r ≤ b
  l0 : 0 ≤ p.l
  lb : p.l + p.r - p.n ≤ b
  m0 : 0 ≤ p.m
  o0 : 0 ≤ p.o
  z : p.n = p.r ∨ p.m = 0 ∧ p.o = 0
def thn (p q : P5) : P5 := ⟨p.n + mid 0 (q.n - p.l) (p.r - p.n), p.n + mid 0 (q.r - p.l) (p.r - p.n), q.l + mid q.n p.l q.r - q.n, p.m + q.m + max 0 (q.n - (p.l + p.r - p.n)), p.o + q.o + max 0 (p.l - q.r)⟩
theorem thn_ok {p q : P5} {b : Int} (hp : p.Ok b) (hq : q.Ok b) : (thn p q).Ok b := by
  obtain ⟨a1, a2, a3, a4, a5, a6, a7, a8⟩ := hp
  obtain ⟨c1, c2, c3, c4, c5, c6, c7, c8⟩ := hq
  constructor <;> simp only [thn, mid] <;> omega
theorem thn_lv {p q : P5} {b : Int} (hp : p.Ok b) (hq : q.Ok b) (x : Int) : (thn p q).lv x = q.lv (p.lv x) := by
  obtain ⟨a1, a2, a3, a4, a5, a6, a7, a8⟩ := hp
  obtain ⟨c1, c2, c3, c4, c5, c6, c7, c8⟩ := hq
  simp only [thn, P5.lv, mid]
  omega
theorem thn_by {p q : P5} {b : Int} (hp : p.Ok b) (hq : q.Ok b) (x : Int) : (thn p q).by x = p.by x + q.by (p.lv x) := by
  obtain ⟨a1, a2, a3, a4, a5, a6, a7, a8⟩ := hp
  obtain ⟨c1, c2, c3, c4, c5, c6, c7, c8⟩ := hq
  simp only [thn, P5.lv, P5.by, mid]
  omega
theorem thn_sp {p q : P5} {b : Int} (hp : p.Ok b) (hq : q.Ok b) (x : Int) : (thn p q).sp x = p.sp x + q.sp (p.lv x) := by
  obtain ⟨a1, a2, a3, a4, a5, a6, a7, a8⟩ := hp
  obtain ⟨c1, c2, c3, c4, c5, c6, c7, c8⟩ := hq
  simp only [thn, P5.lv, P5.sp, mid]
  omega
/-- a valid part is told by what it does from 0 and from the butt -/
theorem P5.ext' {p q : P5} {b : Int} (hp : p.Ok b) (hq : q.Ok b) (e1 : p.lv 0 = q.lv 0) (e2 : p.by 0 = q.by 0) (e3 : p.by b = q.by b) (e4 : p.sp b = q.sp b) (e5 : p.sp 0 = q.sp 0) : p = q := by
  obtain ⟨n, r, l, m, o⟩ := p
  obtain ⟨n', r', l', m', o'⟩ := q
  obtain ⟨a1, a2, a3, a4, a5, a6, a7, a8⟩ := hp
  obtain ⟨c1, c2, c3, c4, c5, c6, c7, c8⟩ := hq
  simp only [P5.lv, P5.by, P5.sp, mid] at *
  have h1 : m = m' := by omega
  have h2 : o = o' := by omega
  have h3 : n = n' := by omega
  have h4 : r = r' := by omega
  have h5 : l = l' := by omega
  subst h1 h2 h3 h4 h5
  rfl
def runP (run b : Int) : P5 := if 0 < run then ⟨0, max 0 (b - run.natAbs), min b run.natAbs, 0, max 0 (run.natAbs - b)⟩ else ⟨min b run.natAbs, b, 0, max 0 (run.natAbs - b), 0⟩
theorem runP_ok {run b : Int} (hb : 0 ≤ b) : (runP run b).Ok b := by
  unfold runP
  split
  · refine ⟨?_, ?_, ?_, ?_, ?_, ?_, ?_, ?_⟩ <;> dsimp only <;> omega
  · refine ⟨?_, ?_, ?_, ?_, ?_, ?_, ?_, ?_⟩ <;> dsimp only <;> first | omega | (by_cases c : b ≤ run.natAbs; exact .inl (by omega); exact .inr ⟨by omega, rfl⟩)
theorem runP_lv {run b x : Int} (h : 0 ≤ x ∧ x ≤ b) : (runP run b).lv x = cl b (x + run) := by
  unfold runP cl; split <;> simp only [P5.lv, mid] <;> omega
theorem runP_by {run b x : Int} (h : 0 ≤ x ∧ x ≤ b) : (runP run b).by x = max 0 (-(x + run)) := by
  unfold runP; split <;> simp only [P5.by] <;> omega
theorem runP_sp {run b x : Int} (h : 0 ≤ x ∧ x ≤ b) : (runP run b).sp x = max 0 (x + run - b) := by
  unfold runP; split <;> simp only [P5.sp] <;> omega
def idP (b : Int) : P5 := ⟨0, b, 0, 0, 0⟩
theorem idP_ok {b : Int} (hb : 0 ≤ b) : (idP b).Ok b := ⟨Int.le_refl _, hb, Int.le_refl _, Int.le_refl _, by simp only [idP]; omega, Int.le_refl _, Int.le_refl _, .inr ⟨rfl, rfl⟩⟩
def partF (b : Int) (rs : List Int) (p : P5) : P5 := rs.foldl (fun p r => thn p (runP r b)) p
def partOf (b : Int) (rs : List Int) : P5 := partF b rs (idP b)
/-- p does with a butt what the row does -/
structure Does (b : Int) (p : P5) (rs : List Int) : Prop where
  ok : p.Ok b
  lv : ∀ x, 0 ≤ x ∧ x ≤ b → p.lv x = lev b rs x
  by_ : ∀ x, 0 ≤ x ∧ x ≤ b → p.by x = buy b rs x
  sp : ∀ x, 0 ≤ x ∧ x ≤ b → p.sp x = spl b rs x
theorem Does.thn {b : Int} (hb : 0 ≤ b) {p q : P5} {rs ss : List Int} (hp : Does b p rs) (hq : Does b q ss) : Does b (thn p q) (rs ++ ss) := by
  refine ⟨thn_ok hp.ok hq.ok, fun x h => ?_, fun x h => ?_, fun x h => ?_⟩
  · rw [thn_lv hp.ok hq.ok, hp.lv x h, hq.lv _ (lev_in hb rs x h), lev_app]
  · rw [thn_by hp.ok hq.ok, hp.lv x h, hp.by_ x h, hq.by_ _ (lev_in hb rs x h), buy_app]
  · rw [thn_sp hp.ok hq.ok, hp.lv x h, hp.sp x h, hq.sp _ (lev_in hb rs x h), spl_app]
theorem Does.one {b : Int} (hb : 0 ≤ b) (r : Int) : Does b (runP r b) [r] :=
  ⟨runP_ok hb, fun x h => by rw [runP_lv h]; rfl, fun x h => by rw [runP_by h]; simp [buy], fun x h => by rw [runP_sp h]; simp [spl]⟩
theorem Does.id {b : Int} (hb : 0 ≤ b) : Does b (idP b) [] :=
  ⟨idP_ok hb, fun x h => by simp only [idP, P5.lv, mid, lev]; omega, fun x h => by simp only [idP, P5.by, buy]; omega, fun x h => by simp only [idP, P5.sp, spl]; omega⟩
theorem Does.partF {b : Int} (hb : 0 ≤ b) : ∀ (rs ss : List Int) (p : P5), Does b p ss → Does b (partF b rs p) (ss ++ rs)
  | [], ss, p, h => by simpa [Mh.partF] using h
  | r :: rs, ss, p, h => by
    have := Does.partF hb rs (ss ++ [r]) _ (h.thn hb (.one hb r))
    simpa [Mh.partF] using this
theorem Does.partOf {b : Int} (hb : 0 ≤ b) (rs : List Int) : Does b (partOf b rs) rs := by
  have := Does.partF hb rs [] _ (.id hb)
  exact this
theorem Does.uniq {b : Int} (hb : 0 ≤ b) {p q : P5} {rs : List Int} (hp : Does b p rs) (hq : Does b q rs) : p = q := by
  have h0 : 0 ≤ (0 : Int) ∧ (0 : Int) ≤ b := ⟨by omega, hb⟩
  have hB : 0 ≤ b ∧ b ≤ b := ⟨hb, by omega⟩
  exact P5.ext' hp.ok hq.ok (by rw [hp.lv 0 h0, hq.lv 0 h0]) (by rw [hp.by_ 0 h0, hq.by_ 0 h0]) (by rw [hp.by_ b hB, hq.by_ b hB]) (by rw [hp.sp b hB, hq.sp b hB]) (by rw [hp.sp 0 h0, hq.sp 0 h0])
/-- so many rows -/
def rep (k : Nat) (rs : List Int) : List Int := (List.replicate k rs).flatten
theorem rep_add (a c : Nat) (rs : List Int) : rep (a + c) rs = rep a rs ++ rep c rs := by
  unfold rep; rw [← List.replicate_append_replicate, List.flatten_append]
theorem rep_succ (a : Nat) (rs : List Int) : rep (a + 1) rs = rs ++ rep a rs := by
  unfold rep; rw [List.replicate_succ, List.flatten_cons]
theorem rep_zero (rs : List Int) : rep 0 rs = [] := rfl
theorem rep_one (rs : List Int) : rep 1 rs = rs := by rw [rep_succ, rep_zero, List.append_nil]
/-- a level that stays: laps -/
theorem fix_rep {b : Int} {rs : List Int} {x : Int} (h : lev b rs x = x) : ∀ k : Nat, lev b (rep k rs) x = x ∧ buy b (rep k rs) x = k * buy b rs x ∧ spl b (rep k rs) x = k * spl b rs x
  | 0 => by simp [rep_zero, lev, buy, spl]
  | k + 1 => by
    obtain ⟨h1, h2, h3⟩ := fix_rep h k
    rw [rep_succ, lev_app, buy_app, spl_app, h, h1, h2, h3]
    have e : ((k + 1 : Nat) : Int) = (k : Int) + 1 := by omega
    rw [e]
    refine ⟨rfl, ?_, ?_⟩ <;> rw [Int.add_mul] <;> omega
/-- times, as the text has it: the power, what is left, what is found -/
def tmsL : Nat → P5 → Nat → Option P5 → Option P5
  | 0, _, _, f => f
  | n + 1, p, k, f => if k = 0 then f else tmsL n (thn p p) (k / 2) (if k % 2 = 1 then some (match f with
    | none => p
    | some q => thn q p) else f)
theorem tmsL_does {b : Int} (hb : 0 ≤ b) {rs : List Int} : ∀ (n a c k : Nat) (p : P5) (f : Option P5), k < 2 ^ n → Does b p (rep a rs) → (match f with
    | none => c = 0
    | some q => Does b q (rep c rs)) → 0 < k ∨ f.isSome → ∃ q, tmsL n p k f = some q ∧ Does b q (rep (c + a * k) rs)
  | 0, a, c, k, p, f, hk, _, hf, hs => by
    have : k = 0 := by omega
    subst this
    cases f with
    | none => simp at hs
    | some q => exact ⟨q, rfl, by simpa using hf⟩
  | n + 1, a, c, k, p, f, hk, hp, hf, hs => by
    by_cases k0 : k = 0
    · subst k0
      cases f with
      | none => simp at hs
      | some q => exact ⟨q, by simp [tmsL], by simpa using hf⟩
    · have hp2 : Does b (thn p p) (rep (a + a) rs) := by rw [rep_add]; exact hp.thn hb hp
      have hk2 : k / 2 < 2 ^ n := by rw [Nat.pow_succ] at hk; omega
      unfold tmsL
      rw [if_neg k0]
      by_cases o : k % 2 = 1
      · rw [if_pos o]
        have e : c + a * k = (c + a) + (a + a) * (k / 2) := by
          have h1 : k = 2 * (k / 2) + 1 := by omega
          conv => lhs; rw [h1]
          rw [Nat.mul_add, Nat.mul_one, ← Nat.mul_assoc, Nat.mul_comm a 2, Nat.two_mul]; omega
        rw [e]
        refine tmsL_does hb n (a + a) (c + a) (k / 2) _ _ hk2 hp2 ?_ (.inr rfl)
        cases f with
        | none =>
          have : c = 0 := hf
          subst this
          simpa using hp
        | some q =>
          show Does b (thn q p) _
          rw [rep_add]
          exact Does.thn hb hf hp
      · rw [if_neg o]
        have e : c + a * k = c + (a + a) * (k / 2) := by
          have h1 : k = 2 * (k / 2) := by omega
          conv => lhs; rw [h1]
          rw [← Nat.mul_assoc, Nat.mul_comm a 2, Nat.two_mul]
        rw [e]
        exact tmsL_does hb n (a + a) c (k / 2) _ _ hk2 hp2 hf (hs.imp (fun h => by omega) id)
theorem tms_does {b : Int} (hb : 0 ≤ b) {rs : List Int} {p : P5} (hp : Does b p rs) {n k : Nat} (hk : k < 2 ^ n) (h0 : 0 < k) : ∃ q, tmsL n p k none = some q ∧ Does b q (rep k rs) := by
  obtain ⟨q, e, h⟩ := tmsL_does hb (rs := rs) n 1 0 k p none hk (by rw [rep_one]; exact hp) rfl (.inl h0)
  exact ⟨q, e, by simpa using h⟩
end Mh

end
section
set_option linter.all false
/-! Mth2: rings, strikes, the long run. Plain Lean. -/
namespace Mh
/-- from every level that stays v is bought -/
def LR (b : Int) (rs : List Int) (v : Int) : Prop := ∀ x, 0 ≤ x → x ≤ b → lev b rs x = x → buy b rs x = v
theorem LR.rot {b : Int} (hb : 0 ≤ b) {rs ss : List Int} {v : Int} (h : LR b (ss ++ rs) v) : LR b (rs ++ ss) v := fun x h0 h1 e => by
  have hy := lev_in hb rs x ⟨h0, h1⟩
  have e2 : lev b ss (lev b rs x) = x := by rw [← lev_app]; exact e
  have := h (lev b rs x) hy.1 hy.2 (by rw [lev_app, e2])
  rw [buy_app, e2] at this
  rw [buy_app]; omega
/-- the same walk from all levels -/
structure Eqv (b : Int) (rs ss : List Int) : Prop where
  lv : ∀ x, 0 ≤ x → x ≤ b → lev b rs x = lev b ss x
  by_ : ∀ x, 0 ≤ x → x ≤ b → buy b rs x = buy b ss x
theorem Eqv.refl {b : Int} {rs : List Int} : Eqv b rs rs := ⟨fun _ _ _ => rfl, fun _ _ _ => rfl⟩
theorem Eqv.app {b : Int} (hb : 0 ≤ b) {rs ss rs' ss' : List Int} (h : Eqv b rs rs') (k : Eqv b ss ss') : Eqv b (rs ++ ss) (rs' ++ ss') := by
  refine ⟨fun x h0 h1 => ?_, fun x h0 h1 => ?_⟩
  · have hy := lev_in hb rs x ⟨h0, h1⟩
    rw [lev_app, lev_app, k.lv _ hy.1 hy.2, h.lv x h0 h1]
  · have hy := lev_in hb rs x ⟨h0, h1⟩
    rw [buy_app, buy_app, k.by_ _ hy.1 hy.2, h.by_ x h0 h1, h.lv x h0 h1]
theorem Eqv.trans {b : Int} {rs ss ts : List Int} (h : Eqv b rs ss) (k : Eqv b ss ts) : Eqv b rs ts :=
  ⟨fun x h0 h1 => (h.lv x h0 h1).trans (k.lv x h0 h1), fun x h0 h1 => (h.by_ x h0 h1).trans (k.by_ x h0 h1)⟩
theorem LR.eqv {b : Int} {rs ss : List Int} {v : Int} (h : Eqv b rs ss) (k : LR b ss v) : LR b rs v := fun x h0 h1 e => by
  rw [h.by_ x h0 h1]; exact k x h0 h1 (by rw [← h.lv x h0 h1]; exact e)
def posB (r : Int) : Bool := decide (0 < r)
/-- two of one sign put together -/
theorem eqv_two {b p q : Int} (hb : 0 ≤ b) (hp : p ≠ 0) (hq : q ≠ 0) (h : posB q = posB p) : Eqv b [p, q] [p + q] := by
  have h : (0 < q ↔ 0 < p) := by simpa [posB, decide_eq_decide] using h
  refine ⟨fun x h0 h1 => ?_, fun x h0 h1 => ?_⟩
  · simp only [lev, cl]; omega
  · simp only [buy, cl]; omega
def mrg (f : List Int) (r : Int) : List Int := match f.getLast? with
  | some l => if posB r = posB l then f.dropLast ++ [l + r] else f ++ [r]
  | none => [r]
def opp (x y : Int) : Prop := (0 < x ∧ y < 0) ∨ (x < 0 ∧ 0 < y)
def AltL : List Int → Prop
  | [] => True
  | [_] => True
  | x :: y :: r => opp x y ∧ AltL (y :: r)
theorem altL_app : ∀ (p q : List Int) (x : Int), AltL (p ++ x :: q) ↔ AltL (p ++ [x]) ∧ AltL (x :: q)
  | [], q, x => by simp [AltL]
  | [a], q, x => by simp [AltL]
  | a :: c :: p, q, x => by
    have := altL_app (c :: p) q x
    simp only [List.cons_append, AltL] at this ⊢
    rw [this, and_assoc]
def sg (x y : Int) : Prop := (0 < x ∧ 0 < y) ∨ (x < 0 ∧ y < 0)
theorem altL_hd {x y : Int} (h : sg x y) : ∀ l : List Int, AltL (x :: l) → AltL (y :: l)
  | [], _ => trivial
  | z :: l, k => by
    obtain ⟨k1, k2⟩ := k
    exact ⟨by unfold opp sg at *; omega, k2⟩
theorem altL_tl {x y : Int} (h : sg x y) : ∀ l : List Int, AltL (l ++ [x]) → AltL (l ++ [y])
  | [], _ => trivial
  | [z], k => by
    obtain ⟨k1, k2⟩ := k
    exact ⟨by unfold opp sg at *; omega, trivial⟩
  | z :: w :: l, k => by
    obtain ⟨k1, k2⟩ := k
    exact ⟨k1, altL_tl h (w :: l) k2⟩
theorem altL_par : ∀ (l : List Int) (x y : Int), AltL (x :: l ++ [y]) → (l.length % 2 = 0 → opp x y) ∧ (l.length % 2 = 1 → sg x y)
  | [], x, y, h => ⟨fun _ => h.1, fun z => by simp at z⟩
  | z :: l, x, y, h => by
    obtain ⟨h1, h2⟩ := h
    obtain ⟨a, c⟩ := altL_par l z y h2
    constructor
    · intro e
      have := c (by simp only [List.length_cons] at e; omega)
      unfold opp sg at *; omega
    · intro e
      have := a (by simp only [List.length_cons] at e; omega)
      unfold opp sg at *; omega
/-- a ring of two runs or more -/
structure Rg (l : List Int) : Prop where
  two : 2 ≤ l.length
  alt : ∀ x r, l = x :: r → AltL (l ++ [x])
theorem Rg.rot {u v : List Int} (h : Rg (u ++ v)) : Rg (v ++ u) := by
  cases u with
  | nil => simpa using h
  | cons u0 u' =>
    cases v with
    | nil => simpa using h
    | cons v0 v' =>
      refine ⟨by have := h.two; simp only [List.length_append, List.length_cons] at *; omega, fun x r e => ?_⟩
      have ex : v0 = x := by simp at e; exact e.1
      subst ex
      have := h.alt u0 (u' ++ v0 :: v') rfl
      have this : AltL ((u0 :: u') ++ v0 :: (v' ++ [u0])) := by simpa using this
      rw [altL_app] at this
      obtain ⟨h1, h2⟩ := this
      have : AltL ((v0 :: v') ++ u0 :: (u' ++ [v0])) := by
        rw [altL_app]
        exact ⟨by simpa using h2, by simpa using h1⟩
      simpa using this
theorem Rg.even {l : List Int} (h : Rg l) : l.length % 2 = 0 := by
  match l, h with
  | [], h => rfl
  | x :: r, h =>
    have := altL_par r x x (h.alt x r rfl)
    by_cases e : r.length % 2 = 1
    · simp only [List.length_cons]; omega
    · have := this.1 (by omega)
      unfold opp at this; omega
theorem Rg.ne {l : List Int} (h : Rg l) : ∀ x ∈ l, x ≠ 0 := by
  intro x hx
  obtain ⟨u, v, rfl⟩ := List.append_of_mem hx
  have h2 := Rg.rot h
  match v, h2 with
  | [], h2 =>
    cases u with
    | nil => have := h2.two; simp at this
    | cons y u' =>
      have k := h2.alt x (y :: u') rfl
      have := k.1
      unfold opp at this; omega
  | y :: v', h2 =>
    have k := h2.alt x (y :: v' ++ u) rfl
    have := k.1
    unfold opp at this; omega
/-- a strike -/
theorem strike_up {b a t c x : Int} (hb : 0 ≤ b) (h0 : 0 ≤ x) (hx : x ≤ b) (ht : 0 < t) (k1 : t ≤ a) (k2 : t ≤ c) : cl b (cl b (cl b (x + a) - t) + c) = cl b (x + (a - t + c)) ∧
    max 0 (-(x + a)) + max 0 (-(cl b (x + a) - t)) + max 0 (-(cl b (cl b (x + a) - t) + c)) = max 0 (-(x + (a - t + c))) + max 0 (t - b) := by
  have e1 : cl b (x + a) = min b (x + a) := by unfold cl; omega
  rw [e1]
  by_cases q : t ≤ b
  · have e2 : cl b (min b (x + a) - t) = min b (x + a) - t := by unfold cl; omega
    rw [e2]
    unfold cl; omega
  · have e0 : min b (x + a) = b := by omega
    rw [e0]
    have e2 : cl b (b - t) = 0 := by unfold cl; omega
    rw [e2]
    unfold cl; omega
theorem strike_dn {b a t c x : Int} (hb : 0 ≤ b) (h0 : 0 ≤ x) (hx : x ≤ b) (ht : 0 < t) (k1 : t ≤ a) (k2 : t ≤ c) : cl b (cl b (cl b (x - a) + t) - c) = cl b (x + (-a + t - c)) ∧
    max 0 (-(x - a)) + max 0 (-(cl b (x - a) + t)) + max 0 (-(cl b (cl b (x - a) + t) - c)) = max 0 (-(x + (-a + t - c))) + max 0 (t - b) := by
  have e1 : cl b (x - a) = max 0 (x - a) := by unfold cl; omega
  rw [e1]
  by_cases q : t ≤ b
  · have e2 : cl b (max 0 (x - a) + t) = max 0 (x - a) + t := by unfold cl; omega
    rw [e2]
    unfold cl; omega
  · have e2 : cl b (max 0 (x - a) + t) = b := by unfold cl; omega
    rw [e2]
    have e3 : cl b (b - c) = 0 := by unfold cl; omega
    rw [e3]
    unfold cl; omega
theorem lr_strike {b a s c v : Int} {tl : List Int} (hb : 0 ≤ b) (h1 : opp a s) (h2 : opp s c) (k1 : s.natAbs ≤ a.natAbs) (k2 : s.natAbs ≤ c.natAbs) (h : LR b ((a + s + c) :: tl) v) : LR b (a :: s :: c :: tl) (v + max 0 (s.natAbs - b)) := fun x h0 hx e => by
  have key : cl b (cl b (cl b (x + a) + s) + c) = cl b (x + (a + s + c)) ∧ max 0 (-(x + a)) + max 0 (-(cl b (x + a) + s)) + max 0 (-(cl b (cl b (x + a) + s) + c)) = max 0 (-(x + (a + s + c))) + max 0 (s.natAbs - b) := by
    by_cases hs : 0 < s
    · have := strike_dn (a := -a) (t := s) (c := -c) hb h0 hx hs (by unfold opp at *; omega) (by unfold opp at *; omega)
      have q : (s.natAbs : Int) = s := by omega
      simp only [Int.sub_neg, Int.neg_neg] at this
      rw [q]; exact this
    · have := strike_up (a := a) (t := -s) (c := c) hb h0 hx (by unfold opp at *; omega) (by unfold opp at *; omega) (by unfold opp at *; omega)
      have q : (s.natAbs : Int) = -s := by omega
      simp only [Int.sub_neg] at this
      rw [q]; exact this
  obtain ⟨e1, e2⟩ := key
  have := h x h0 hx (by show lev b tl (cl b (x + (a + s + c))) = x; rw [← e1]; exact e)
  simp only [buy] at this ⊢
  rw [e1]
  omega
theorem lr_two {b p q : Int} (hb : 0 ≤ b) (h : opp p q) : LR b [p, q] (max 0 (-(p + q)) + max 0 (min (p.natAbs : Int) q.natAbs - b)) := fun x h0 h1 e => by
  simp only [lev, buy] at *
  unfold cl opp at *
  omega
theorem lr_one {b r : Int} (hb : 0 ≤ b) : LR b [r] (max 0 (-r)) := fun x h0 h1 e => by
  simp only [lev, buy] at *
  unfold cl at *
  omega
def szs (l : List Int) : List Int := l.map fun r => (r.natAbs : Int)
def minL : List Int → Int
  | [] => 0
  | x :: r => r.foldl min x
theorem foldl_min : ∀ (r : List Int) (x : Int), r.foldl min x ≤ x ∧ (∀ y ∈ r, r.foldl min x ≤ y) ∧ (r.foldl min x = x ∨ r.foldl min x ∈ r)
  | [], x => ⟨Int.le_refl _, fun y h => (by cases h), .inl rfl⟩
  | z :: r, x => by
    obtain ⟨h1, h2, h3⟩ := foldl_min r (min x z)
    refine ⟨by simp only [List.foldl_cons]; omega, fun y hy => ?_, ?_⟩
    · rcases List.mem_cons.mp hy with rfl | hy
      · simp only [List.foldl_cons]; omega
      · exact h2 y hy
    · simp only [List.foldl_cons]
      rcases h3 with h3 | h3
      · rw [h3]
        by_cases c : x ≤ z
        · left; omega
        · right; rw [show min x z = z by omega]; exact List.mem_cons_self
      · exact .inr (List.mem_cons_of_mem _ h3)
theorem minL_le {l : List Int} : ∀ y ∈ l, minL l ≤ y := by
  cases l with
  | nil => intro y h; cases h
  | cons x r =>
    intro y hy
    obtain ⟨h1, h2, _⟩ := foldl_min r x
    rcases List.mem_cons.mp hy with rfl | hy
    · exact h1
    · exact h2 y hy
theorem minL_mem {l : List Int} (h : l ≠ []) : minL l ∈ l := by
  cases l with
  | nil => exact absurd rfl h
  | cons x r =>
    obtain ⟨_, _, h3⟩ := foldl_min r x
    rcases h3 with h3 | h3
    · show r.foldl min x ∈ _; rw [h3]; exact List.mem_cons_self
    · exact List.mem_cons_of_mem _ h3
def minAt (l : List Int) : Nat := (szs l).idxOf (minL (szs l))
theorem minAt_lt {l : List Int} (h : l ≠ []) : minAt l < l.length := by
  have := List.idxOf_lt_length_iff.mpr (minL_mem (l := szs l) (by simpa [szs] using h))
  simpa [minAt, szs] using this
def rotL (l : List Int) (p : Nat) : List Int := l.drop p ++ l.take p
/-- one put for three: the ring begun with the middle one -/
def put3 : List Int → List Int
  | s :: a :: r => ((r.getLast?.getD 0) + s + a) :: r.dropLast
  | l => l
def swL : Nat → List Int → List Int → List Int × List Int
  | 0, l, f => (l, f)
  | n + 1, l, f => if 2 < l.length then swL n (put3 (rotL l (minAt l))) (f ++ [(szs l).getD (minAt l) 0]) else (l, f)
/-- the swings as they come -/
def swF (l : List Int) : List Int := match swL l.length l [] with
  | ([p, q], f) => f ++ [min (p.natAbs : Int) q.natAbs]
  | (_, f) => f
def exc (b : Int) (ss : List Int) : Int := (ss.map fun s => max 0 (s - b)).sum
theorem exc_app (b : Int) (p q : List Int) : exc b (p ++ q) = exc b p + exc b q := by simp [exc]
theorem exc_nil (b : Int) : exc b [] = 0 := rfl
theorem exc_one (b s : Int) : exc b [s] = max 0 (s - b) := by simp [exc]
theorem exc_perm {b : Int} {p q : List Int} (h : p.Perm q) : exc b p = exc b q := by
  unfold exc
  have := h.map fun s => max 0 (s - b)
  generalize p.map _ = p' at *
  generalize q.map _ = q' at *
  induction this with
  | nil => rfl
  | cons x _ ih => simp [ih]
  | swap x y l => simp only [List.sum_cons]; omega
  | trans _ _ i1 i2 => exact i1.trans i2
theorem sum_perm {p q : List Int} (h : p.Perm q) : p.sum = q.sum := by
  induction h with
  | nil => rfl
  | cons x _ ih => simp [ih]
  | swap x y l => simp only [List.sum_cons]; omega
  | trans _ _ i1 i2 => exact i1.trans i2
/-- what a strike of the least does -/
theorem strike_min {l : List Int} (h : Rg l) (h4 : 2 < l.length) : ∃ s a c r, rotL l (minAt l) = s :: a :: (r ++ [c]) ∧ (szs l).getD (minAt l) 0 = s.natAbs ∧ put3 (rotL l (minAt l)) = (c + s + a) :: r ∧ opp c s ∧ opp s a ∧ s.natAbs ≤ c.natAbs ∧ s.natAbs ≤ a.natAbs ∧ Rg ((c + s + a) :: r) ∧ l = l.take (minAt l) ++ l.drop (minAt l) ∧ s ∈ l := by
  have hn : l ≠ [] := fun z => by rw [z] at h4; simp at h4
  have hp := minAt_lt hn
  have ev := h.even
  have hR : Rg (rotL l (minAt l)) := Rg.rot (u := l.take (minAt l)) (v := l.drop (minAt l)) (by rw [List.take_append_drop]; exact h)
  have hl : (rotL l (minAt l)).length = l.length := by simp only [rotL, List.length_append, List.length_drop, List.length_take]; omega
  have hs : (rotL l (minAt l))[0]? = some (l[minAt l]'hp) := by
    unfold rotL
    rw [List.getElem?_append_left (by simp only [List.length_drop]; omega), List.getElem?_drop, Nat.add_zero, List.getElem?_eq_getElem hp]
  have hmin : ∀ y ∈ l, (l[minAt l]'hp).natAbs ≤ y.natAbs := by
    have e : (szs l)[minAt l]? = some (minL (szs l)) := by
      have hlt := List.idxOf_lt_length_iff.mpr (minL_mem (l := szs l) (by simpa [szs] using hn))
      rw [List.getElem?_eq_getElem (by exact hlt)]
      exact congrArg some (List.getElem_idxOf hlt)
    have e2 : (szs l)[minAt l]? = some ((l[minAt l]'hp).natAbs : Int) := by simp [szs, hp]
    rw [e2] at e
    have e := Option.some.inj e
    intro y hy
    have := minL_le (l := szs l) (y.natAbs : Int) (List.mem_map.mpr ⟨y, hy, rfl⟩)
    omega
  have hmem : ∀ y ∈ rotL l (minAt l), y ∈ l := fun y hy => by
    unfold rotL at hy
    rcases List.mem_append.mp hy with hy | hy
    · exact List.mem_of_mem_drop hy
    · exact List.mem_of_mem_take hy
  generalize hw : rotL l (minAt l) = w at *
  match w, hl, hs with
  | [], hl, hs => simp at hl; omega
  | [_], hl, hs => simp at hl; omega
  | s :: a :: t, hl, hs =>
    have es : s = l[minAt l]'hp := by simpa using hs
    have ht : t ≠ [] := fun z => by rw [z] at hl; simp at hl; omega
    obtain ⟨r, c, rfl⟩ : ∃ r c, t = r ++ [c] := ⟨t.dropLast, t.getLast ht, (List.dropLast_concat_getLast ht).symm⟩
    have hr : r ≠ [] := fun z => by rw [z] at hl; simp at hl; omega
    have al := hR.alt s (a :: (r ++ [c])) rfl
    have o1 : opp s a := al.1
    have al2 : AltL (a :: (r ++ [c] ++ [s])) := by simpa using al.2
    have o2 : opp c s := by
      have : AltL ((a :: r) ++ c :: [s]) := by simpa using al2
      rw [altL_app] at this
      exact this.2.1
    have al3 : AltL (a :: r ++ [c]) := by
      have : AltL ((a :: r) ++ c :: [s]) := by simpa using al2
      rw [altL_app] at this
      exact this.1
    have k1 : s.natAbs ≤ c.natAbs := by rw [es]; exact hmin c (hmem c (by simp))
    have k2 : s.natAbs ≤ a.natAbs := by rw [es]; exact hmin a (hmem a (by simp))
    refine ⟨s, a, c, r, rfl, ?_, ?_, o2, o1, k1, k2, ?_, (List.take_append_drop _ _).symm, hmem s (by simp)⟩
    · rw [es]; simp [szs, List.getD, hp]
    · simp [put3]
    · refine ⟨by have := List.length_pos_iff.mpr hr; simp only [List.length_cons]; omega, fun x rr e => ?_⟩
      cases e
      have g1 : sg a (c + s + a) := by unfold opp sg at *; omega
      have g2 : sg c (c + s + a) := by unfold opp sg at *; omega
      have := altL_hd g1 (r ++ [c]) (by simpa using al3)
      exact altL_tl g2 ((c + s + a) :: r) (by simpa using this)
theorem rot_sum (l : List Int) (p : Nat) : (rotL l p).sum = l.sum := by
  unfold rotL
  conv => rhs; rw [← List.take_append_drop p l]
  rw [List.sum_append, List.sum_append]; omega
/-- what the loop leaves, and its swings -/
theorem swL_lr {b : Int} (hb : 0 ≤ b) : ∀ (n : Nat) (l f : List Int), Rg l → l.length ≤ n → ∃ p q g, swL n l f = ([p, q], f ++ g) ∧ opp p q ∧ p + q = l.sum ∧ (∀ s ∈ g, 1 ≤ s) ∧
    LR b l (max 0 (-l.sum) + exc b g + max 0 (min (p.natAbs : Int) q.natAbs - b))
  | 0, l, f, h, hn => by have := h.two; omega
  | n + 1, l, f, h, hn => by
    by_cases c2 : 2 < l.length
    · obtain ⟨s, a, c, r, e1, e2, e3, o2, o1, k1, k2, hR, e4, hs⟩ := strike_min h c2
      have hlen : ((c + s + a) :: r).length + 2 = l.length := by
        have : (rotL l (minAt l)).length = l.length := by simp only [rotL, List.length_append, List.length_drop, List.length_take]; omega
        rw [e1] at this; simp only [List.length_cons, List.length_append, List.length_nil] at *; omega
      obtain ⟨p, q, g, i1, i2, i3, i4, i5⟩ := swL_lr hb n ((c + s + a) :: r) (f ++ [(s.natAbs : Int)]) hR (by omega)
      have hsum : ((c + s + a) :: r).sum = l.sum := by
        rw [← rot_sum l (minAt l), e1]; simp only [List.sum_cons, List.sum_append, List.sum_nil]; omega
      refine ⟨p, q, (s.natAbs : Int) :: g, ?_, i2, i3.trans hsum, ?_, ?_⟩
      · show (if 2 < l.length then swL n (put3 (rotL l (minAt l))) (f ++ [(szs l).getD (minAt l) 0]) else (l, f)) = _
        rw [if_pos c2, e3, e2, i1, List.append_assoc]; rfl
      · intro y hy
        rcases List.mem_cons.mp hy with rfl | hy
        · unfold opp at o1; omega
        · exact i4 y hy
      · have hx := lr_strike hb o2 o1 k1 k2 i5
        have : LR b (s :: a :: (r ++ [c])) _ := LR.rot hb (rs := s :: a :: r) (ss := [c]) hx
        rw [← e1] at this
        have := LR.rot hb (rs := l.take (minAt l)) (ss := l.drop (minAt l)) this
        rw [List.take_append_drop, hsum] at this
        have e5 : exc b ((s.natAbs : Int) :: g) = max 0 ((s.natAbs : Int) - b) + exc b g := by
          rw [show (s.natAbs : Int) :: g = [(s.natAbs : Int)] ++ g from rfl, exc_app, exc_one]
        rw [e5]
        have e6 : max 0 (-l.sum) + (max 0 ((s.natAbs : Int) - b) + exc b g) + max 0 (min (p.natAbs : Int) q.natAbs - b) = max 0 (-l.sum) + exc b g + max 0 (min (p.natAbs : Int) q.natAbs - b) + max 0 ((s.natAbs : Int) - b) := by omega
        rw [e6]; exact this
    · match l, h, c2 with
      | [], h, _ => have := h.two; simp at this
      | [_], h, _ => have := h.two; simp at this
      | p :: q :: [], h, c2 =>
        have o : opp p q := (h.alt p [q] rfl).1
        refine ⟨p, q, [], by simp [swL], o, by simp, fun s hs => (by cases hs), ?_⟩
        have := lr_two hb o
        simp only [exc_nil, Int.add_zero, List.sum_cons, List.sum_nil]
        exact this
      | _ :: _ :: _ :: _, _, c2 => simp at c2
theorem swF_lr {b : Int} (hb : 0 ≤ b) {l : List Int} (h : Rg l) : LR b l (max 0 (-l.sum) + exc b (swF l)) ∧ ∀ s ∈ swF l, 1 ≤ s := by
  obtain ⟨p, q, g, e, o, _, hg, hl⟩ := swL_lr hb l.length l [] h (Nat.le_refl _)
  have e2 : swF l = g ++ [min (p.natAbs : Int) q.natAbs] := by unfold swF; rw [e]; simp
  rw [e2, exc_app, exc_one]
  refine ⟨by rw [← Int.add_assoc]; exact hl, fun s hs => ?_⟩
  rcases List.mem_append.mp hs with hs | hs
  · exact hg s hs
  · rw [List.mem_singleton.mp hs]; unfold opp at o; omega
end Mh

end
section
set_option Elab.async false
set_option linter.all false
set_option maxRecDepth 100000
set_option maxHeartbeats 1000000
/-! M1: what the defs compute (walks, parts). -/
namespace Mr
open Ev Mh
abbrev ti (xs : List Int) : D := .tup (xs.map .int)
abbrev li (xs : List Int) : D := .lst (xs.map .int)
abbrev CF (w k : Nat) : Fn := callF T0 PT w k
def trD (t : Int × Int × Int) : D := .tup [.int t.1, .int t.2.1, .int t.2.2]
def yD (rs ss : List Int) : D := .ins 0 [ti rs, ti ss]
def pD (p : P5) : D := .tup [.int p.n, .int p.r, .int p.l, .int p.m, .int p.o]
/-- a tuple or a list of these -/
def SeqI (d : D) (rs : List Int) : Prop := d = ti rs ∨ d = li rs
theorem SeqI.t {rs : List Int} : SeqI (ti rs) rs := .inl rfl
theorem SeqI.l {rs : List Int} : SeqI (li rs) rs := .inr rfl
theorem m_is_number (w k : Nat) (st : Store) (i : Int) : CF w (k + 1) 0 [.int i] st = .ok (.bl true) st := by
  rw [CF, callF_def p_is_number rfl]
  simp [b_is_number, peekV, readV, refV, res, finF, retD, args, D.arg, callO, bi, bi1, bi2, mx, mn, ab, D.item, items, dataD, tgLen, binop, cmpop, parS, slotD, lim, idxD, isTys, isTy, negD, Ev.bound, sliceD, D.seq, D.seqL, D.seqT, iterD, isOwn, wipeE_cons, wipeE_nil, mutable, mutS, mutate]
theorem m_is_number_b (w k : Nat) (st : Store) (i : Bool) : CF w (k + 1) 0 [.bl i] st = .ok (.bl false) st := by
  rw [CF, callF_def p_is_number rfl]
  simp [b_is_number, peekV, readV, refV, res, finF, retD, args, D.arg, callO, bi, bi1, bi2, mx, mn, ab, D.item, items, dataD, tgLen, binop, cmpop, parS, slotD, lim, idxD, isTys, isTy, negD, Ev.bound, sliceD, D.seq, D.seqL, D.seqT, iterD, isOwn, wipeE_cons, wipeE_nil, mutable, mutS, mutate]
theorem m_is_count (w k : Nat) (st : Store) (i : Int) : CF w (k + 2) 1 [.int i] st = .ok (.bl (decide (0 ≤ i))) st := by
  rw [CF, callF_def p_is_count rfl]
  simp [b_is_count, peekV, readV, refV, res, finF, retD, args, D.arg, callO, bi, bi1, bi2, mx, mn, ab, D.item, items, dataD, tgLen, binop, cmpop, parS, slotD, lim, idxD, isTys, isTy, negD, Ev.bound, sliceD, D.seq, D.seqL, D.seqT, iterD, isOwn, wipeE_cons, wipeE_nil, mutable, mutS, mutate, m_is_number]
theorem m_is_count_b (w k : Nat) (st : Store) (i : Bool) : CF w (k + 2) 1 [.bl i] st = .ok (.bl false) st := by
  rw [CF, callF_def p_is_count rfl]
  simp [b_is_count, peekV, readV, refV, res, finF, retD, args, D.arg, callO, bi, bi1, bi2, mx, mn, ab, D.item, items, dataD, tgLen, binop, cmpop, parS, slotD, lim, idxD, isTys, isTy, negD, Ev.bound, sliceD, D.seq, D.seqL, D.seqT, iterD, isOwn, wipeE_cons, wipeE_nil, mutable, mutS, mutate, m_is_number_b]
theorem m_middle (w k : Nat) (st : Store) (a b c : Int) : CF w (k + 1) 3 [.int a, .int b, .int c] st = .ok (.int (mid a b c)) st := by
  rw [CF, callF_def p_middle rfl]
  simp [b_middle, peekV, readV, refV, res, finF, retD, args, D.arg, callO, bi, bi1, bi2, mx, mn, ab, D.item, items, dataD, tgLen, binop, cmpop, parS, slotD, lim, idxD, isTys, isTy, negD, Ev.bound, sliceD, D.seq, D.seqL, D.seqT, iterD, isOwn, wipeE_cons, wipeE_nil, mutable, mutS, mutate, mid]
theorem m_then (w k : Nat) (st : Store) (d e : D) (p q : P5) (hd : d = pD p ∨ d = li [p.n, p.r, p.l, p.m, p.o]) (he : e = pD q ∨ e = li [q.n, q.r, q.l, q.m, q.o]) : CF w (k + 2) 4 [d, e] st = .ok (pD (thn p q)) st := by
  rw [CF, callF_def p_then rfl]
  rcases hd with rfl | rfl <;> rcases he with rfl | rfl <;> simp [b_then, peekV, readV, refV, res, finF, retD, args, D.arg, callO, bi, bi1, bi2, mx, mn, ab, D.item, items, dataD, tgLen, binop, cmpop, parS, slotD, lim, idxD, isTys, isTy, negD, Ev.bound, sliceD, D.seq, D.seqL, D.seqT, iterD, isOwn, wipeE_cons, wipeE_nil, mutable, mutS, mutate, pD, thn, m_middle]
theorem m_run_part (w k : Nat) (st : Store) (run butt : Int) : CF w (k + 1) 2 [.int run, .int butt] st = .ok (pD (runP run butt)) st := by
  rw [CF, callF_def p_run_part rfl]
  by_cases c : 0 < run <;> simp [b_run_part, peekV, readV, refV, res, finF, retD, args, D.arg, callO, bi, bi1, bi2, mx, mn, ab, D.item, items, dataD, tgLen, binop, cmpop, parS, slotD, lim, idxD, isTys, isTy, negD, Ev.bound, sliceD, D.seq, D.seqL, D.seqT, iterD, isOwn, wipeE_cons, wipeE_nil, mutable, mutS, mutate, pD, runP, c]
theorem partOf_snoc (b : Int) (p : List Int) (a : Int) : partOf b (p ++ [a]) = thn (partOf b p) (runP a b) := by simp [partOf, partF]
theorem m_part_of (w k : Nat) (st : Store) (d0 : D) (rs : List Int) (butt : Int) (h : SeqI d0 rs) : CF w (k + 3) 5 [d0, .int butt] st = .ok (pD (partOf butt rs)) st := by
  rw [CF, callF_def p_part_of rfl]
  obtain ⟨y', e⟩ := forL_P (turn := forT T0 (callF T0 PT w (k + 2)) w (.nm 3) (.seq (.par [2] (.cons (.call 4 (.cons (.var 2) (.cons (.call 2 (.cons (.var 3) (.cons (.var 1) .nil))) .nil))) .nil)) .skip)) D.int
    (fun p (y : Option D) => [some d0, some (.int butt), some (pD (partOf butt p)), y]) st rs none (fun p a q y _ => by
      refine ⟨some (.int a), ?_⟩
      have m2' := m_run_part w (k + 1) st a butt
      have m4' := m_then w k st _ _ (partOf butt p) (runP a butt) (.inl rfl) (.inl rfl)
      simp only [CF, pD] at m2' m4'
      simp [forT, peekV, readV, refV, res, finF, retD, args, D.arg, callO, bi, bi1, bi2, mx, mn, ab, D.item, items, dataD, tgLen, binop, cmpop, parS, slotD, lim, idxD, isTys, isTy, negD, Ev.bound, sliceD, D.seq, D.seqL, D.seqT, iterD, isOwn, wipeE_cons, wipeE_nil, mutable, mutS, mutate, pD, m2', m4', partOf_snoc])
  rcases h with rfl | rfl <;> (simp only [pD, partOf, partF, idP, List.foldl_nil] at e; simp [b_part_of, peekV, readV, refV, res, finF, retD, args, D.arg, callO, bi, bi1, bi2, mx, mn, ab, D.item, items, dataD, tgLen, binop, cmpop, parS, slotD, lim, idxD, isTys, isTy, negD, Ev.bound, sliceD, D.seq, D.seqL, D.seqT, iterD, isOwn, wipeE_cons, wipeE_nil, mutable, mutS, mutate, e, pD, partOf, partF, idP])
def walkL (b : Int) : List Int → Int → List (Int × Int × Int)
  | [], _ => []
  | r :: rs, x => (cl b (x + r), max 0 (-(x + r)), max 0 (x + r - b)) :: walkL b rs (cl b (x + r))
theorem walkL_len (b : Int) : ∀ (rs : List Int) (x : Int), (walkL b rs x).length = rs.length
  | [], _ => rfl
  | r :: rs, x => by simp [walkL, walkL_len b rs]
theorem walkL_app (b : Int) : ∀ (rs ss : List Int) (x : Int), walkL b (rs ++ ss) x = walkL b rs x ++ walkL b ss (lev b rs x)
  | [], _, _ => rfl
  | r :: rs, ss, x => by simp [walkL, lev, walkL_app b rs]
theorem walkL_last (b : Int) : ∀ (rs : List Int) (x : Int), rs ≠ [] → ∃ t, (walkL b rs x).getLast? = some t ∧ t.1 = lev b rs x
  | [], _, h => absurd rfl h
  | [r], x, _ => ⟨_, rfl, rfl⟩
  | r :: s :: rs, x, _ => by
    obtain ⟨t, e1, e2⟩ := walkL_last b (s :: rs) (cl b (x + r)) (by simp)
    refine ⟨t, ?_, e2⟩
    show ((_ :: walkL b (s :: rs) (cl b (x + r))) : List _).getLast? = _
    rw [show walkL b (s :: rs) (cl b (x + r)) = _ :: _ from rfl, List.getLast?_cons_cons]
    exact e1
theorem walkL_buy (b : Int) : ∀ (rs : List Int) (x : Int), ((walkL b rs x).map (·.2.1)).sum = buy b rs x
  | [], _ => rfl
  | r :: rs, x => by simp [walkL, buy, walkL_buy b rs]
theorem walkL_spl (b : Int) : ∀ (rs : List Int) (x : Int), ((walkL b rs x).map (·.2.2)).sum = spl b rs x
  | [], _ => rfl
  | r :: rs, x => by simp [walkL, spl, walkL_spl b rs]
theorem m_after_run (w k : Nat) (st : Store) (r b x : Int) : CF w (k + 1) 21 [.int r, .int b, .int x] st = .ok (trD (cl b (x + r), max 0 (-(x + r)), max 0 (x + r - b))) st := by
  rw [CF, callF_def p_after_run rfl]
  simp [b_after_run, peekV, readV, refV, res, finF, retD, args, D.arg, callO, bi, bi1, bi2, mx, mn, ab, D.item, items, dataD, tgLen, binop, cmpop, parS, slotD, lim, idxD, isTys, isTy, negD, Ev.bound, sliceD, D.seq, D.seqL, D.seqT, iterD, isOwn, wipeE_cons, wipeE_nil, mutable, mutS, mutate, trD, cl]
theorem m_walked_runs (w k : Nat) (st : Store) (rs : List Int) (b x : Int) (hl : rs.length ≤ 100000) : CF w (k + 2) 22 [ti rs, .int b, .int x] st = .ok (.lst ((walkL b rs x).map trD)) st := by
  rw [CF, callF_def p_walked_runs rfl]
  obtain ⟨y', e⟩ := forL_P (turn := forT T0 (callF T0 PT w (k + 1)) w (.nm 3) (.seq (.mut .append 4 (.cons (.call 21 (.cons (.var 3) (.cons (.var 1) (.cons (.var 5) .nil)))) .nil)) (.seq (.par [5] (.cons (.idx (.idx (.pk 4) (.neg (.lit (.int (1))))) (.lit (.int (0)))) .nil)) .skip))) D.int
    (fun p (y : Option D) => [some (ti rs), some (.int b), some (.int x), y, some (.own ((walkL b p x).map trD)), some (.int (lev b p x))]) st rs none (fun p a q y hp => by
      refine ⟨some (.int a), ?_⟩
      have m := m_after_run w k st a b (lev b p x)
      have hlen : (walkL b p x).length < 16777216 := by rw [walkL_len]; rw [hp] at hl; simp at hl; omega
      simp only [CF, trD] at m
      simp [forT, peekV, readV, refV, res, finF, retD, args, D.arg, callO, bi, bi1, bi2, mx, mn, ab, D.item, items, dataD, tgLen, binop, cmpop, parS, slotD, lim, idxD, isTys, isTy, negD, Ev.bound, sliceD, D.seq, D.seqL, D.seqT, iterD, isOwn, wipeE_cons, wipeE_nil, mutable, mutS, mutate, m, walkL_app, walkL, lev_app, lev, hlen, atI_m1, atI_0, trD])
  simp only [walkL, lev, List.map_nil] at e
  simp [b_walked_runs, peekV, readV, refV, res, finF, retD, args, D.arg, callO, bi, bi1, bi2, mx, mn, ab, D.item, items, dataD, tgLen, binop, cmpop, parS, slotD, lim, idxD, isTys, isTy, negD, Ev.bound, sliceD, D.seq, D.seqL, D.seqT, iterD, isOwn, wipeE_cons, wipeE_nil, mutable, mutS, mutate, e]
theorem m_Year_runs (w k : Nat) (st : Store) (rs ss : List Int) : CF w (k + 1) 52 [yD rs ss] st = .ok (ti rs) st := by
  rw [CF, callF_def p_Year_runs rfl]
  simp [b_Year_runs, peekV, readV, refV, res, finF, retD, args, D.arg, callO, bi, bi1, bi2, mx, mn, ab, D.item, items, dataD, tgLen, binop, cmpop, parS, slotD, lim, idxD, isTys, isTy, negD, Ev.bound, sliceD, D.seq, D.seqL, D.seqT, iterD, isOwn, wipeE_cons, wipeE_nil, mutable, mutS, mutate, yD]
theorem m_walked (w k : Nat) (st : Store) (rs ss : List Int) (b x : Int) (hl : rs.length ≤ 100000) : CF w (k + 3) 23 [yD rs ss, .int b, .int x] st = .ok (.lst ((walkL b rs x).map trD)) st := by
  rw [CF, callF_def p_walked rfl]
  have m1 := m_Year_runs w (k + 1) st rs ss
  have m2 := m_walked_runs w k st rs b x hl
  simp only [CF, yD] at m1 m2
  simp [b_walked, peekV, readV, refV, res, finF, retD, args, D.arg, callO, bi, bi1, bi2, mx, mn, ab, D.item, items, dataD, tgLen, binop, cmpop, parS, slotD, lim, idxD, isTys, isTy, negD, Ev.bound, sliceD, D.seq, D.seqL, D.seqT, iterD, isOwn, wipeE_cons, wipeE_nil, mutable, mutS, mutate, yD, m1, m2, noX]
theorem comp_tr {F : Fn} {w : Nat} {c : Int × Int × Int → Int} {i : Nat} {en : Env} {st : Store} {it : E} {d : D} {ts : List (Int × Int × Int)} (hit : evalE T0 F it en st = .ok d en st) (hd : iterD d = some (ts.map trD)) (hl : en.length = 6) (hn : ∀ j, j = 3 ∨ j = 4 ∨ j = 5 → isOwn en j = false)
    (hi : (i = 3 ∧ ∀ t, c t = t.1) ∨ (i = 4 ∧ ∀ t, c t = t.2.1) ∨ (i = 5 ∧ ∀ t, c t = t.2.2)) : evalE T0 F (.comp [3, 4, 5] (.tp (.cons (.nm 3) (.cons (.nm 4) (.cons (.nm 5) .nil)))) it (.lit (.bl true)) (.var i)) en st = .ok (.own ((ts.map c).map .int)) en st := by
  rw [comp_map ts trD (fun t => .int (c t)) hit hd (by simp [hn])]
  · simp
  · intro a _ acc
    match en, hl with
    | [_, _, _, _, _, _], _ =>
      rcases hi with ⟨rfl, h⟩ | ⟨rfl, h⟩ | ⟨rfl, h⟩ <;> simp [cmpT, peekV, readV, refV, res, finF, retD, args, D.arg, callO, bi, bi1, bi2, mx, mn, ab, D.item, items, dataD, tgLen, binop, cmpop, parS, slotD, lim, idxD, isTys, isTy, negD, Ev.bound, sliceD, D.seq, D.seqL, D.seqT, iterD, isOwn, wipeE_cons, wipeE_nil, mutable, mutS, mutate, trD, h]
theorem m_levels (w k : Nat) (st : Store) (rs ss : List Int) (b x : Int) (hl : rs.length ≤ 100000) : CF w (k + 4) 24 [yD rs ss, .int b, .int x] st = .ok (.own (((walkL b rs x).map (·.1)).map .int)) st := by
  rw [CF, callF_def p_levels rfl]
  have m := m_walked w k st rs ss b x hl
  simp only [CF, yD] at m
  have e := comp_tr (F := callF T0 PT w (k + 3)) (w := w) (c := (·.1)) (i := 3) (en := [some (yD rs ss), some (.int b), some (.int x), none, none, none]) (st := st) (it := .call 23 (.cons (.var 0) (.cons (.var 1) (.cons (.var 2) .nil)))) (d := .lst ((walkL b rs x).map trD)) (ts := walkL b rs x) (by simp [peekV, readV, refV, res, finF, retD, args, D.arg, callO, bi, bi1, bi2, mx, mn, ab, D.item, items, dataD, tgLen, binop, cmpop, parS, slotD, lim, idxD, isTys, isTy, negD, Ev.bound, sliceD, D.seq, D.seqL, D.seqT, iterD, isOwn, wipeE_cons, wipeE_nil, mutable, mutS, mutate, m, yD]) (by simp [peekV, readV, refV, res, finF, retD, args, D.arg, callO, bi, bi1, bi2, mx, mn, ab, D.item, items, dataD, tgLen, binop, cmpop, parS, slotD, lim, idxD, isTys, isTy, negD, Ev.bound, sliceD, D.seq, D.seqL, D.seqT, iterD, isOwn, wipeE_cons, wipeE_nil, mutable, mutS, mutate]) rfl (by simp [peekV, readV, refV, res, finF, retD, args, D.arg, callO, bi, bi1, bi2, mx, mn, ab, D.item, items, dataD, tgLen, binop, cmpop, parS, slotD, lim, idxD, isTys, isTy, negD, Ev.bound, sliceD, D.seq, D.seqL, D.seqT, iterD, isOwn, wipeE_cons, wipeE_nil, mutable, mutS, mutate]) (.inl ⟨rfl, fun _ => rfl⟩)
  simp only [yD] at e
  simp [b_levels, peekV, readV, refV, res, finF, retD, args, D.arg, callO, bi, bi1, bi2, mx, mn, ab, D.item, items, dataD, tgLen, binop, cmpop, parS, slotD, lim, idxD, isTys, isTy, negD, Ev.bound, sliceD, D.seq, D.seqL, D.seqT, iterD, isOwn, wipeE_cons, wipeE_nil, mutable, mutS, mutate, e, yD]
theorem m_level_after (w k : Nat) (st : Store) (rs ss : List Int) (b x : Int) (hl : rs.length ≤ 100000) (h0 : rs ≠ []) : CF w (k + 5) 25 [yD rs ss, .int b, .int x] st = .ok (.int (lev b rs x)) st := by
  rw [CF, callF_def p_level_after rfl]
  have m := m_levels w k st rs ss b x hl
  obtain ⟨t, e1, e2⟩ := walkL_last b rs x h0
  simp only [CF, yD] at m
  simp [b_level_after, peekV, readV, refV, res, finF, retD, args, D.arg, callO, bi, bi1, bi2, mx, mn, ab, D.item, items, dataD, tgLen, binop, cmpop, parS, slotD, lim, idxD, isTys, isTy, negD, Ev.bound, sliceD, D.seq, D.seqL, D.seqT, iterD, isOwn, wipeE_cons, wipeE_nil, mutable, mutS, mutate, m, yD, atI_m1, e1, e2]
theorem m_bought_in (w k : Nat) (st : Store) (rs ss : List Int) (b x : Int) (hl : rs.length ≤ 100000) : CF w (k + 4) 26 [yD rs ss, .int b, .int x] st = .ok (.int (buy b rs x)) st := by
  rw [CF, callF_def p_bought_in rfl]
  have m := m_walked w k st rs ss b x hl
  simp only [CF, yD] at m
  have e := comp_tr (F := callF T0 PT w (k + 3)) (w := w) (c := (·.2.1)) (i := 4) (en := [some (yD rs ss), some (.int b), some (.int x), none, none, none]) (st := st) (it := .call 23 (.cons (.var 0) (.cons (.var 1) (.cons (.var 2) .nil)))) (d := .lst ((walkL b rs x).map trD)) (ts := walkL b rs x) (by simp [peekV, readV, refV, res, finF, retD, args, D.arg, callO, bi, bi1, bi2, mx, mn, ab, D.item, items, dataD, tgLen, binop, cmpop, parS, slotD, lim, idxD, isTys, isTy, negD, Ev.bound, sliceD, D.seq, D.seqL, D.seqT, iterD, isOwn, wipeE_cons, wipeE_nil, mutable, mutS, mutate, m, yD]) (by simp [peekV, readV, refV, res, finF, retD, args, D.arg, callO, bi, bi1, bi2, mx, mn, ab, D.item, items, dataD, tgLen, binop, cmpop, parS, slotD, lim, idxD, isTys, isTy, negD, Ev.bound, sliceD, D.seq, D.seqL, D.seqT, iterD, isOwn, wipeE_cons, wipeE_nil, mutable, mutS, mutate]) rfl (by simp [peekV, readV, refV, res, finF, retD, args, D.arg, callO, bi, bi1, bi2, mx, mn, ab, D.item, items, dataD, tgLen, binop, cmpop, parS, slotD, lim, idxD, isTys, isTy, negD, Ev.bound, sliceD, D.seq, D.seqL, D.seqT, iterD, isOwn, wipeE_cons, wipeE_nil, mutable, mutS, mutate]) (.inr (.inl ⟨rfl, fun _ => rfl⟩))
  simp only [yD] at e
  simp [b_bought_in, peekV, readV, refV, res, finF, retD, args, D.arg, callO, bi, bi1, bi2, mx, mn, ab, D.item, items, dataD, tgLen, binop, cmpop, parS, slotD, lim, idxD, isTys, isTy, negD, Ev.bound, sliceD, D.seq, D.seqL, D.seqT, iterD, isOwn, wipeE_cons, wipeE_nil, mutable, mutS, mutate, e, yD]
  rw [← List.map_map (g := D.int), asInts_map]
  simp [walkL_buy]
theorem m_spilled_in (w k : Nat) (st : Store) (rs ss : List Int) (b x : Int) (hl : rs.length ≤ 100000) : CF w (k + 4) 27 [yD rs ss, .int b, .int x] st = .ok (.int (spl b rs x)) st := by
  rw [CF, callF_def p_spilled_in rfl]
  have m := m_walked w k st rs ss b x hl
  simp only [CF, yD] at m
  have e := comp_tr (F := callF T0 PT w (k + 3)) (w := w) (c := (·.2.2)) (i := 5) (en := [some (yD rs ss), some (.int b), some (.int x), none, none, none]) (st := st) (it := .call 23 (.cons (.var 0) (.cons (.var 1) (.cons (.var 2) .nil)))) (d := .lst ((walkL b rs x).map trD)) (ts := walkL b rs x) (by simp [peekV, readV, refV, res, finF, retD, args, D.arg, callO, bi, bi1, bi2, mx, mn, ab, D.item, items, dataD, tgLen, binop, cmpop, parS, slotD, lim, idxD, isTys, isTy, negD, Ev.bound, sliceD, D.seq, D.seqL, D.seqT, iterD, isOwn, wipeE_cons, wipeE_nil, mutable, mutS, mutate, m, yD]) (by simp [peekV, readV, refV, res, finF, retD, args, D.arg, callO, bi, bi1, bi2, mx, mn, ab, D.item, items, dataD, tgLen, binop, cmpop, parS, slotD, lim, idxD, isTys, isTy, negD, Ev.bound, sliceD, D.seq, D.seqL, D.seqT, iterD, isOwn, wipeE_cons, wipeE_nil, mutable, mutS, mutate]) rfl (by simp [peekV, readV, refV, res, finF, retD, args, D.arg, callO, bi, bi1, bi2, mx, mn, ab, D.item, items, dataD, tgLen, binop, cmpop, parS, slotD, lim, idxD, isTys, isTy, negD, Ev.bound, sliceD, D.seq, D.seqL, D.seqT, iterD, isOwn, wipeE_cons, wipeE_nil, mutable, mutS, mutate]) (.inr (.inr ⟨rfl, fun _ => rfl⟩))
  simp only [yD] at e
  simp [b_spilled_in, peekV, readV, refV, res, finF, retD, args, D.arg, callO, bi, bi1, bi2, mx, mn, ab, D.item, items, dataD, tgLen, binop, cmpop, parS, slotD, lim, idxD, isTys, isTy, negD, Ev.bound, sliceD, D.seq, D.seqL, D.seqT, iterD, isOwn, wipeE_cons, wipeE_nil, mutable, mutS, mutate, e, yD]
  rw [← List.map_map (g := D.int), asInts_map]
  simp [walkL_spl]
end Mr

end
section
set_option Elab.async false
set_option linter.all false
set_option maxRecDepth 100000
set_option maxHeartbeats 1000000
/-! M1b: what the defs compute (parts, on). -/
namespace Mr
open Ev Mh
def fD : Option P5 → D
  | none => .non
  | some q => pD q
def timesT : E := (.cmp .gt (.pk 3) (.lit (.int (0))))
def timesB : S := (.seq (.ite (.cmp .eq (.bin .mod (.pk 3) (.lit (.int (2)))) (.lit (.int (1)))) (.seq (.par [4] (.cons (.ite (.cmp .isn (.pk 4) (.lit .non)) (.var 2) (.call 4 (.cons (.var 4) (.cons (.var 2) .nil)))) .nil)) .skip) .skip) (.seq (.par [2, 3] (.cons (.call 4 (.cons (.var 2) (.cons (.var 2) .nil))) (.cons (.bin .fdiv (.pk 3) (.lit (.int (2)))) .nil))) .skip))
theorem fmod2 (z : Int) : Int.fmod z 2 = z % 2 := Int.fmod_eq_emod_of_nonneg _ (by omega)
theorem fdiv2 (z : Int) : Int.fdiv z 2 = z / 2 := Int.fdiv_eq_ediv_of_nonneg _ (by omega)
theorem eqS_int (i j : Int) : eqD (.int i) (.int j) = some (decide (i = j)) := rfl
theorem eqS_bl (i j : Bool) : eqD (.bl i) (.bl j) = some (decide (i = j)) := rfl
theorem tmsL_succ (m n : Nat) (p : P5) (f : Option P5) : tmsL (m + 1) p n f = if n = 0 then f else tmsL m (thn p p) (n / 2) (if n % 2 = 1 then some (match f with
    | none => p
    | some q => thn q p) else f) := rfl
theorem times_loop (w k : Nat) (st : Store) (d0 d1 : D) : ∀ (m fuel n : Nat) (z : Int) (p : P5) (f : Option P5), z = n → n < 2 ^ m → m < fuel →
    ∃ p', whileL (whT T0 (callF T0 PT w (k + 2)) timesT) (evalS T0 (callF T0 PT w (k + 2)) w timesB) fuel [some d0, some d1, some (pD p), some (.int z), some (fD f)] st = .ok .nx [some d0, some d1, some (pD p'), some (.int 0), some (fD (tmsL m p n f))] st
  | m, 0, n, z, p, f, _, _, h => by omega
  | 0, fuel + 1, n, z, p, f, hz, hn, _ => by
    have : n = 0 := by omega
    subst this
    subst hz
    exact ⟨p, by simp [whileL, whT, timesT, peekV, readV, refV, res, finF, retD, args, D.arg, callO, bi, bi1, bi2, mx, mn, ab, D.item, items, dataD, tgLen, binop, cmpop, parS, slotD, lim, idxD, isTys, isTy, negD, Ev.bound, sliceD, D.seq, D.seqL, D.seqT, iterD, isOwn, wipeE_cons, wipeE_nil, mutable, mutS, mutate, tmsL]⟩
  | m + 1, fuel + 1, n, z, p, f, hz, hn, hf => by
    by_cases h0 : n = 0
    · subst h0
      subst hz
      exact ⟨p, by simp [whileL, whT, timesT, peekV, readV, refV, res, finF, retD, args, D.arg, callO, bi, bi1, bi2, mx, mn, ab, D.item, items, dataD, tgLen, binop, cmpop, parS, slotD, lim, idxD, isTys, isTy, negD, Ev.bound, sliceD, D.seq, D.seqL, D.seqT, iterD, isOwn, wipeE_cons, wipeE_nil, mutable, mutS, mutate, tmsL]⟩
    · have hlt : 0 < z := by omega
      have mm := m_then w k st _ _ p p (.inl rfl) (.inl rfl)
      simp only [CF, pD] at mm
      have hn2 : n / 2 < 2 ^ m := by rw [Nat.pow_succ] at hn; omega
      have hz2 : z / 2 = ((n / 2 : Nat) : Int) := by omega
      by_cases o : n % 2 = 1
      · have o' : z % 2 = 1 := by omega
        obtain ⟨p', e⟩ := times_loop w k st d0 d1 m fuel (n / 2) (z / 2) (thn p p) (some (match f with
          | none => p
          | some q => thn q p)) hz2 hn2 (by omega)
        refine ⟨p', ?_⟩
        rw [tmsL_succ, if_neg h0, if_pos o, ← e]
        cases f with
        | none => simp [whileL, whT, timesT, timesB, peekV, readV, refV, res, finF, retD, args, D.arg, callO, bi, bi1, bi2, mx, mn, ab, D.item, items, dataD, tgLen, binop, cmpop, parS, slotD, lim, idxD, isTys, isTy, negD, Ev.bound, sliceD, D.seq, D.seqL, D.seqT, iterD, isOwn, wipeE_cons, wipeE_nil, mutable, mutS, mutate, hlt, fmod2, fdiv2, eqS_int, o', mm, fD, pD, isN]
        | some q =>
          have mq := m_then w k st _ _ q p (.inl rfl) (.inl rfl)
          simp only [CF, pD] at mq
          simp [whileL, whT, timesT, timesB, peekV, readV, refV, res, finF, retD, args, D.arg, callO, bi, bi1, bi2, mx, mn, ab, D.item, items, dataD, tgLen, binop, cmpop, parS, slotD, lim, idxD, isTys, isTy, negD, Ev.bound, sliceD, D.seq, D.seqL, D.seqT, iterD, isOwn, wipeE_cons, wipeE_nil, mutable, mutS, mutate, hlt, fmod2, fdiv2, eqS_int, o', mm, mq, fD, pD, isN]
      · have o' : ¬ z % 2 = 1 := by omega
        obtain ⟨p', e⟩ := times_loop w k st d0 d1 m fuel (n / 2) (z / 2) (thn p p) f hz2 hn2 (by omega)
        refine ⟨p', ?_⟩
        rw [tmsL_succ, if_neg h0, if_neg o, ← e]
        simp [whileL, whT, timesT, timesB, peekV, readV, refV, res, finF, retD, args, D.arg, callO, bi, bi1, bi2, mx, mn, ab, D.item, items, dataD, tgLen, binop, cmpop, parS, slotD, lim, idxD, isTys, isTy, negD, Ev.bound, sliceD, D.seq, D.seqL, D.seqT, iterD, isOwn, wipeE_cons, wipeE_nil, mutable, mutS, mutate, hlt, fmod2, fdiv2, eqS_int, o', mm, pD]
theorem m_times (w k : Nat) (st : Store) (p : P5) (n m : Nat) (hn : n < 2 ^ m) (hw : m < w) : CF w (k + 3) 6 [pD p, .int n] st = .ok (fD (tmsL m p n none)) st := by
  rw [CF, callF_def p_times rfl]
  obtain ⟨p', e⟩ := times_loop w k st (pD p) (.int n) m w n n p none rfl hn hw
  simp only [timesT, timesB, pD, fD] at e
  simp only [pD]
  cases h : tmsL m p n none with
  | none =>
    rw [h] at e
    simp [b_times, peekV, readV, refV, res, finF, retD, args, D.arg, callO, bi, bi1, bi2, mx, mn, ab, D.item, items, dataD, tgLen, binop, cmpop, parS, slotD, lim, idxD, isTys, isTy, negD, Ev.bound, sliceD, D.seq, D.seqL, D.seqT, iterD, isOwn, wipeE_cons, wipeE_nil, mutable, mutS, mutate, e, fD]
  | some q =>
    rw [h] at e
    simp only [pD] at e
    simp [b_times, peekV, readV, refV, res, finF, retD, args, D.arg, callO, bi, bi1, bi2, mx, mn, ab, D.item, items, dataD, tgLen, binop, cmpop, parS, slotD, lim, idxD, isTys, isTy, negD, Ev.bound, sliceD, D.seq, D.seqL, D.seqT, iterD, isOwn, wipeE_cons, wipeE_nil, mutable, mutS, mutate, e, fD, pD]
def okB (b : Int) (p : P5) : Bool := decide (0 ≤ p.n) && decide (0 ≤ p.r) && decide (0 ≤ p.l) && decide (0 ≤ p.m) && decide (0 ≤ p.o) && decide (p.n ≤ p.r) && decide (p.r ≤ b) && decide (p.l + p.r - p.n ≤ b) && (decide (p.n = p.r) || decide (p.m = 0) && decide (p.o = 0))
theorem okB_iff {b : Int} {p : P5} : okB b p = true ↔ p.Ok b := by
  simp only [okB, Bool.and_eq_true, Bool.or_eq_true, decide_eq_true_eq]
  constructor
  · rintro ⟨⟨⟨⟨⟨⟨⟨⟨h1, h2⟩, h3⟩, h4⟩, h5⟩, h6⟩, h7⟩, h8⟩, h9⟩
    exact ⟨h1, h6, h7, h3, h8, h4, h5, h9⟩
  · rintro ⟨h1, h2, h3, h4, h5, h6, h7, h8⟩
    exact ⟨⟨⟨⟨⟨⟨⟨⟨h1, by omega⟩, h4⟩, h6⟩, h7⟩, h2⟩, h3⟩, h5⟩, h8⟩
/-- all of the items are counts -/
def cntB : D → Bool
  | .int i => decide (0 ≤ i)
  | _ => false
theorem cnt_comp {w k : Nat} {en : Ev.Env} {st : Store} {it : E} {ds : List D} (hit : evalE T0 (callF T0 PT w (k + 2)) it en st = .ok (.tup ds) en st) (hl : en.length = 8) (h7 : isOwn en 7 = false) (hd : ∀ d ∈ ds, (∃ i, d = .int i) ∨ ∃ i, d = .bl i) :
    evalE T0 (callF T0 PT w (k + 2)) (.comp [7] (.nm 7) it (.lit (.bl true)) (.call 1 (.cons (.var 7) .nil))) en st = .ok (.own ((ds.map cntB).map .bl)) en st := by
  rw [comp_map ds id (fun d => .bl (cntB d)) hit (by simp [peekV, readV, refV, res, finF, retD, args, D.arg, callO, bi, bi1, bi2, mx, mn, ab, D.item, items, dataD, tgLen, binop, cmpop, parS, slotD, lim, idxD, isTys, isTy, negD, Ev.bound, sliceD, D.seq, D.seqL, D.seqT, iterD, isOwn, wipeE_cons, wipeE_nil, mutable, mutS, mutate]) (by simp [h7])]
  · simp
  · intro a ha acc
    match en, hl with
    | [_, _, _, _, _, _, _, _], _ =>
      rcases hd a ha with ⟨i, rfl⟩ | ⟨i, rfl⟩
      · have := m_is_count w k st i
        simp only [CF] at this
        simp [cmpT, peekV, readV, refV, res, finF, retD, args, D.arg, callO, bi, bi1, bi2, mx, mn, ab, D.item, items, dataD, tgLen, binop, cmpop, parS, slotD, lim, idxD, isTys, isTy, negD, Ev.bound, sliceD, D.seq, D.seqL, D.seqT, iterD, isOwn, wipeE_cons, wipeE_nil, mutable, mutS, mutate, cntB, this]
      · have := m_is_count_b w k st i
        simp only [CF] at this
        simp [cmpT, peekV, readV, refV, res, finF, retD, args, D.arg, callO, bi, bi1, bi2, mx, mn, ab, D.item, items, dataD, tgLen, binop, cmpop, parS, slotD, lim, idxD, isTys, isTy, negD, Ev.bound, sliceD, D.seq, D.seqL, D.seqT, iterD, isOwn, wipeE_cons, wipeE_nil, mutable, mutS, mutate, cntB, this]
theorem m_is_part (w k : Nat) (st : Store) (b : Int) (p : P5) : CF w (k + 3) 7 [.int b, pD p] st = .ok (.bl (okB b p)) st := by
  rw [CF, callF_def p_is_part rfl]
  have e := cnt_comp (w := w) (k := k) (en := [some (.int b), some (pD p), none, none, none, none, none, none]) (st := st) (it := .var 1) (ds := [.int p.n, .int p.r, .int p.l, .int p.m, .int p.o]) (by simp [peekV, readV, refV, res, finF, retD, args, D.arg, callO, bi, bi1, bi2, mx, mn, ab, D.item, items, dataD, tgLen, binop, cmpop, parS, slotD, lim, idxD, isTys, isTy, negD, Ev.bound, sliceD, D.seq, D.seqL, D.seqT, iterD, isOwn, wipeE_cons, wipeE_nil, mutable, mutS, mutate, pD]) rfl (by simp [peekV, readV, refV, res, finF, retD, args, D.arg, callO, bi, bi1, bi2, mx, mn, ab, D.item, items, dataD, tgLen, binop, cmpop, parS, slotD, lim, idxD, isTys, isTy, negD, Ev.bound, sliceD, D.seq, D.seqL, D.seqT, iterD, isOwn, wipeE_cons, wipeE_nil, mutable, mutS, mutate]) (by simp)
  simp only [pD, List.map_cons, List.map_nil, cntB] at e
  by_cases h : (decide (0 ≤ p.n) && decide (0 ≤ p.r) && decide (0 ≤ p.l) && decide (0 ≤ p.m) && decide (0 ≤ p.o)) = true
  · have hA : decide (0 ≤ p.n) = true ∧ decide (0 ≤ p.r) = true ∧ decide (0 ≤ p.l) = true ∧ decide (0 ≤ p.m) = true ∧ decide (0 ≤ p.o) = true := by
      simpa [Bool.and_eq_true, and_assoc] using h
    obtain ⟨a1, a2, a3, a4, a5⟩ := hA
    rw [a1, a2, a3, a4, a5] at e
    have h1 : okB b p = (decide (p.n ≤ p.r) && decide (p.r ≤ b) && decide (p.l + p.r - p.n ≤ b) && (decide (p.n = p.r) || decide (p.m = 0) && decide (p.o = 0))) := by
      unfold okB; rw [a1, a2, a3, a4, a5]; simp
    rw [h1]
    simp only [pD]
    by_cases c1 : p.n ≤ p.r
    · by_cases c2 : p.r ≤ b
      · by_cases c3 : p.l + p.r - p.n ≤ b
        · have c3' : ¬ b < p.l + p.r - p.n := by omega
          by_cases c4 : p.n = p.r
          · have c4 := eq_true c4
            simp [b_is_part, peekV, readV, refV, res, finF, retD, args, D.arg, callO, bi, bi1, bi2, mx, mn, ab, D.item, items, dataD, tgLen, binop, cmpop, parS, slotD, lim, idxD, isTys, isTy, negD, Ev.bound, sliceD, D.seq, D.seqL, D.seqT, iterD, isOwn, wipeE_cons, wipeE_nil, mutable, mutS, mutate, e, eqS_int, asBools, c1, c2, c3, c3', c4]
          · by_cases c5 : p.m = 0
            · have c5 := eq_true c5
              simp [b_is_part, peekV, readV, refV, res, finF, retD, args, D.arg, callO, bi, bi1, bi2, mx, mn, ab, D.item, items, dataD, tgLen, binop, cmpop, parS, slotD, lim, idxD, isTys, isTy, negD, Ev.bound, sliceD, D.seq, D.seqL, D.seqT, iterD, isOwn, wipeE_cons, wipeE_nil, mutable, mutS, mutate, e, eqS_int, asBools, c1, c2, c3, c3', c4, c5]
            · simp [b_is_part, peekV, readV, refV, res, finF, retD, args, D.arg, callO, bi, bi1, bi2, mx, mn, ab, D.item, items, dataD, tgLen, binop, cmpop, parS, slotD, lim, idxD, isTys, isTy, negD, Ev.bound, sliceD, D.seq, D.seqL, D.seqT, iterD, isOwn, wipeE_cons, wipeE_nil, mutable, mutS, mutate, e, eqS_int, asBools, c1, c2, c3, c3', c4, c5]
        · have c3' : b < p.l + p.r - p.n := by omega
          simp [b_is_part, peekV, readV, refV, res, finF, retD, args, D.arg, callO, bi, bi1, bi2, mx, mn, ab, D.item, items, dataD, tgLen, binop, cmpop, parS, slotD, lim, idxD, isTys, isTy, negD, Ev.bound, sliceD, D.seq, D.seqL, D.seqT, iterD, isOwn, wipeE_cons, wipeE_nil, mutable, mutS, mutate, e, eqS_int, asBools, c1, c2, c3, c3']
      · simp [b_is_part, peekV, readV, refV, res, finF, retD, args, D.arg, callO, bi, bi1, bi2, mx, mn, ab, D.item, items, dataD, tgLen, binop, cmpop, parS, slotD, lim, idxD, isTys, isTy, negD, Ev.bound, sliceD, D.seq, D.seqL, D.seqT, iterD, isOwn, wipeE_cons, wipeE_nil, mutable, mutS, mutate, e, eqS_int, asBools, c1, c2]
    · simp [b_is_part, peekV, readV, refV, res, finF, retD, args, D.arg, callO, bi, bi1, bi2, mx, mn, ab, D.item, items, dataD, tgLen, binop, cmpop, parS, slotD, lim, idxD, isTys, isTy, negD, Ev.bound, sliceD, D.seq, D.seqL, D.seqT, iterD, isOwn, wipeE_cons, wipeE_nil, mutable, mutS, mutate, e, eqS_int, asBools, c1]
  · have h' : (decide (0 ≤ p.n) && decide (0 ≤ p.r) && decide (0 ≤ p.l) && decide (0 ≤ p.m) && decide (0 ≤ p.o)) = false := by simpa using h
    have h1 : okB b p = false := by unfold okB; rw [h']; simp
    have h2 : ([decide (0 ≤ p.n), decide (0 ≤ p.r), decide (0 ≤ p.l), decide (0 ≤ p.m), decide (0 ≤ p.o)] : List Bool).all id = false := by
      rw [← h']; simp [Bool.and_assoc]
    rw [h1]
    simp only [pD]
    generalize decide (0 ≤ p.n) = q1 at *
    generalize decide (0 ≤ p.r) = q2 at *
    generalize decide (0 ≤ p.l) = q3 at *
    generalize decide (0 ≤ p.m) = q4 at *
    generalize decide (0 ≤ p.o) = q5 at *
    have h3 : asBools [D.bl q1, D.bl q2, D.bl q3, D.bl q4, D.bl q5] = some [q1, q2, q3, q4, q5] := rfl
    simp only [b_is_part, List.map_cons, List.map_nil] at *
    simp [b_is_part, peekV, readV, refV, res, finF, retD, args, D.arg, callO, bi, bi1, bi2, mx, mn, ab, D.item, items, dataD, tgLen, binop, cmpop, parS, slotD, lim, idxD, isTys, isTy, negD, Ev.bound, sliceD, D.seq, D.seqL, D.seqT, iterD, isOwn, wipeE_cons, wipeE_nil, mutable, mutS, mutate, e, eqS_int, h3, h2]
theorem m_is_part_l (w k : Nat) (st : Store) (b : Int) (ds : List D) : CF w (k + 3) 7 [.int b, .lst ds] st = .ok (.bl false) st := by
  rw [CF, callF_def p_is_part rfl]
  simp [b_is_part, peekV, readV, refV, res, finF, retD, args, D.arg, callO, bi, bi1, bi2, mx, mn, ab, D.item, items, dataD, tgLen, binop, cmpop, parS, slotD, lim, idxD, isTys, isTy, negD, Ev.bound, sliceD, D.seq, D.seqL, D.seqT, iterD, isOwn, wipeE_cons, wipeE_nil, mutable, mutS, mutate]
theorem m_is_part_4 (w k : Nat) (st : Store) (b : Int) (p : P5) : CF w (k + 3) 7 [.int b, .tup [.int p.n, .int p.r, .int p.l, .int p.m]] st = .ok (.bl false) st := by
  rw [CF, callF_def p_is_part rfl]
  simp [b_is_part, peekV, readV, refV, res, finF, retD, args, D.arg, callO, bi, bi1, bi2, mx, mn, ab, D.item, items, dataD, tgLen, binop, cmpop, parS, slotD, lim, idxD, isTys, isTy, negD, Ev.bound, sliceD, D.seq, D.seqL, D.seqT, iterD, isOwn, wipeE_cons, wipeE_nil, mutable, mutS, mutate, eqS_int]
theorem m_is_part_t (w k : Nat) (st : Store) (b : Int) (p : P5) : CF w (k + 3) 7 [.int b, .tup [.int p.n, .int p.r, .int p.l, .int p.m, .bl true]] st = .ok (.bl false) st := by
  rw [CF, callF_def p_is_part rfl]
  have e := cnt_comp (w := w) (k := k) (en := [some (.int b), some (.tup [.int p.n, .int p.r, .int p.l, .int p.m, .bl true]), none, none, none, none, none, none]) (st := st) (it := .var 1) (ds := [.int p.n, .int p.r, .int p.l, .int p.m, .bl true]) (by simp [peekV, readV, refV, res, finF, retD, args, D.arg, callO, bi, bi1, bi2, mx, mn, ab, D.item, items, dataD, tgLen, binop, cmpop, parS, slotD, lim, idxD, isTys, isTy, negD, Ev.bound, sliceD, D.seq, D.seqL, D.seqT, iterD, isOwn, wipeE_cons, wipeE_nil, mutable, mutS, mutate]) rfl (by simp [peekV, readV, refV, res, finF, retD, args, D.arg, callO, bi, bi1, bi2, mx, mn, ab, D.item, items, dataD, tgLen, binop, cmpop, parS, slotD, lim, idxD, isTys, isTy, negD, Ev.bound, sliceD, D.seq, D.seqL, D.seqT, iterD, isOwn, wipeE_cons, wipeE_nil, mutable, mutS, mutate]) (by simp)
  simp only [List.map_cons, List.map_nil, cntB] at e
  generalize decide (0 ≤ p.n) = q1 at *
  generalize decide (0 ≤ p.r) = q2 at *
  generalize decide (0 ≤ p.l) = q3 at *
  generalize decide (0 ≤ p.m) = q4 at *
  have h3 : asBools [D.bl q1, D.bl q2, D.bl q3, D.bl q4, D.bl false] = some [q1, q2, q3, q4, false] := rfl
  simp [b_is_part, peekV, readV, refV, res, finF, retD, args, D.arg, callO, bi, bi1, bi2, mx, mn, ab, D.item, items, dataD, tgLen, binop, cmpop, parS, slotD, lim, idxD, isTys, isTy, negD, Ev.bound, sliceD, D.seq, D.seqL, D.seqT, iterD, isOwn, wipeE_cons, wipeE_nil, mutable, mutS, mutate, e, eqS_int, h3]
theorem m_through (w k : Nat) (st : Store) (p : P5) (x : Int) : CF w (k + 2) 8 [pD p, .int x] st = .ok (trD (p.lv x, p.by x, p.sp x)) st := by
  rw [CF, callF_def p_through rfl]
  simp [b_through, peekV, readV, refV, res, finF, retD, args, D.arg, callO, bi, bi1, bi2, mx, mn, ab, D.item, items, dataD, tgLen, binop, cmpop, parS, slotD, lim, idxD, isTys, isTy, negD, Ev.bound, sliceD, D.seq, D.seqL, D.seqT, iterD, isOwn, wipeE_cons, wipeE_nil, mutable, mutS, mutate, pD, trD, m_middle, P5.lv, P5.by, P5.sp]
/-- a row with a part -/
def rowP (b : Int) (p : P5) : List Int := if p.n < p.r then [-p.n, b - p.r + p.n, p.l - (b - p.r + p.n)] else if 0 < p.m then [-p.n, b, -b - p.m, b + p.o, p.l - b] else [-p.n, b + p.o, p.l - b]
def rowN (b : Int) (p : P5) : List Int := (rowP b p).filter fun r => decide (r ≠ 0)
theorem fil_comp {w k : Nat} {en : Ev.Env} {st : Store} {xs : List Int} (hit : evalE T0 (callF T0 PT w k) (.var 8) en st = .ok (ti xs) en st) (hl : en.length = 10) (h7 : isOwn en 9 = false) :
    evalE T0 (callF T0 PT w k) (.comp [9] (.nm 9) (.var 8) (.cmp .ne (.pk 9) (.lit (.int (0)))) (.var 9)) en st = .ok (.own ((xs.filter fun r => decide (r ≠ 0)).map .int)) en st := by
  rw [comp_pure xs .int (fun a => if a ≠ 0 then some (.int a) else none) hit (by simp [peekV, readV, refV, res, finF, retD, args, D.arg, callO, bi, bi1, bi2, mx, mn, ab, D.item, items, dataD, tgLen, binop, cmpop, parS, slotD, lim, idxD, isTys, isTy, negD, Ev.bound, sliceD, D.seq, D.seqL, D.seqT, iterD, isOwn, wipeE_cons, wipeE_nil, mutable, mutS, mutate]) (by simp [h7])]
  · congr 2
    clear hit
    induction xs with
    | nil => rfl
    | cons a r ih =>
      simp only [ne_eq, ite_not, decide_not] at ih
      by_cases h : a = 0 <;> simp [h, ih]
  · intro a ha acc
    match en, hl with
    | [_, _, _, _, _, _, _, _, _, _], _ =>
      by_cases h : a = 0 <;> simp [cmpT, peekV, readV, refV, res, finF, retD, args, D.arg, callO, bi, bi1, bi2, mx, mn, ab, D.item, items, dataD, tgLen, binop, cmpop, parS, slotD, lim, idxD, isTys, isTy, negD, Ev.bound, sliceD, D.seq, D.seqL, D.seqT, iterD, isOwn, wipeE_cons, wipeE_nil, mutable, mutS, mutate, eqS_int, h]
theorem m_runs_for (w k : Nat) (st : Store) (b : Int) (p : P5) (d : D) (hd : d = pD p ∨ d = li [p.n, p.r, p.l, p.m, p.o]) : CF w (k + 1) 9 [.int b, d] st = .ok (ti (rowN b p)) st := by
  rw [CF, callF_def p_runs_for rfl]
  have e := fun (x2 x3 x4 x5 x6 x7 : Option D) (xs : List Int) => fil_comp (w := w) (k := k) (en := [some (.int b), some d, x2, x3, x4, x5, x6, x7, some (ti xs), none]) (st := st) (xs := xs) (by simp [peekV, readV, refV, res, finF, retD, args, D.arg, callO, bi, bi1, bi2, mx, mn, ab, D.item, items, dataD, tgLen, binop, cmpop, parS, slotD, lim, idxD, isTys, isTy, negD, Ev.bound, sliceD, D.seq, D.seqL, D.seqT, iterD, isOwn, wipeE_cons, wipeE_nil, mutable, mutS, mutate]) rfl (by simp [peekV, readV, refV, res, finF, retD, args, D.arg, callO, bi, bi1, bi2, mx, mn, ab, D.item, items, dataD, tgLen, binop, cmpop, parS, slotD, lim, idxD, isTys, isTy, negD, Ev.bound, sliceD, D.seq, D.seqL, D.seqT, iterD, isOwn, wipeE_cons, wipeE_nil, mutable, mutS, mutate])
  unfold rowN rowP
  by_cases c1 : p.n < p.r
  · have e := e (some (.int p.n)) (some (.int p.r)) (some (.int p.l)) (some (.int p.m)) (some (.int p.o)) (some (.int (b - p.r + p.n))) [-p.n, b - p.r + p.n, p.l - (b - p.r + p.n)]
    simp only [ti, List.map_cons, List.map_nil] at e
    rcases hd with rfl | rfl <;> (simp only [pD, li, List.map_cons, List.map_nil] at e; simp [b_runs_for, peekV, readV, refV, res, finF, retD, args, D.arg, callO, bi, bi1, bi2, mx, mn, ab, D.item, items, dataD, tgLen, binop, cmpop, parS, slotD, lim, idxD, isTys, isTy, negD, Ev.bound, sliceD, D.seq, D.seqL, D.seqT, iterD, isOwn, wipeE_cons, wipeE_nil, mutable, mutS, mutate, pD, li, ti, c1, e])
  · by_cases c2 : 0 < p.m
    · have e := e (some (.int p.n)) (some (.int p.r)) (some (.int p.l)) (some (.int p.m)) (some (.int p.o)) none [-p.n, b, -b - p.m, b + p.o, p.l - b]
      simp only [ti, List.map_cons, List.map_nil] at e
      rcases hd with rfl | rfl <;> (simp only [pD, li, List.map_cons, List.map_nil] at e; simp [b_runs_for, peekV, readV, refV, res, finF, retD, args, D.arg, callO, bi, bi1, bi2, mx, mn, ab, D.item, items, dataD, tgLen, binop, cmpop, parS, slotD, lim, idxD, isTys, isTy, negD, Ev.bound, sliceD, D.seq, D.seqL, D.seqT, iterD, isOwn, wipeE_cons, wipeE_nil, mutable, mutS, mutate, pD, li, ti, c1, c2, e])
    · have e := e (some (.int p.n)) (some (.int p.r)) (some (.int p.l)) (some (.int p.m)) (some (.int p.o)) none [-p.n, b + p.o, p.l - b]
      simp only [ti, List.map_cons, List.map_nil] at e
      rcases hd with rfl | rfl <;> (simp only [pD, li, List.map_cons, List.map_nil] at e; simp [b_runs_for, peekV, readV, refV, res, finF, retD, args, D.arg, callO, bi, bi1, bi2, mx, mn, ab, D.item, items, dataD, tgLen, binop, cmpop, parS, slotD, lim, idxD, isTys, isTy, negD, Ev.bound, sliceD, D.seq, D.seqL, D.seqT, iterD, isOwn, wipeE_cons, wipeE_nil, mutable, mutS, mutate, pD, li, ti, c1, c2, e])
theorem m_least_first (w k : Nat) (st : Store) (rs ss : List Int) (b : Int) : CF w (k + 4) 10 [yD rs ss, .int b] st = .ok (if (partOf b rs).m = 0 then .int (partOf b rs).n else .non) st := by
  rw [CF, callF_def p_least_first rfl]
  have m1 := m_Year_runs w (k + 2) st rs ss
  have m2 := m_part_of w k st _ rs b .t
  simp only [CF, yD, pD] at m1 m2
  by_cases c : (partOf b rs).m = 0 <;> simp [b_least_first, peekV, readV, refV, res, finF, retD, args, D.arg, callO, bi, bi1, bi2, mx, mn, ab, D.item, items, dataD, tgLen, binop, cmpop, parS, slotD, lim, idxD, isTys, isTy, negD, Ev.bound, sliceD, D.seq, D.seqL, D.seqT, iterD, isOwn, wipeE_cons, wipeE_nil, mutable, mutS, mutate, yD, m1, m2, noX, eqS_int, c]
theorem m_most_first (w k : Nat) (st : Store) (rs ss : List Int) (b : Int) : CF w (k + 4) 11 [yD rs ss, .int b] st = .ok (if (partOf b rs).o = 0 then .int (partOf b rs).r else .non) st := by
  rw [CF, callF_def p_most_first rfl]
  have m1 := m_Year_runs w (k + 2) st rs ss
  have m2 := m_part_of w k st _ rs b .t
  simp only [CF, yD, pD] at m1 m2
  by_cases c : (partOf b rs).o = 0 <;> simp [b_most_first, peekV, readV, refV, res, finF, retD, args, D.arg, callO, bi, bi1, bi2, mx, mn, ab, D.item, items, dataD, tgLen, binop, cmpop, parS, slotD, lim, idxD, isTys, isTy, negD, Ev.bound, sliceD, D.seq, D.seqL, D.seqT, iterD, isOwn, wipeE_cons, wipeE_nil, mutable, mutS, mutate, yD, m1, m2, noX, eqS_int, c]
def restP (b : Int) (p : P5) : Int × Int := if p.n < p.r ∧ p.l = p.n then (p.n, p.r) else
  let v := if p.l > p.n then p.l + p.r - p.n else p.l
  (v, v)
theorem m_rests (w k : Nat) (st : Store) (rs ss : List Int) (b : Int) : CF w (k + 4) 19 [yD rs ss, .int b] st = .ok (ti [(restP b (partOf b rs)).1, (restP b (partOf b rs)).2]) st := by
  rw [CF, callF_def p_rests rfl]
  have m1 := m_Year_runs w (k + 2) st rs ss
  have m2 := m_part_of w k st _ rs b .t
  simp only [CF, yD, pD] at m1 m2
  unfold restP
  by_cases c : (partOf b rs).n < (partOf b rs).r <;> by_cases c2 : (partOf b rs).l = (partOf b rs).n <;> by_cases c3 : (partOf b rs).n < (partOf b rs).l <;> simp [b_rests, peekV, readV, refV, res, finF, retD, args, D.arg, callO, bi, bi1, bi2, mx, mn, ab, D.item, items, dataD, tgLen, binop, cmpop, parS, slotD, lim, idxD, isTys, isTy, negD, Ev.bound, sliceD, D.seq, D.seqL, D.seqT, iterD, isOwn, wipeE_cons, wipeE_nil, mutable, mutS, mutate, yD, m1, m2, noX, eqS_int, c, c2, c3]
theorem m_is_level (w k : Nat) (st : Store) (b x : Int) : CF w (k + 3) 20 [.int b, .int x] st = .ok (.bl (decide (0 ≤ x) && decide (x ≤ b))) st := by
  rw [CF, callF_def p_is_level rfl]
  by_cases c : 0 ≤ x <;> simp [b_is_level, peekV, readV, refV, res, finF, retD, args, D.arg, callO, bi, bi1, bi2, mx, mn, ab, D.item, items, dataD, tgLen, binop, cmpop, parS, slotD, lim, idxD, isTys, isTy, negD, Ev.bound, sliceD, D.seq, D.seqL, D.seqT, iterD, isOwn, wipeE_cons, wipeE_nil, mutable, mutS, mutate, m_is_count, c]
theorem m_is_level_b (w k : Nat) (st : Store) (b : Int) (x : Bool) : CF w (k + 3) 20 [.int b, .bl x] st = .ok (.bl false) st := by
  rw [CF, callF_def p_is_level rfl]
  simp [b_is_level, peekV, readV, refV, res, finF, retD, args, D.arg, callO, bi, bi1, bi2, mx, mn, ab, D.item, items, dataD, tgLen, binop, cmpop, parS, slotD, lim, idxD, isTys, isTy, negD, Ev.bound, sliceD, D.seq, D.seqL, D.seqT, iterD, isOwn, wipeE_cons, wipeE_nil, mutable, mutS, mutate, m_is_count_b]
end Mr

end
section
set_option Elab.async false
set_option linter.all false
set_option maxRecDepth 100000
set_option maxHeartbeats 1000000
/-! M1c: far runs. -/
namespace Mr
open Ev Mh
theorem cut_ti (rs : List Int) (k : Nat) : cut (rs.map D.int) none (some (k : Int)) = (rs.take k).map D.int := by rw [cut_to, List.map_take]
theorem m_far_part {w k N : Nat} {st : Store} {rs ss : List Int} {b n : Int} (hb : 0 ≤ b) (h0 : rs ≠ []) (hl : rs.length ≤ 100000) (hn : n = N) (hN : N < 2 ^ 200) (hw : 201 < w) :
    ∃ q, Does b q (rep (N / rs.length) rs ++ rs.take (N % rs.length)) ∧ CF w (k + 4) 12 [yD rs ss, .int b, .int n] st = .ok (pD q) st := by
  rw [CF, callF_def p_far_part rfl]
  have hL : 0 < rs.length := List.length_pos_iff.mpr h0
  have hL1 : ¬ (rs.length : Int) = 0 := by omega
  have hL2 : rs.length < 1073741824 := by omega
  obtain ⟨W, hW⟩ : ∃ W : Int, W = ((N / rs.length : Nat) : Int) := ⟨_, rfl⟩
  obtain ⟨R, hR⟩ : ∃ R : Int, R = ((N % rs.length : Nat) : Int) := ⟨_, rfl⟩
  have f1 : Int.fdiv n rs.length = W := by rw [Int.fdiv_eq_ediv_of_nonneg _ (by omega), hW, hn]; rfl
  have f2 : Int.fmod n rs.length = R := by rw [Int.fmod_eq_emod_of_nonneg _ (by omega), hR, hn]; rfl
  have hc : cut (rs.map D.int) none (some R) = (rs.take (N % rs.length)).map D.int := by rw [hR, cut_ti]
  generalize rs.take (N % rs.length) = TK at hc ⊢
  have m1 := m_Year_runs w (k + 2) st rs ss
  have m2 := m_part_of w k st _ TK b .t
  have m3 := m_part_of w k st _ rs b .t
  simp only [CF, yD, pD, ti] at m1 m2 m3
  by_cases c : 0 < N / rs.length
  · have c' : 0 < W := by omega
    have hN2 : N / rs.length < 2 ^ 200 := Nat.lt_of_le_of_lt (Nat.div_le_self _ _) hN
    obtain ⟨q, e, hq⟩ := tms_does hb (.partOf hb rs) hN2 c
    have m4 := m_times w k st (partOf b rs) (N / rs.length) 200 hN2 (by omega)
    rw [e, ← hW] at m4
    have m5 := m_then w (k + 1) st _ _ q (partOf b TK) (.inl rfl) (.inl rfl)
    simp only [CF, pD, fD] at m4 m5
    refine ⟨_, hq.thn hb (.partOf hb _), ?_⟩
    simp [b_far_part, peekV, readV, refV, res, finF, retD, args, D.arg, callO, bi, bi1, bi2, mx, mn, ab, D.item, items, dataD, tgLen, binop, cmpop, parS, slotD, lim, idxD, isTys, isTy, negD, Ev.bound, sliceD, D.seq, D.seqL, D.seqT, iterD, isOwn, wipeE_cons, wipeE_nil, mutable, mutS, mutate, yD, m1, m2, m3, m4, m5, noX, h0, f1, f2, hL1, hL2, hc, c', pD]
  · have c' : ¬ 0 < W := by rw [hW]; exact fun z => c (Int.natCast_pos.mp z)
    have : N / rs.length = 0 := Nat.eq_zero_of_not_pos c
    refine ⟨partOf b TK, by rw [this]; exact .partOf hb _, ?_⟩
    simp [b_far_part, peekV, readV, refV, res, finF, retD, args, D.arg, callO, bi, bi1, bi2, mx, mn, ab, D.item, items, dataD, tgLen, binop, cmpop, parS, slotD, lim, idxD, isTys, isTy, negD, Ev.bound, sliceD, D.seq, D.seqL, D.seqT, iterD, isOwn, wipeE_cons, wipeE_nil, mutable, mutS, mutate, yD, m1, m2, m3, noX, h0, f1, f2, hL1, hL2, hc, c', pD]
/-- so many runs of a year that comes again and again -/
def farR (rs : List Int) (N : Nat) : List Int := rep (N / rs.length) rs ++ rs.take (N % rs.length)
theorem m_level_on {w k N : Nat} {st : Store} {rs ss : List Int} {b n x : Int} (hb : 0 ≤ b) (h0 : rs ≠ []) (hl : rs.length ≤ 100000) (hn : n = N) (hN : N < 2 ^ 200) (hw : 201 < w) (hx : 0 ≤ x ∧ x ≤ b) :
    CF w (k + 5) 13 [yD rs ss, .int b, .int x, .int n] st = .ok (.int (lev b (farR rs N) x)) st := by
  rw [CF, callF_def p_level_on rfl]
  obtain ⟨q, hq, m1⟩ := m_far_part (k := k) (st := st) (ss := ss) hb h0 hl hn hN hw
  have m2 := m_through w (k + 2) st q x
  rw [hq.lv x hx, hq.by_ x hx, hq.sp x hx] at m2
  simp only [CF, yD, pD, trD] at m1 m2
  simp [b_level_on, peekV, readV, refV, res, finF, retD, args, D.arg, callO, bi, bi1, bi2, mx, mn, ab, D.item, items, dataD, tgLen, binop, cmpop, parS, slotD, lim, idxD, isTys, isTy, negD, Ev.bound, sliceD, D.seq, D.seqL, D.seqT, iterD, isOwn, wipeE_cons, wipeE_nil, mutable, mutS, mutate, yD, m1, m2, atI_0, farR]
theorem m_bought_by {w k N : Nat} {st : Store} {rs ss : List Int} {b n x : Int} (hb : 0 ≤ b) (h0 : rs ≠ []) (hl : rs.length ≤ 100000) (hn : n = N) (hN : N < 2 ^ 200) (hw : 201 < w) (hx : 0 ≤ x ∧ x ≤ b) :
    CF w (k + 5) 14 [yD rs ss, .int b, .int x, .int n] st = .ok (.int (buy b (farR rs N) x)) st := by
  rw [CF, callF_def p_bought_by rfl]
  obtain ⟨q, hq, m1⟩ := m_far_part (k := k) (st := st) (ss := ss) hb h0 hl hn hN hw
  have m2 := m_through w (k + 2) st q x
  rw [hq.lv x hx, hq.by_ x hx, hq.sp x hx] at m2
  simp only [CF, yD, pD, trD] at m1 m2
  simp [b_bought_by, peekV, readV, refV, res, finF, retD, args, D.arg, callO, bi, bi1, bi2, mx, mn, ab, D.item, items, dataD, tgLen, binop, cmpop, parS, slotD, lim, idxD, isTys, isTy, negD, Ev.bound, sliceD, D.seq, D.seqL, D.seqT, iterD, isOwn, wipeE_cons, wipeE_nil, mutable, mutS, mutate, yD, m1, m2, atI_1, farR]
theorem m_spilled_by {w k N : Nat} {st : Store} {rs ss : List Int} {b n x : Int} (hb : 0 ≤ b) (h0 : rs ≠ []) (hl : rs.length ≤ 100000) (hn : n = N) (hN : N < 2 ^ 200) (hw : 201 < w) (hx : 0 ≤ x ∧ x ≤ b) :
    CF w (k + 5) 15 [yD rs ss, .int b, .int x, .int n] st = .ok (.int (spl b (farR rs N) x)) st := by
  rw [CF, callF_def p_spilled_by rfl]
  obtain ⟨q, hq, m1⟩ := m_far_part (k := k) (st := st) (ss := ss) hb h0 hl hn hN hw
  have m2 := m_through w (k + 2) st q x
  rw [hq.lv x hx, hq.by_ x hx, hq.sp x hx] at m2
  simp only [CF, yD, pD, trD] at m1 m2
  simp [b_spilled_by, peekV, readV, refV, res, finF, retD, args, D.arg, callO, bi, bi1, bi2, mx, mn, ab, D.item, items, dataD, tgLen, binop, cmpop, parS, slotD, lim, idxD, isTys, isTy, negD, Ev.bound, sliceD, D.seq, D.seqL, D.seqT, iterD, isOwn, wipeE_cons, wipeE_nil, mutable, mutS, mutate, yD, m1, m2, atI_2, farR]
end Mr

end
section
set_option linter.all false
set_option maxHeartbeats 1000000
/-! Mth3: the ring of a row, its swings, what is bought in the long run. -/
namespace Mh
def turnB (rs : List Int) (k : Nat) : Bool := posB (rs.getD k 0) != posB (if k = 0 then rs.getLast?.getD 0 else rs.getD (k - 1) 0)
def turns (rs : List Int) : List Nat := (List.range rs.length).filter (turnB rs)
def ringOf (rs : List Int) : List Int := match turns rs with
  | [] => [rs.sum]
  | t :: _ => (rotL rs t).foldl mrg []
def sortI (xs : List Int) : List Int := xs.mergeSort (fun a b => decide (a ≤ b))
/-- SWINGS, the greatest first -/
def swO (rs : List Int) : List Int := (sortI (swF (ringOf rs))).reverse
theorem sortI_perm (xs : List Int) : (sortI xs).Perm xs := List.mergeSort_perm _ _
theorem swO_perm (rs : List Int) : (swO rs).Perm (swF (ringOf rs)) := (List.reverse_perm _).trans (sortI_perm _)
theorem eqv_cons {b r : Int} (hb : 0 ≤ b) {rs ss : List Int} (h : Eqv b rs ss) : Eqv b (r :: rs) (r :: ss) := Eqv.app hb (Eqv.refl (rs := [r])) h
/-- one sign only -/
theorem eqv_same {b : Int} (hb : 0 ≤ b) : ∀ (rs : List Int) (x : Int), x ≠ 0 → (∀ r ∈ rs, r ≠ 0 ∧ posB r = posB x) → Eqv b (x :: rs) [(x :: rs).sum]
  | [], x, _, _ => by simp; exact .refl
  | r :: rs, x, hx, h => by
    obtain ⟨h1, h2⟩ := h r List.mem_cons_self
    have e1 := Eqv.app hb (eqv_two hb hx h1 h2) (Eqv.refl (b := b) (rs := rs))
    have hxr : x + r ≠ 0 ∧ posB (x + r) = posB x := by
      have h2 : (0 < r ↔ 0 < x) := by simpa [posB, decide_eq_decide] using h2
      refine ⟨by omega, ?_⟩
      simp only [posB, decide_eq_decide]; omega
    have e2 := eqv_same hb rs (x + r) hxr.1 (fun y hy => ⟨(h y (List.mem_cons_of_mem _ hy)).1, by rw [hxr.2]; exact (h y (List.mem_cons_of_mem _ hy)).2⟩)
    have e3 : ((x + r) :: rs).sum = (x :: r :: rs).sum := by simp only [List.sum_cons]; omega
    rw [e3] at e2
    exact Eqv.trans e1 e2
theorem opp_of {x y : Int} (hx : x ≠ 0) (hy : y ≠ 0) (h : posB x ≠ posB y) : opp x y := by
  have h : ¬ (0 < x ↔ 0 < y) := by simpa [posB, decide_eq_decide] using h
  unfold opp; omega
theorem sg_of {x y : Int} (hx : x ≠ 0) (hy : y ≠ 0) (h : posB x = posB y) : sg x y := by
  have h : (0 < x ↔ 0 < y) := by simpa [posB, decide_eq_decide] using h
  unfold sg; omega
/-- what is put together so far -/
structure Mg (p f : List Int) : Prop where
  eqv : ∀ b : Int, 0 ≤ b → Eqv b p f
  alt : AltL f
  nz : ∀ x ∈ f, x ≠ 0
  hd : ∃ x r y s, f = x :: r ∧ p = y :: s ∧ posB x = posB y
  ls : ∃ u z v y, f = u ++ [z] ∧ p = v ++ [y] ∧ posB z = posB y
  sum : f.sum = p.sum
theorem mrg_snoc (u : List Int) (z r : Int) : mrg (u ++ [z]) r = if posB r = posB z then u ++ [z + r] else (u ++ [z]) ++ [r] := by
  simp [mrg]
theorem Mg.step {p f : List Int} (h : Mg p f) {r : Int} (hr : r ≠ 0) : Mg (p ++ [r]) (mrg f r) := by
  obtain ⟨u, z, v, y, hf, hp, hz⟩ := h.ls
  obtain ⟨x0, r0, y0, s0, hf0, hp0, hx0⟩ := h.hd
  have hz0 : z ≠ 0 := h.nz z (by rw [hf]; simp)
  rw [hf, mrg_snoc]
  by_cases c : posB r = posB z
  · rw [if_pos c]
    have hs : sg z (z + r) := by
      have c : (0 < r ↔ 0 < z) := by simpa [posB, decide_eq_decide] using c
      unfold sg; omega
    have hpz : posB (z + r) = posB z := by
      have c : (0 < r ↔ 0 < z) := by simpa [posB, decide_eq_decide] using c
      simp only [posB, decide_eq_decide]; omega
    refine ⟨fun b hb => ?_, altL_tl hs u (by rw [← hf]; exact h.alt), fun q hq => ?_, ?_, ⟨u, z + r, p, r, rfl, rfl, by rw [hpz, c]⟩, ?_⟩
    · have e1 : Eqv b (p ++ [r]) ((u ++ [z]) ++ [r]) := by rw [← hf]; exact Eqv.app hb (h.eqv b hb) .refl
      have e2 : Eqv b (u ++ [z, r]) (u ++ [z + r]) := Eqv.app hb .refl (eqv_two hb hz0 hr c)
      rw [List.append_assoc] at e1
      exact e1.trans e2
    · rcases List.mem_append.mp hq with hq | hq
      · exact h.nz q (by rw [hf]; simp [hq])
      · rw [List.mem_singleton.mp hq]; unfold sg at hs; omega
    · cases u with
      | nil =>
        rw [hf] at hf0
        simp only [List.nil_append, List.cons.injEq] at hf0
        obtain ⟨e1, e2⟩ := hf0
        exact ⟨z + r, [], y0, s0 ++ [r], rfl, by rw [hp0]; rfl, by rw [hpz, ← hx0, e1]⟩
      | cons a t =>
        rw [hf] at hf0
        simp only [List.cons_append, List.cons.injEq] at hf0
        exact ⟨a, t ++ [z + r], y0, s0 ++ [r], rfl, by rw [hp0]; rfl, by rw [hf0.1, hx0]⟩
    · rw [List.sum_append, List.sum_append, ← h.sum, hf, List.sum_append]
      simp only [List.sum_cons, List.sum_nil]; omega
  · rw [if_neg c]
    rw [← hf]
    refine ⟨fun b hb => Eqv.app hb (h.eqv b hb) .refl, ?_, fun q hq => ?_, ⟨x0, r0 ++ [r], y0, s0 ++ [r], by rw [hf0]; rfl, by rw [hp0]; rfl, hx0⟩, ⟨f, r, p, r, rfl, rfl, rfl⟩, ?_⟩
    · rw [hf, List.append_assoc]
      show AltL (u ++ z :: [r])
      rw [altL_app]
      exact ⟨by rw [← hf]; exact h.alt, opp_of hz0 hr (fun z => c z.symm), trivial⟩
    · rcases List.mem_append.mp hq with hq | hq
      · exact h.nz q hq
      · rw [List.mem_singleton.mp hq]; exact hr
    · rw [List.sum_append, List.sum_append, h.sum]
theorem Mg.fold : ∀ (q p f : List Int), Mg p f → (∀ x ∈ q, x ≠ 0) → Mg (p ++ q) (q.foldl mrg f)
  | [], p, f, h, _ => by simpa using h
  | r :: q, p, f, h, hn => by
    have := Mg.fold q (p ++ [r]) (mrg f r) (h.step (hn r List.mem_cons_self)) (fun x hx => hn x (List.mem_cons_of_mem _ hx))
    simpa using this
theorem Mg.start {r : Int} (hr : r ≠ 0) : Mg [r] (mrg [] r) :=
  ⟨fun _ _ => .refl, trivial, fun x hx => by simp [mrg] at hx; subst hx; exact hr, ⟨r, [], r, [], rfl, rfl, rfl⟩, ⟨[], r, [], r, rfl, rfl, rfl⟩, rfl⟩
theorem turns_nil {rs : List Int} (h : turns rs = []) : ∀ k, k < rs.length → turnB rs k = false := fun k hk => by
  have := List.filter_eq_nil_iff.mp h k (List.mem_range.mpr hk)
  simpa using this
/-- no turn: one sign -/
theorem same_of {rs : List Int} {x : Int} {r : List Int} (e : rs = x :: r) (h : turns rs = []) : ∀ k, k < rs.length → posB (rs.getD k 0) = posB x
  | 0, hk => by rw [e]; rfl
  | k + 1, hk => by
    have h1 := same_of e h k (by omega)
    have h2 := turns_nil h (k + 1) hk
    simp only [turnB, bne_eq_false_iff_eq] at h2
    rw [h2, if_neg (by omega), Nat.add_sub_cancel, h1]
theorem ringOf_spec {rs : List Int} (h0 : rs ≠ []) (hn : ∀ r ∈ rs, r ≠ 0) : (ringOf rs).sum = rs.sum ∧ (∀ x ∈ ringOf rs, x ≠ 0) ∧
    (∀ b v : Int, 0 ≤ b → LR b (ringOf rs) v → LR b rs v) ∧ ((∃ s, ringOf rs = [s]) ∨ Rg (ringOf rs)) := by
  unfold ringOf
  cases ht : turns rs with
  | nil =>
    dsimp only
    cases hrs : rs with
    | nil => exact absurd hrs h0
    | cons x r =>
      have hx : x ≠ 0 := hn x (by rw [hrs]; simp)
      have hs : ∀ y ∈ r, y ≠ 0 ∧ posB y = posB x := fun y hy => by
        obtain ⟨k, hk, e⟩ := List.getElem_of_mem hy
        have := same_of hrs ht (k + 1) (by rw [hrs]; simp; omega)
        rw [hrs] at this
        have e2 : (x :: r).getD (k + 1) 0 = y := by simp [List.getD, hk, e]
        rw [e2] at this
        exact ⟨hn y (by rw [hrs]; simp [hy]), this⟩
      have hz : (x :: r).sum ≠ 0 := by
        have : ∀ (r : List Int) (x : Int), x ≠ 0 → (∀ y ∈ r, y ≠ 0 ∧ posB y = posB x) → (x :: r).sum ≠ 0 := by
          intro r
          induction r with
          | nil => intro x hx _; simpa using hx
          | cons y r ih =>
            intro x hx h
            obtain ⟨h1, h2⟩ := h y List.mem_cons_self
            have h3 : (0 < y ↔ 0 < x) := by simpa [posB, decide_eq_decide] using h2
            have hp : posB (x + y) = posB x := by simp only [posB, decide_eq_decide]; omega
            have := ih (x + y) (by omega) (fun z hz => ⟨(h z (List.mem_cons_of_mem _ hz)).1, by rw [hp]; exact (h z (List.mem_cons_of_mem _ hz)).2⟩)
            simp only [List.sum_cons] at this ⊢
            omega
        exact this r x hx hs
      refine ⟨by simp, fun y hy => ?_, fun b v hb h => h.eqv (eqv_same hb r x hx hs), .inl ⟨_, rfl⟩⟩
      rw [List.mem_singleton.mp hy]; exact hz
  | cons t ts =>
    dsimp only
    have hmem : t ∈ turns rs := by rw [ht]; simp
    obtain ⟨hlt, htb⟩ := List.mem_filter.mp hmem
    have hlt := List.mem_range.mp hlt
    have hl : (rotL rs t).length = rs.length := by simp only [rotL, List.length_append, List.length_drop, List.length_take]; omega
    have hm : ∀ y ∈ rotL rs t, y ≠ 0 := fun y hy => by
      unfold rotL at hy
      rcases List.mem_append.mp hy with hy | hy
      · exact hn y (List.mem_of_mem_drop hy)
      · exact hn y (List.mem_of_mem_take hy)
    have hfst : (rotL rs t)[0]? = some (rs.getD t 0) := by
      unfold rotL
      rw [List.getElem?_append_left (by simp only [List.length_drop]; omega), List.getElem?_drop, Nat.add_zero, List.getD_eq_getElem?_getD, List.getElem?_eq_getElem hlt]
      rfl
    have hlast : (rotL rs t).getLast? = some (if t = 0 then rs.getLast?.getD 0 else rs.getD (t - 1) 0) := by
      unfold rotL
      by_cases c : t = 0
      · subst c
        simp only [List.drop_zero, List.take_zero, List.append_nil, if_true]
        rw [List.getLast?_eq_some_getLast h0]; rfl
      · rw [if_neg c]
        have : (rs.take t).getLast? = some (rs.getD (t - 1) 0) := by
          rw [List.getLast?_eq_getElem?, List.length_take, List.getElem?_take, Nat.min_eq_left (by omega), if_pos (by omega), List.getD_eq_getElem?_getD, List.getElem?_eq_getElem (by omega)]
          rfl
        rw [List.getLast?_append, this]
        rfl
    cases hw : rotL rs t with
    | nil => rw [hw] at hl; simp at hl; omega
    | cons r q =>
      rw [hw] at hfst hlast hm
      have M := Mg.fold q [r] (mrg [] r) (Mg.start (hm r List.mem_cons_self)) (fun x hx => hm x (List.mem_cons_of_mem _ hx))
      have M : Mg (r :: q) ((r :: q).foldl mrg []) := M
      generalize hF : (r :: q).foldl mrg [] = f at M
      have hsum : f.sum = rs.sum := by rw [M.sum, ← hw, rot_sum]
      refine ⟨hsum, M.nz, fun b v hb h => ?_, .inr ?_⟩
      · have h1 := h.eqv (M.eqv b hb)
        rw [← hw] at h1
        have h2 := LR.rot hb (rs := rs.take t) (ss := rs.drop t) h1
        rwa [List.take_append_drop] at h2
      · obtain ⟨x, r1, y, s, e1, e2, e3⟩ := M.hd
        obtain ⟨u, z, v, y2, e4, e5, e6⟩ := M.ls
        have hy : y = rs.getD t 0 := by
          have h : r = y := (List.cons.inj e2).1
          have h3 : r = rs.getD t 0 := by simpa using hfst
          rw [← h, h3]
        have hy2 : y2 = (if t = 0 then rs.getLast?.getD 0 else rs.getD (t - 1) 0) := by
          rw [e5] at hlast
          simpa using hlast
        have hne : posB z ≠ posB x := by
          rw [e3, e6, hy, hy2]
          simp only [turnB] at htb
          intro q
          rw [q] at htb
          simp at htb
        have hzx : opp z x := opp_of (M.nz z (by rw [e4]; simp)) (M.nz x (by rw [e1]; simp)) hne
        refine ⟨?_, fun x' r' e => ?_⟩
        · cases r1 with
          | nil =>
            exfalso
            rw [e1] at e4
            cases u with
            | nil => simp at e4; rw [e4] at hne; exact hne rfl
            | cons a t => simp at e4
          | cons a t => rw [e1]; simp
        · rw [e1] at e
          have : x = x' := (List.cons.inj e).1
          subst this
          rw [e4, List.append_assoc]
          show AltL (u ++ z :: [x])
          rw [altL_app]
          exact ⟨by rw [← e4]; exact M.alt, hzx, trivial⟩
theorem swF_one (s : Int) : swF [s] = [] := by simp [swF, swL]
/-- what is bought in the long run -/
theorem long_run {rs : List Int} {b : Int} (hb : 0 ≤ b) (h0 : rs ≠ []) (hn : ∀ r ∈ rs, r ≠ 0) : LR b rs (max 0 (-rs.sum) + exc b (swO rs)) := by
  obtain ⟨h1, h2, h3, h4⟩ := ringOf_spec h0 hn
  refine h3 b _ hb ?_
  rw [exc_perm (swO_perm rs), ← h1]
  rcases h4 with ⟨s, h4⟩ | h4
  · rw [h4, swF_one, exc_nil]
    have := lr_one (b := b) (r := s) hb
    simpa using this
  · exact (swF_lr hb h4).1
theorem swO_pos {rs : List Int} (h0 : rs ≠ []) (hn : ∀ r ∈ rs, r ≠ 0) : ∀ s ∈ swO rs, 1 ≤ s := fun s hs => by
  obtain ⟨h1, h2, h3, h4⟩ := ringOf_spec h0 hn
  have hs := (swO_perm rs).mem_iff.mp hs
  rcases h4 with ⟨s', h4⟩ | h4
  · rw [h4, swF_one] at hs; cases hs
  · exact (swF_lr (b := 0) (by omega) h4).2 s hs
/-- begun empty, a year rises to a level that stays -/
def seek (b : Int) (rs : List Int) : Nat → Int → Option (Int × Int)
  | 0, _ => none
  | n + 1, x => if lev b rs x = x then some (buy b rs x, spl b rs x) else seek b rs n (lev b rs x)
theorem seek_ok {b : Int} (hb : 0 ≤ b) (rs : List Int) : ∀ (n : Nat) (x : Int), 0 ≤ x → x ≤ b → x ≤ lev b rs x → b + 1 - x ≤ n → ∃ y, 0 ≤ y ∧ y ≤ b ∧ lev b rs y = y ∧ seek b rs n x = some (buy b rs y, spl b rs y)
  | 0, x, _, _, _, h => by omega
  | n + 1, x, h0, h1, h2, h => by
    by_cases c : lev b rs x = x
    · exact ⟨x, h0, h1, c, by simp [seek, c]⟩
    · have hi := lev_in hb rs x ⟨h0, h1⟩
      obtain ⟨y, y1, y2, y3, y4⟩ := seek_ok hb rs n (lev b rs x) hi.1 hi.2 (lev_mono rs _ _ h2) (by omega)
      exact ⟨y, y1, y2, y3, by simp [seek, c, y4]⟩
theorem seek_long {b : Int} (hb : 0 ≤ b) {rs : List Int} (h0 : rs ≠ []) (hn : ∀ r ∈ rs, r ≠ 0) {n : Nat} (hN : b + 1 ≤ n) : seek b rs n 0 = some (max 0 (-rs.sum) + exc b (swO rs), max 0 rs.sum + exc b (swO rs)) := by
  obtain ⟨y, y1, y2, y3, y4⟩ := seek_ok hb rs n 0 (by omega) hb (lev_in hb rs 0 ⟨by omega, hb⟩).1 (by omega)
  have h1 := long_run hb h0 hn y y1 y2 y3
  have h2 := flow hb rs y
  rw [y4, h1]
  congr 2
  omega
end Mh

end
section
set_option Elab.async false
set_option linter.all false
set_option maxRecDepth 100000
set_option maxHeartbeats 1000000
/-! M2: rings, Years, heaps. -/
namespace Mr
open Ev Mh
theorem eqS_int' (i j : Int) : eqD (.int i) (.int j) = some (decide (i = j)) := rfl
theorem eqS_bl' (i j : Bool) : eqD (.bl i) (.bl j) = some (decide (i = j)) := rfl
theorem getD_map (rs : List Int) (k : Nat) (h : k < rs.length) : (rs.map D.int)[k]? = some (.int (rs.getD k 0)) := by
  simp [h, List.getD]
theorem m_is_turn (w m k : Nat) (st : Store) (rs : List Int) (d : D) (hd : SeqI d rs) (h : k < rs.length) : CF w (m + 1) 28 [d, .int (k : Int)] st = .ok (.bl (turnB rs k)) st := by
  rw [CF, callF_def p_is_turn rfl]
  have h1 : L2.atI (rs.map D.int) (k : Int) = some (.int (rs.getD k 0)) := by rw [atI_nat, getD_map rs k h]
  have h2 : L2.atI (rs.map D.int) ((k : Int) - 1) = some (.int (if k = 0 then rs.getLast?.getD 0 else rs.getD (k - 1) 0)) := by
    by_cases c : k = 0
    · subst c
      have : rs ≠ [] := fun z => by rw [z] at h; simp at h
      rw [if_pos rfl, show ((0 : Nat) : Int) - 1 = -1 by omega, atI_m1, List.getLast?_map, List.getLast?_eq_some_getLast this]; rfl
    · rw [if_neg c, show (k : Int) - 1 = ((k - 1 : Nat) : Int) by omega, atI_nat, getD_map rs (k - 1) (by omega)]
  generalize hx : rs.getD k 0 = x at h1
  generalize hy : (if k = 0 then rs.getLast?.getD 0 else rs.getD (k - 1) 0) = y at h2
  have e : turnB rs k = !decide (decide (0 < x) = decide (0 < y)) := by
    simp only [turnB, hx, hy, posB, bne]
    cases decide (0 < x) <;> cases decide (0 < y) <;> rfl
  rw [e]
  rcases hd with rfl | rfl <;> simp [b_is_turn, peekV, readV, refV, res, finF, retD, args, D.arg, callO, bi, bi1, bi2, mx, mn, ab, D.item, items, dataD, tgLen, binop, cmpop, parS, slotD, lim, idxD, isTys, isTy, negD, Ev.bound, sliceD, D.seq, D.seqL, D.seqT, iterD, isOwn, wipeE_cons, wipeE_nil, mutable, mutS, mutate, eqS_bl', h1, h2]
theorem fm_filter {α : Type} (f : α → Bool) (e : α → D) : ∀ xs : List α, xs.filterMap (fun a => if f a then some (e a) else none) = (xs.filter f).map e
  | [] => rfl
  | a :: r => by cases h : f a <;> simp [List.filterMap_cons, h, fm_filter f e r]
theorem m_turns {w m : Nat} {st : Store} {rs : List Int} {d : D} (hd : SeqI d rs) (hl : rs.length ≤ 100000) : evalE T0 (callF T0 PT w (m + 1)) (.comp [5] (.nm 5) (.rng (.cons (.bi .len (.cons (.pk 0) .nil)) .nil)) (.call 28 (.cons (.var 0) (.cons (.var 5) .nil))) (.var 5)) [some d, none, none, none, none, none] st =
    .ok (.own ((turns rs).map fun (k : Nat) => D.int (k : Int))) [some d, none, none, none, none, none] st := by
  rw [comp_pure (d := .tup (rng 0 rs.length 1)) (List.range rs.length) (fun (k : Nat) => D.int (k : Int)) (fun (k : Nat) => if turnB rs k then some (D.int (k : Int)) else none)]
  · rw [fm_filter]; rfl
  · have h1 : rngOk (rs.length : Int) = true := rngOk_nat (by omega)
    have h2 : (rs.length : Int) ≤ 16777216 := by omega
    rcases hd with rfl | rfl <;> simp [peekV, readV, refV, res, finF, retD, args, D.arg, callO, bi, bi1, bi2, mx, mn, ab, D.item, items, dataD, tgLen, binop, cmpop, parS, slotD, lim, idxD, isTys, isTy, negD, Ev.bound, sliceD, D.seq, D.seqL, D.seqT, iterD, isOwn, wipeE_cons, wipeE_nil, mutable, mutS, mutate, rngL, h1, h2]
  · simp [peekV, readV, refV, res, finF, retD, args, D.arg, callO, bi, bi1, bi2, mx, mn, ab, D.item, items, dataD, tgLen, binop, cmpop, parS, slotD, lim, idxD, isTys, isTy, negD, Ev.bound, sliceD, D.seq, D.seqL, D.seqT, iterD, isOwn, wipeE_cons, wipeE_nil, mutable, mutS, mutate, rng_map]
  · simp [peekV, readV, refV, res, finF, retD, args, D.arg, callO, bi, bi1, bi2, mx, mn, ab, D.item, items, dataD, tgLen, binop, cmpop, parS, slotD, lim, idxD, isTys, isTy, negD, Ev.bound, sliceD, D.seq, D.seqL, D.seqT, iterD, isOwn, wipeE_cons, wipeE_nil, mutable, mutS, mutate]
  · intro k hk acc
    have m1 := m_is_turn w m k st rs d hd (List.mem_range.mp hk)
    simp only [CF] at m1
    rcases hd with rfl | rfl <;> (cases h : turnB rs k <;> simp [cmpT, peekV, readV, refV, res, finF, retD, args, D.arg, callO, bi, bi1, bi2, mx, mn, ab, D.item, items, dataD, tgLen, binop, cmpop, parS, slotD, lim, idxD, isTys, isTy, negD, Ev.bound, sliceD, D.seq, D.seqL, D.seqT, iterD, isOwn, wipeE_cons, wipeE_nil, mutable, mutS, mutate, m1, h])
/-- ring_of's body, the turns asked by c -/
def rgS (c : E) : S := (.seq (.par [1] (.cons c .nil)) (.seq (.ite (.cmp .eq (.bi .len (.cons (.pk 1) .nil)) (.lit (.int (0)))) (.seq (.ret (.tup (.cons (.bi .sum (.cons (.pk 0) .nil)) .nil))) .skip) .skip) (.seq (.par [2] (.cons (.lst (.star (.slice (.pk 0) (.idx (.pk 1) (.lit (.int (0)))) .no) (.star (.slice (.pk 0) .no (.idx (.pk 1) (.lit (.int (0))))) .nil))) .nil)) (.seq (.par [3] (.cons (.lst .nil) .nil)) (.seq (.for (.nm 4) (.var 2) (.seq (.ite (.and (.cmp .gt (.bi .len (.cons (.pk 3) .nil)) (.lit (.int (0)))) (.cmp .eq (.cmp .gt (.pk 4) (.lit (.int (0)))) (.cmp .gt (.idx (.pk 3) (.neg (.lit (.int (1))))) (.lit (.int (0)))))) (.seq (.par [3] (.cons (.lst (.star (.slice (.pk 3) .no (.neg (.lit (.int (1))))) (.cons (.bin .add (.idx (.pk 3) (.neg (.lit (.int (1))))) (.pk 4)) .nil))) .nil)) .skip) (.seq (.par [3] (.cons (.lst (.star (.pk 3) (.cons (.var 4) .nil))) .nil)) .skip)) .skip)) (.seq (.ret (.bi .toTup (.cons (.pk 3) .nil))) .skip))))))
theorem rg_loop (F : Fn) (w : Nat) (st : Store) (d : D) (ts : List D) (RT : List Int) (hlen : RT.length ≤ 100000) : ∃ y', forL (forT T0 F w (.nm 4) (.seq (.ite (.and (.cmp .gt (.bi .len (.cons (.pk 3) .nil)) (.lit (.int (0)))) (.cmp .eq (.cmp .gt (.pk 4) (.lit (.int (0)))) (.cmp .gt (.idx (.pk 3) (.neg (.lit (.int (1))))) (.lit (.int (0)))))) (.seq (.par [3] (.cons (.lst (.star (.slice (.pk 3) .no (.neg (.lit (.int (1))))) (.cons (.bin .add (.idx (.pk 3) (.neg (.lit (.int (1))))) (.pk 4)) .nil))) .nil)) .skip) (.seq (.par [3] (.cons (.lst (.star (.pk 3) (.cons (.var 4) .nil))) .nil)) .skip)) .skip)) (RT.map .int) [some d, some (.own ts), some (.lst (RT.map .int)), some (.own []), none, none] st =
    .ok .nx [some d, some (.own ts), some (.lst (RT.map .int)), some (.own ((RT.foldl mrg []).map .int)), y', none] st := by
  obtain ⟨y', e⟩ := forL_P (turn := forT T0 F w (.nm 4) (.seq (.ite (.and (.cmp .gt (.bi .len (.cons (.pk 3) .nil)) (.lit (.int (0)))) (.cmp .eq (.cmp .gt (.pk 4) (.lit (.int (0)))) (.cmp .gt (.idx (.pk 3) (.neg (.lit (.int (1))))) (.lit (.int (0)))))) (.seq (.par [3] (.cons (.lst (.star (.slice (.pk 3) .no (.neg (.lit (.int (1))))) (.cons (.bin .add (.idx (.pk 3) (.neg (.lit (.int (1))))) (.pk 4)) .nil))) .nil)) .skip) (.seq (.par [3] (.cons (.lst (.star (.pk 3) (.cons (.var 4) .nil))) .nil)) .skip)) .skip)) D.int
      (fun p (y : Option D) => [some d, some (.own ts), some (.lst (RT.map .int)), some (.own ((p.foldl mrg []).map .int)), y, none]) st RT none (fun p a q y hp => by
        refine ⟨some (.int a), ?_⟩
        have hlf : ∀ p : List Int, (p.foldl mrg []).length ≤ p.length := by
          intro p
          have : ∀ (p f : List Int), (p.foldl mrg f).length ≤ f.length + p.length := by
            intro p
            induction p with
            | nil => intro f; simp
            | cons x p ih =>
              intro f
              have h1 : (mrg f x).length ≤ f.length + 1 := by
                unfold mrg
                split
                · split
                  · simp only [List.length_append, List.length_dropLast, List.length_cons, List.length_nil]; omega
                  · simp
                · simp
              have := ih (mrg f x)
              simp only [List.foldl_cons, List.length_cons]; omega
          have := this p []
          simpa using this
        have hlp : (p.foldl mrg []).length + 1 ≤ 16777216 := by
          have := hlf p
          rw [hp] at hlen; simp at hlen; omega
        rw [List.foldl_append]
        show _ = Out.ok Flow.nx [_, _, _, some (.own ((mrg (p.foldl mrg []) a).map .int)), _, _] _
        generalize p.foldl mrg [] = f at *
        rcases List.eq_nil_or_concat f with rfl | ⟨u, z, rfl⟩
        · simp [forT, peekV, readV, refV, res, finF, retD, args, D.arg, callO, bi, bi1, bi2, mx, mn, ab, D.item, items, dataD, tgLen, binop, cmpop, parS, slotD, lim, idxD, isTys, isTy, negD, Ev.bound, sliceD, D.seq, D.seqL, D.seqT, iterD, isOwn, wipeE_cons, wipeE_nil, mutable, mutS, mutate, mrg]
        · have hlu : u.length + 1 ≤ 16777216 := by simp at hlp; omega
          have hlu2 : u.length + 1 + 1 ≤ 16777216 := by simp at hlp; omega
          have hcm : cut (u.map D.int ++ [D.int z]) none (some (-1)) = u.map D.int := by rw [cut_m1]; simp
          have hpos : (0 : Int) < (u.length : Int) + 1 := by omega
          simp only [List.concat_eq_append]
          rw [mrg_snoc]
          by_cases c : posB a = posB z
          · have c' : (0 < a ↔ 0 < z) := by simpa [posB, decide_eq_decide] using c
            rw [if_pos c]
            simp [forT, peekV, readV, refV, res, finF, retD, args, D.arg, callO, bi, bi1, bi2, mx, mn, ab, D.item, items, dataD, tgLen, binop, cmpop, parS, slotD, lim, idxD, isTys, isTy, negD, Ev.bound, sliceD, D.seq, D.seqL, D.seqT, iterD, isOwn, wipeE_cons, wipeE_nil, mutable, mutS, mutate, eqS_bl', atI_m1, hpos, c', hcm, hlu]
          · have c' : ¬ (0 < a ↔ 0 < z) := by simpa [posB, decide_eq_decide] using c
            rw [if_neg c]
            simp [forT, peekV, readV, refV, res, finF, retD, args, D.arg, callO, bi, bi1, bi2, mx, mn, ab, D.item, items, dataD, tgLen, binop, cmpop, parS, slotD, lim, idxD, isTys, isTy, negD, Ev.bound, sliceD, D.seq, D.seqL, D.seqT, iterD, isOwn, wipeE_cons, wipeE_nil, mutable, mutS, mutate, eqS_bl', atI_m1, hpos, c', hlu2])
  simp only [List.foldl_nil, List.map_nil] at e
  exact ⟨y', e⟩
theorem rg_nil (F : Fn) (w : Nat) (st : Store) (rs : List Int) (d : D) (hd : SeqI d rs) (c : E) (e1 : evalE T0 F c [some d, none, none, none, none, none] st = .ok (.own []) [some d, none, none, none, none, none] st) : finF st (evalS T0 F w (rgS c) [some d, none, none, none, none, none] st) = .ok (ti [rs.sum]) st := by
  rcases hd with rfl | rfl <;> simp [rgS, peekV, readV, refV, res, finF, retD, args, D.arg, callO, bi, bi1, bi2, mx, mn, ab, D.item, items, dataD, tgLen, binop, cmpop, parS, slotD, lim, idxD, isTys, isTy, negD, Ev.bound, sliceD, D.seq, D.seqL, D.seqT, iterD, isOwn, wipeE_cons, wipeE_nil, mutable, mutS, mutate, e1, eqS_int']
theorem rg_cons (F : Fn) (w : Nat) (st : Store) (rs : List Int) (d : D) (hd : SeqI d rs) (c : E) (t : Nat) (ts : List D) (e1 : evalE T0 F c [some d, none, none, none, none, none] st = .ok (.own (.int (t : Int) :: ts)) [some d, none, none, none, none, none] st)
    (hl : rs.length ≤ 100000) (hlt : t < rs.length) : finF st (evalS T0 F w (rgS c) [some d, none, none, none, none, none] st) = .ok (ti ((rotL rs t).foldl mrg [])) st := by
  have hlen : (rotL rs t).length ≤ 100000 := by simp only [rotL, List.length_append, List.length_drop, List.length_take]; omega
  have hc1 : cut (rs.map D.int) (some (t : Int)) none = (rs.drop t).map D.int := by rw [cut_from, List.map_drop]
  have hc2 : cut (rs.map D.int) none (some (t : Int)) = (rs.take t).map D.int := by rw [cut_to, List.map_take]
  have hro : rotL rs t = rs.drop t ++ rs.take t := rfl
  generalize rs.drop t = DR at *
  generalize rs.take t = TK at *
  generalize rotL rs t = RT at *
  obtain ⟨y', e⟩ := rg_loop F w st d (.int (t : Int) :: ts) RT hlen
  have hle : DR.length + TK.length ≤ 16777216 := by rw [hro] at hlen; simp at hlen; omega
  rw [hro] at e ⊢
  simp only [List.map_append] at e
  have hts : ¬ (ts.length : Int) + 1 = 0 := by omega
  rcases hd with rfl | rfl <;> simp [rgS, peekV, readV, refV, res, finF, retD, args, D.arg, callO, bi, bi1, bi2, mx, mn, ab, D.item, items, dataD, tgLen, binop, cmpop, parS, slotD, lim, idxD, isTys, isTy, negD, Ev.bound, sliceD, D.seq, D.seqL, D.seqT, iterD, isOwn, wipeE_cons, wipeE_nil, mutable, mutS, mutate, e1, eqS_int', atI_0, hc1, hc2, hle, hts, e]
theorem m_ring_of (w m : Nat) (st : Store) (rs : List Int) (d : D) (hd : SeqI d rs) (hl : rs.length ≤ 100000) : CF w (m + 2) 29 [d] st = .ok (ti (ringOf rs)) st := by
  rw [CF, callF_def p_ring_of rfl]
  have e1 := m_turns (w := w) (m := m) (st := st) hd hl
  cases ht : turns rs with
  | nil =>
    rw [ht] at e1
    have er : ringOf rs = [rs.sum] := by unfold ringOf; rw [ht]
    rw [er]
    exact rg_nil _ w st rs d hd _ e1
  | cons t ts =>
    rw [ht] at e1
    have er : ringOf rs = (rotL rs t).foldl mrg [] := by unfold ringOf; rw [ht]
    rw [er]
    have hlt : t < rs.length := by
      have : t ∈ turns rs := by rw [ht]; simp
      exact List.mem_range.mp (List.mem_filter.mp this).1
    exact rg_cons _ w st rs d hd _ t _ e1 hl hlt
end Mr

end
section
set_option Elab.async false
set_option linter.all false
set_option maxRecDepth 100000
set_option maxHeartbeats 1000000
/-! M2b: swings. -/
namespace Mr
open Ev Mh
theorem idxOf_eq (x : Int) : ∀ (xs : List Int) (k : Nat), x ∈ xs → Ev.idxOf x xs k = some (k + xs.idxOf x)
  | [], k, h => (by cases h)
  | y :: r, k, h => by
    unfold Ev.idxOf
    by_cases c : y = x
    · subst c; simp
    · rw [if_neg c, idxOf_eq x r (k + 1) (by rcases List.mem_cons.mp h with h | h; exact absurd h.symm c; exact h)]
      rw [List.idxOf_cons]
      have : (y == x) = false := by simpa using c
      rw [this]; simp; omega
theorem listMin_eq {xs : List Int} (h : xs ≠ []) : Ev.listMin xs = some (minL xs) := by
  cases xs with
  | nil => exact absurd rfl h
  | cons x r => rfl
def swC : E := (.comp [6] (.nm 6) (.var 1) (.lit (.bl true)) (.bi .abs (.cons (.pk 6) .nil)))
/-- left, as a tuple or a list -/
def LS (d : D) (l : List Int) : Prop := d = ti l ∨ d = li l ∨ d = .own (l.map .int)
def unown : D → D
  | .own xs => .lst xs
  | d => d
theorem sw_sizes (F : Fn) (st : Store) (l : List Int) (d0 d : D) (x2 x3 x4 x5 : Option D) (hd : LS d l) : evalE T0 F swC [some d0, some d, x2, x3, x4, x5, none] st = .ok (.own ((szs l).map .int)) [some d0, some (unown d), x2, x3, x4, x5, none] st := by
  have e1 : evalE T0 F swC [some d0, some (unown d), x2, x3, x4, x5, none] st = .ok (.own ((szs l).map .int)) [some d0, some (unown d), x2, x3, x4, x5, none] st := by
    unfold swC
    rw [comp_map (d := unown d) l D.int (fun r => .int (r.natAbs : Int))]
    · simp [szs]
    · rcases hd with rfl | rfl | rfl <;> simp [peekV, readV, refV, res, finF, retD, args, D.arg, callO, bi, bi1, bi2, mx, mn, ab, D.item, items, dataD, tgLen, binop, cmpop, parS, slotD, lim, idxD, isTys, isTy, negD, Ev.bound, sliceD, D.seq, D.seqL, D.seqT, iterD, isOwn, wipeE_cons, wipeE_nil, mutable, mutS, mutate, unown]
    · rcases hd with rfl | rfl | rfl <;> simp [peekV, readV, refV, res, finF, retD, args, D.arg, callO, bi, bi1, bi2, mx, mn, ab, D.item, items, dataD, tgLen, binop, cmpop, parS, slotD, lim, idxD, isTys, isTy, negD, Ev.bound, sliceD, D.seq, D.seqL, D.seqT, iterD, isOwn, wipeE_cons, wipeE_nil, mutable, mutS, mutate, unown]
    · simp [peekV, readV, refV, res, finF, retD, args, D.arg, callO, bi, bi1, bi2, mx, mn, ab, D.item, items, dataD, tgLen, binop, cmpop, parS, slotD, lim, idxD, isTys, isTy, negD, Ev.bound, sliceD, D.seq, D.seqL, D.seqT, iterD, isOwn, wipeE_cons, wipeE_nil, mutable, mutS, mutate]
    · intro a _ acc
      simp [cmpT, peekV, readV, refV, res, finF, retD, args, D.arg, callO, bi, bi1, bi2, mx, mn, ab, D.item, items, dataD, tgLen, binop, cmpop, parS, slotD, lim, idxD, isTys, isTy, negD, Ev.bound, sliceD, D.seq, D.seqL, D.seqT, iterD, isOwn, wipeE_cons, wipeE_nil, mutable, mutS, mutate]
  rcases hd with rfl | rfl | rfl
  · exact e1
  · exact e1
  · have h0 : evalE T0 F swC [some d0, some (.own (l.map .int)), x2, x3, x4, x5, none] st = evalE T0 F swC [some d0, some (.lst (l.map .int)), x2, x3, x4, x5, none] st := by
      unfold swC
      rw [xe_comp, xe_comp]
      simp [peekV, readV, refV, res, finF, retD, args, D.arg, callO, bi, bi1, bi2, mx, mn, ab, D.item, items, dataD, tgLen, binop, cmpop, parS, slotD, lim, idxD, isTys, isTy, negD, Ev.bound, sliceD, D.seq, D.seqL, D.seqT, iterD, isOwn, wipeE_cons, wipeE_nil, mutable, mutS, mutate]
    rw [h0]; exact e1
def swT : E := (.cmp .gt (.bi .len (.cons (.pk 1) .nil)) (.glob (PySem.Str.ofString "PAIR") (.int (2))))
theorem sw_test (F : Fn) (st : Store) (l : List Int) (d0 d : D) (x2 x3 x4 x5 : Option D) (hd : LS d l) : whT T0 F swT [some d0, some d, x2, x3, x4, x5, none] st = .ok (decide (2 < l.length)) [some d0, some d, x2, x3, x4, x5, none] st := by
  have h : decide ((2 : Int) < (l.length : Int)) = decide (2 < l.length) := by rw [decide_eq_decide]; omega
  rcases hd with rfl | rfl | rfl <;> simp [swT, whT, peekV, readV, refV, res, finF, retD, args, D.arg, callO, bi, bi1, bi2, mx, mn, ab, D.item, items, dataD, tgLen, binop, cmpop, parS, slotD, lim, idxD, isTys, isTy, negD, Ev.bound, sliceD, D.seq, D.seqL, D.seqT, iterD, isOwn, wipeE_cons, wipeE_nil, mutable, mutS, mutate, h]
def swP : E := (.bm .index (.pk 3) (.cons (.bi .min1 (.cons (.pk 3) .nil)) .nil))
def swB : S := (.seq (.par [3] (.cons swC .nil)) (.seq (.par [4] (.cons swP .nil)) (.seq (.par [2] (.cons (.lst (.star (.pk 2) (.cons (.idx (.pk 3) (.var 4)) .nil))) .nil)) (.seq (.par [5] (.cons (.lst (.star (.slice (.pk 1) (.var 4) .no) (.star (.slice (.pk 1) .no (.var 4)) .nil))) .nil)) (.seq (.par [1] (.cons (.lst (.cons (.bin .add (.bin .add (.idx (.pk 5) (.neg (.lit (.int (1))))) (.idx (.pk 5) (.lit (.int (0))))) (.idx (.pk 5) (.lit (.int (1))))) (.star (.slice (.pk 5) (.glob (PySem.Str.ofString "PAIR") (.int (2))) (.neg (.lit (.int (1))))) .nil))) .nil)) .skip)))))
theorem sw_place (F : Fn) (st : Store) (l : List Int) (e0 e1 e2 e4 e5 e6 : Option D) (h : l ≠ []) : evalE T0 F swP [e0, e1, e2, some (.own ((szs l).map .int)), e4, e5, e6] st = .ok (.int (minAt l : Int)) [e0, e1, e2, some (.own ((szs l).map .int)), e4, e5, e6] st := by
  have h1 : szs l ≠ [] := by simpa [szs] using h
  have h2 := listMin_eq h1
  have h3 := idxOf_eq (minL (szs l)) (szs l) 0 (minL_mem h1)
  rw [Nat.zero_add] at h3
  simp only [minAt]
  generalize szs l = z at *
  simp [swP, peekV, readV, refV, res, finF, retD, args, D.arg, callO, bi, bi1, bi2, mx, mn, ab, D.item, items, dataD, tgLen, binop, cmpop, parS, slotD, lim, idxD, isTys, isTy, negD, Ev.bound, sliceD, D.seq, D.seqL, D.seqT, iterD, isOwn, wipeE_cons, wipeE_nil, mutable, mutS, mutate, h2, h3, bm]
theorem sw_turn (F : Fn) (w : Nat) (st : Store) (l f : List Int) (d0 d : D) (x3 x4 x5 : Option D) (hd : LS d l) (h2 : 2 < l.length) (hl : l.length ≤ 1000000) (hf : f.length ≤ 1000000) :
    evalS T0 F w swB [some d0, some d, some (.own (f.map .int)), x3, x4, x5, none] st = .ok .nx [some d0, some (.own ((put3 (rotL l (minAt l))).map .int)), some (.own ((f ++ [(szs l).getD (minAt l) 0]).map .int)), some (.own ((szs l).map .int)), some (.int (minAt l : Int)), some (.own ((rotL l (minAt l)).map .int)), none] st := by
  have hn : l ≠ [] := fun z => by rw [z] at h2; simp at h2
  have hp := minAt_lt hn
  have a1 := sw_sizes F st l d0 d (some (.own (f.map .int))) x3 x4 x5 hd
  have a2 := sw_place F st l (some d0) (some (unown d)) (some (.own (f.map .int))) x4 x5 none hn
  have a3 : L2.atI ((szs l).map D.int) (minAt l : Int) = some (.int ((szs l).getD (minAt l) 0)) := by
    rw [atI_nat, getD_map]; simpa [szs] using hp
  have hc1 : cut (l.map D.int) (some (minAt l : Int)) none = (l.drop (minAt l)).map D.int := by rw [cut_from, List.map_drop]
  have hc2 : cut (l.map D.int) none (some (minAt l : Int)) = (l.take (minAt l)).map D.int := by rw [cut_to, List.map_take]
  have hlen : (rotL l (minAt l)).length = l.length := by simp only [rotL, List.length_append, List.length_drop, List.length_take]; omega
  have hro : rotL l (minAt l) = l.drop (minAt l) ++ l.take (minAt l) := rfl
  have hu : unown d = ti l ∨ unown d = li l := by rcases hd with rfl | rfl | rfl <;> simp [unown]
  obtain ⟨s, a, r, z, hA⟩ : ∃ s a r z, rotL l (minAt l) = s :: a :: (r ++ [z]) := by
    match hw : rotL l (minAt l), hlen with
    | [], h => simp at h; omega
    | [_], h => simp at h; omega
    | [_, _], h => simp at h; omega
    | s :: a :: b :: t, h => exact ⟨s, a, (b :: t).dropLast, (b :: t).getLast (by simp), by rw [List.dropLast_concat_getLast]⟩
  have hput : put3 (rotL l (minAt l)) = (z + s + a) :: r := by rw [hA]; simp [put3]
  have hrl : r.length ≤ 1000000 := by rw [hA] at hlen; simp at hlen; omega
  rw [hput]
  have h4 : cut (D.int s :: D.int a :: (r.map D.int ++ [D.int z])) (some 2) (some (-1)) = r.map D.int := by rw [cut_2m1]; simp
  have h5 : L2.atI (D.int s :: D.int a :: (r.map D.int ++ [D.int z])) (-1) = some (.int z) := by
    rw [atI_m1]
    have : (D.int s :: D.int a :: (r.map D.int ++ [D.int z])) = (D.int s :: D.int a :: r.map D.int) ++ [D.int z] := by simp
    rw [this, List.getLast?_append]; rfl
  have h6 : (l.drop (minAt l)).map D.int ++ (l.take (minAt l)).map D.int = D.int s :: D.int a :: (r.map D.int ++ [D.int z]) := by
    rw [← List.map_append, ← hro, hA]; simp
  have h7 : f.length + 1 ≤ 16777216 := by omega
  have h8 : r.length + 1 ≤ 16777216 := by omega
  have h9 : (l.drop (minAt l)).length + (l.take (minAt l)).length ≤ 16777216 := by simp; omega
  rw [hA]
  generalize l.drop (minAt l) = DR at *
  generalize l.take (minAt l) = TK at *
  generalize (szs l).getD (minAt l) 0 = q at *
  generalize szs l = zz at *
  generalize minAt l = p at *
  unfold swB
  generalize swC = c at *
  generalize swP = c2 at *
  have h10 : r.length + 1 + 1 + 1 ≤ 16777216 := by omega
  rcases hu with hu | hu <;> (rw [hu] at a1 a2; simp [peekV, readV, refV, res, finF, retD, args, D.arg, callO, bi, bi1, bi2, mx, mn, ab, D.item, items, dataD, tgLen, binop, cmpop, parS, slotD, lim, idxD, isTys, isTy, negD, Ev.bound, sliceD, D.seq, D.seqL, D.seqT, iterD, isOwn, wipeE_cons, wipeE_nil, mutable, mutS, mutate, a1, a2, a3, hc1, hc2, h4, h5, h6, h7, h8, h9, h10, atI_0, atI_1])
end Mr

end
section
set_option Elab.async false
set_option linter.all false
set_option maxRecDepth 100000
set_option maxHeartbeats 1000000
/-! M2c: swings_of, Years, heaps. -/
namespace Mr
open Ev Mh
theorem put3_len (l : List Int) (h : 2 < l.length) : (put3 (rotL l (minAt l))).length + 2 = l.length := by
  have hlen : (rotL l (minAt l)).length = l.length := by simp only [rotL, List.length_append, List.length_drop, List.length_take]; omega
  match hw : rotL l (minAt l), hlen with
  | [], h => simp at h; omega
  | [_], h => simp at h; omega
  | s :: a :: r, h =>
    simp only [put3, List.length_cons, List.length_dropLast] at *; omega
theorem sw_loop (F : Fn) (w : Nat) (st : Store) (d0 : D) : ∀ (n fuel : Nat) (l f : List Int) (d : D) (x3 x4 x5 : Option D), LS d l → l.length ≤ n → n < fuel → l.length ≤ 1000000 → f.length + l.length ≤ 1000000 →
    ∃ d' y3 y4 y5, LS d' (swL n l f).1 ∧ whileL (whT T0 F swT) (evalS T0 F w swB) fuel [some d0, some d, some (.own (f.map .int)), x3, x4, x5, none] st = .ok .nx [some d0, some d', some (.own ((swL n l f).2.map .int)), y3, y4, y5, none] st
  | n, 0, l, f, d, _, _, _, _, _, h, _, _ => by omega
  | 0, fuel + 1, l, f, d, x3, x4, x5, hd, hn, _, _, _ => by
    refine ⟨d, x3, x4, x5, hd, ?_⟩
    have h2 : ¬ 2 < l.length := by omega
    show (whT T0 F swT _ st).bind _ = _
    rw [sw_test F st l d0 d _ x3 x4 x5 hd]
    simp [h2, swL]
  | n + 1, fuel + 1, l, f, d, x3, x4, x5, hd, hn, hf, h1, h3 => by
    by_cases h2 : 2 < l.length
    · have ht := sw_turn F w st l f d0 d x3 x4 x5 hd h2 h1 (by omega)
      have hl := put3_len l h2
      obtain ⟨d', y3, y4, y5, i1, i2⟩ := sw_loop F w st d0 n fuel (put3 (rotL l (minAt l))) (f ++ [(szs l).getD (minAt l) 0]) _ (some (.own ((szs l).map .int))) (some (.int (minAt l : Int))) (some (.own ((rotL l (minAt l)).map .int))) (.inr (.inr rfl)) (by omega) (by omega) (by omega) (by simp; omega)
      have e : swL (n + 1) l f = swL n (put3 (rotL l (minAt l))) (f ++ [(szs l).getD (minAt l) 0]) := by show (if 2 < l.length then _ else _) = _; rw [if_pos h2]
      rw [e]
      refine ⟨d', y3, y4, y5, i1, ?_⟩
      show (whT T0 F swT _ st).bind _ = _
      rw [sw_test F st l d0 d _ x3 x4 x5 hd, ob_ok, if_pos (by simpa using h2), ht, ob_ok]
      exact i2
    · have e : swL (n + 1) l f = (l, f) := by show (if 2 < l.length then _ else _) = _; rw [if_neg h2]
      rw [e]
      refine ⟨d, x3, x4, x5, hd, ?_⟩
      show (whT T0 F swT _ st).bind _ = _
      rw [sw_test F st l d0 d _ x3 x4 x5 hd]
      simp [h2]
theorem swL_len : ∀ (n : Nat) (l f : List Int), (swL n l f).1.length ≤ l.length ∧ (swL n l f).2.length + (swL n l f).1.length ≤ f.length + l.length ∧ (l.length ≤ n → (swL n l f).1.length ≤ 2)
  | 0, l, f => ⟨by simp [swL], by simp [swL], fun h => by simp [swL]; omega⟩
  | n + 1, l, f => by
    by_cases h2 : 2 < l.length
    · have hl := put3_len l h2
      obtain ⟨i1, i2, i3⟩ := swL_len n (put3 (rotL l (minAt l))) (f ++ [(szs l).getD (minAt l) 0])
      have e : swL (n + 1) l f = swL n (put3 (rotL l (minAt l))) (f ++ [(szs l).getD (minAt l) 0]) := by show (if 2 < l.length then _ else _) = _; rw [if_pos h2]
      rw [e]
      simp only [List.length_append, List.length_cons, List.length_nil] at i2
      exact ⟨by omega, by omega, fun h => i3 (by omega)⟩
    · have e : swL (n + 1) l f = (l, f) := by show (if 2 < l.length then _ else _) = _; rw [if_neg h2]
      rw [e]
      exact ⟨by simp, by simp, fun _ => by simpa using h2⟩
def swRet : S := (.seq (.ret (.bi .toTup (.cons (.rev (.bi .sorted (.cons (.pk 2) .nil))) .nil))) .skip)
def swE : S := (.seq (.ite (.cmp .eq (.bi .len (.cons (.pk 1) .nil)) (.glob (PySem.Str.ofString "PAIR") (.int (2)))) (.seq (.par [2] (.cons (.lst (.star (.pk 2) (.cons (.bi .min1 (.cons swC .nil)) .nil))) .nil)) .skip) .skip) swRet)
def swK (l f : List Int) : List Int := match l with
  | [p, q] => f ++ [min (p.natAbs : Int) q.natAbs]
  | _ => f
theorem sw_ret (F : Fn) (w : Nat) (st : Store) (g : List Int) (e0 e1 x3 x4 x5 e6 : Option D) : evalS T0 F w swRet [e0, e1, some (.own (g.map .int)), x3, x4, x5, e6] st = .ok (.rt (ti (Mh.sortI g).reverse)) [e0, e1, some (.own (g.map .int)), x3, x4, x5, e6] st := by
  have : Ev.sortI g = Mh.sortI g := rfl
  simp [swRet, peekV, readV, refV, res, finF, retD, args, D.arg, callO, bi, bi1, bi2, mx, mn, ab, D.item, items, dataD, tgLen, binop, cmpop, parS, slotD, lim, idxD, isTys, isTy, negD, Ev.bound, sliceD, D.seq, D.seqL, D.seqT, iterD, isOwn, wipeE_cons, wipeE_nil, mutable, mutS, mutate, revD, this]
theorem sw_end (F : Fn) (w : Nat) (st : Store) (l f : List Int) (d0 d : D) (x3 x4 x5 : Option D) (hd : LS d l) (hl : l.length ≤ 2) (hf : f.length ≤ 1000000) :
    ∃ en, evalS T0 F w swE [some d0, some d, some (.own (f.map .int)), x3, x4, x5, none] st = .ok (.rt (ti (Mh.sortI (swK l f)).reverse)) en st := by
  have a1 := sw_sizes F st l d0 d (some (.own (f.map .int))) x3 x4 x5 hd
  have h7 : f.length + 1 ≤ 16777216 := by omega
  have a2 := fun (g : List Int) (e1 : Option D) => sw_ret F w st g (some d0) e1 x3 x4 x5 none
  unfold swE
  generalize swRet = R at *
  generalize swC = c at *
  match l, hl with
  | [], _ =>
    refine ⟨[some d0, some d, some (.own (f.map .int)), x3, x4, x5, none], ?_⟩
    rcases hd with rfl | rfl | rfl <;> simp [peekV, readV, refV, res, finF, retD, args, D.arg, callO, bi, bi1, bi2, mx, mn, ab, D.item, items, dataD, tgLen, binop, cmpop, parS, slotD, lim, idxD, isTys, isTy, negD, Ev.bound, sliceD, D.seq, D.seqL, D.seqT, iterD, isOwn, wipeE_cons, wipeE_nil, mutable, mutS, mutate, eqS_int', swK, a2]
  | [p], _ =>
    refine ⟨[some d0, some d, some (.own (f.map .int)), x3, x4, x5, none], ?_⟩
    rcases hd with rfl | rfl | rfl <;> simp [peekV, readV, refV, res, finF, retD, args, D.arg, callO, bi, bi1, bi2, mx, mn, ab, D.item, items, dataD, tgLen, binop, cmpop, parS, slotD, lim, idxD, isTys, isTy, negD, Ev.bound, sliceD, D.seq, D.seqL, D.seqT, iterD, isOwn, wipeE_cons, wipeE_nil, mutable, mutS, mutate, eqS_int', swK, a2]
  | [p, q], _ =>
    have hs : szs [p, q] = [(p.natAbs : Int), (q.natAbs : Int)] := rfl
    rw [hs] at a1
    have a3 := a2 (f ++ [min (p.natAbs : Int) q.natAbs]) (some (unown d))
    refine ⟨[some d0, some (unown d), some (.own ((f ++ [min (p.natAbs : Int) q.natAbs]).map .int)), x3, x4, x5, none], ?_⟩
    show _ = Out.ok (Flow.rt (ti (Mh.sortI (f ++ [min (p.natAbs : Int) q.natAbs])).reverse)) _ _
    simp only [List.map_cons, List.map_nil] at a1
    have hm : Ev.listMin [(p.natAbs : Int), (q.natAbs : Int)] = some (min (p.natAbs : Int) q.natAbs) := rfl
    have ha : asInts [D.int (p.natAbs : Int), D.int (q.natAbs : Int)] = some [(p.natAbs : Int), (q.natAbs : Int)] := rfl
    generalize (p.natAbs : Int) = pa at *
    generalize (q.natAbs : Int) = qa at *
    generalize min pa qa = mm at *
    generalize (Mh.sortI (f ++ [mm])).reverse = res0 at *
    simp only [List.map_append, List.map_cons, List.map_nil] at a3 ⊢
    rcases hd with rfl | rfl | rfl <;> (simp only [unown, ti, li, List.map_cons, List.map_nil] at a1 a3 ⊢; simp [peekV, readV, refV, res, finF, retD, args, D.arg, callO, bi, bi1, bi2, mx, mn, ab, D.item, items, dataD, tgLen, binop, cmpop, parS, slotD, lim, idxD, isTys, isTy, negD, Ev.bound, sliceD, D.seq, D.seqL, D.seqT, iterD, isOwn, wipeE_cons, wipeE_nil, mutable, mutS, mutate, eqS_int', a1, a3, hm, ha, h7])
theorem sw_all (F : Fn) (w g : Nat) (st : Store) (d out dl d' : D) (f : List D) (c : E) (b e1 : S) (y3 y4 y5 : Option D) (en : Ev.Env) (hnc : (∃ xs, d = .tup xs) ∨ ∃ xs, d = .lst xs) (hl : ∃ xs, dl = .tup xs) (ho : ∃ xs, out = .tup xs) (m1 : F g [d] st = .ok dl st)
    (i2 : whileL (whT T0 F c) (evalS T0 F w b) w [some d, some dl, some (.own []), none, none, none, none] st = .ok .nx [some d, some d', some (.own f), y3, y4, y5, none] st)
    (i3 : evalS T0 F w e1 [some d, some d', some (.own f), y3, y4, y5, none] st = .ok (.rt out) en st) :
    finF st (evalS T0 F w (.seq (.par [1] (.cons (.call g (.cons (.var 0) .nil)) .nil)) (.seq (.par [2] (.cons (.lst .nil) .nil)) (.seq (.while c b) e1))) [some d, none, none, none, none, none, none] st) = .ok out st := by
  obtain ⟨dx, rfl⟩ := hl
  obtain ⟨ox, rfl⟩ := ho
  rcases hnc with ⟨xs, rfl⟩ | ⟨xs, rfl⟩ <;> simp [peekV, readV, refV, res, finF, retD, args, D.arg, callO, bi, bi1, bi2, mx, mn, ab, D.item, items, dataD, tgLen, binop, cmpop, parS, slotD, lim, idxD, isTys, isTy, negD, Ev.bound, sliceD, D.seq, D.seqL, D.seqT, iterD, isOwn, wipeE_cons, wipeE_nil, mutable, mutS, mutate, m1, i2, i3]
theorem m_swings_of (w m : Nat) (st : Store) (rs : List Int) (d : D) (hd : SeqI d rs) (hl : rs.length ≤ 100000) (hw : rs.length + 1 < w) : CF w (m + 3) 30 [d] st = .ok (ti (swO rs)) st := by
  rw [CF, callF_def p_swings_of rfl]
  have m1 := m_ring_of w m st rs d hd hl
  have hrl : (ringOf rs).length ≤ rs.length + 1 := by
    unfold ringOf
    split
    · simp
    · rename_i t ts ht
      have hlf : ∀ (p f : List Int), (p.foldl mrg f).length ≤ f.length + p.length := by
        intro p
        induction p with
        | nil => intro f; simp
        | cons x p ih =>
          intro f
          have h1 : (mrg f x).length ≤ f.length + 1 := by
            unfold mrg
            split
            · split
              · simp only [List.length_append, List.length_dropLast, List.length_cons, List.length_nil]; omega
              · simp
            · simp
          have := ih (mrg f x)
          simp only [List.foldl_cons, List.length_cons]; omega
      have := hlf (rotL rs t) []
      have hl2 : (rotL rs t).length ≤ rs.length := by simp only [rotL, List.length_append, List.length_drop, List.length_take]; omega
      simp at this; omega
  simp only [CF] at m1
  generalize callF T0 PT w (m + 2) = F at *
  unfold swO swF
  generalize ringOf rs = l at *
  obtain ⟨d', y3, y4, y5, i1, i2⟩ := sw_loop F w st d l.length w l [] (ti l) none none none (.inl rfl) (Nat.le_refl _) (by omega) (by omega) (by simp; omega)
  obtain ⟨j1, j2, j3⟩ := swL_len l.length l []
  obtain ⟨en, i3⟩ := sw_end F w st (swL l.length l []).1 (swL l.length l []).2 d d' y3 y4 y5 i1 (j3 (Nat.le_refl _)) (by simp at j2; omega)
  have hk : swK (swL l.length l []).1 (swL l.length l []).2 = (match swL l.length l [] with
    | ([p, q], f) => f ++ [min (p.natAbs : Int) q.natAbs]
    | (_, f) => f) := by
    generalize swL l.length l [] = z
    obtain ⟨z1, z2⟩ := z
    match z1 with
    | [] => rfl
    | [_] => rfl
    | [_, _] => rfl
    | _ :: _ :: _ :: _ => rfl
  rw [hk] at i3
  generalize (Mh.sortI (match swL l.length l [] with
    | ([p, q], f) => f ++ [min (p.natAbs : Int) q.natAbs]
    | (_, f) => f)).reverse = out at *
  have hb : b_swings_of = .seq (.par [1] (.cons (.call 29 (.cons (.var 0) .nil)) .nil)) (.seq (.par [2] (.cons (.lst .nil) .nil)) (.seq (.while swT swB) swE)) := rfl
  rw [hb]
  simp only [List.map_nil] at i2
  exact sw_all F w 29 st d _ (ti l) d' _ _ _ _ y3 y4 y5 en (hd.imp (fun e => ⟨_, e⟩) fun e => ⟨_, e⟩) ⟨_, rfl⟩ ⟨_, rfl⟩ m1 i2 i3
end Mr

end
section
set_option Elab.async false
set_option linter.all false
set_option maxRecDepth 100000
set_option maxHeartbeats 1000000
/-! M2d: Years, heaps. -/
namespace Mr
open Ev Mh
theorem mkYear_ok {F : Fn} {c f : Nat} {st st' : Store} {d r r' : D} {xs : List D} {is : List Int} (hs : d.seq = some xs) (hi : asInts xs = some is) (ha : (is.all fun i => decide (i ≠ 0)) = true) (hF : F f [.tup xs] st = .ok r st') (hr : dataD r = some r') : mkYear F c f [d] st = .ok (.ins c [.tup xs, r']) st' := by
  unfold mkYear
  simp only [hs, hi, ha, if_true, hF, hr]
theorem m_Year (w m : Nat) (st : Store) (rs : List Int) (d : D) (hd : SeqI d rs) (hn : ∀ r ∈ rs, r ≠ 0) (hl : rs.length ≤ 100000) (hw : rs.length + 1 < w) : CF w (m + 4) 54 [d] st = .ok (yD rs (swO rs)) st := by
  have m1 := m_swings_of w m st rs (ti rs) .t hl hw
  have hall : (rs.all fun i => decide (i ≠ 0)) = true := by
    rw [List.all_eq_true]; intro x hx; simpa using hn x hx
  have hy : callF T0 PT w (m + 4) 54 [d] st = mkYear (callF T0 PT w (m + 3)) 0 30 [d] st := rfl
  rw [CF, hy]
  simp only [CF] at m1
  have hs : d.seq = some (rs.map D.int) := by rcases hd with rfl | rfl <;> rfl
  exact mkYear_ok hs (asInts_map rs) hall m1 rfl
def rainL (rs : List Int) : Int := (rs.filter fun r => decide (0 < r)).sum
def drawL (rs : List Int) : Int := ((rs.filter fun r => decide (r < 0)).map fun r => -r).sum
theorem rain_draw : ∀ rs : List Int, rainL rs - drawL rs = rs.sum
  | [] => rfl
  | r :: rs => by
    have ih := rain_draw rs
    simp only [rainL, drawL, List.filter_cons, List.sum_cons] at *
    by_cases h1 : 0 < r
    · have h2 : ¬ r < 0 := by omega
      simp [h1, h2]; omega
    · by_cases h2 : r < 0
      · simp [h1, h2]; omega
      · have : r = 0 := by omega
        simp [h1, h2]; omega
section
variable (w k : Nat) (st : Store) (rs ss : List Int)
theorem m_Year_swings : CF w (k + 1) 48 [yD rs ss] st = .ok (ti ss) st := by
  rw [CF, callF_def p_Year_swings rfl]
  simp [b_Year_swings, peekV, readV, refV, res, finF, retD, args, D.arg, callO, bi, bi1, bi2, mx, mn, ab, D.item, items, dataD, tgLen, binop, cmpop, parS, slotD, lim, idxD, isTys, isTy, negD, Ev.bound, sliceD, D.seq, D.seqL, D.seqT, iterD, isOwn, wipeE_cons, wipeE_nil, mutable, mutS, mutate, yD]
theorem fm_filter2 (f : Int → Bool) (e : Int → Int) : ∀ xs : List Int, xs.filterMap (fun a => if f a then some (D.int (e a)) else none) = ((xs.filter f).map e).map D.int
  | [] => rfl
  | a :: r => by cases h : f a <;> simp [List.filterMap_cons, h, fm_filter2 f e r]
theorem m_Year_rain : CF w (k + 1) 51 [yD rs ss] st = .ok (.int (rainL rs)) st := by
  have e : ∀ F : Fn, evalE T0 F (.comp [1] (.nm 1) (.attr (.var 0) (PySem.Str.ofString "own_runs")) (.cmp .gt (.pk 1) (.lit (.int (0)))) (.var 1)) [some (yD rs ss), none] st = .ok (.own ((rs.filter fun r => decide (0 < r)).map .int)) [some (yD rs ss), none] st := fun F => by
    rw [comp_pure (d := ti rs) rs .int (fun a => if decide (0 < a) then some (.int a) else none)]
    · rw [fm_filter]
    · simp [peekV, readV, refV, res, finF, retD, args, D.arg, callO, bi, bi1, bi2, mx, mn, ab, D.item, items, dataD, tgLen, binop, cmpop, parS, slotD, lim, idxD, isTys, isTy, negD, Ev.bound, sliceD, D.seq, D.seqL, D.seqT, iterD, isOwn, wipeE_cons, wipeE_nil, mutable, mutS, mutate, yD]
    · simp [peekV, readV, refV, res, finF, retD, args, D.arg, callO, bi, bi1, bi2, mx, mn, ab, D.item, items, dataD, tgLen, binop, cmpop, parS, slotD, lim, idxD, isTys, isTy, negD, Ev.bound, sliceD, D.seq, D.seqL, D.seqT, iterD, isOwn, wipeE_cons, wipeE_nil, mutable, mutS, mutate]
    · simp [peekV, readV, refV, res, finF, retD, args, D.arg, callO, bi, bi1, bi2, mx, mn, ab, D.item, items, dataD, tgLen, binop, cmpop, parS, slotD, lim, idxD, isTys, isTy, negD, Ev.bound, sliceD, D.seq, D.seqL, D.seqT, iterD, isOwn, wipeE_cons, wipeE_nil, mutable, mutS, mutate]
    · intro a _ acc
      by_cases h : 0 < a <;> simp [cmpT, peekV, readV, refV, res, finF, retD, args, D.arg, callO, bi, bi1, bi2, mx, mn, ab, D.item, items, dataD, tgLen, binop, cmpop, parS, slotD, lim, idxD, isTys, isTy, negD, Ev.bound, sliceD, D.seq, D.seqL, D.seqT, iterD, isOwn, wipeE_cons, wipeE_nil, mutable, mutS, mutate, h, yD]
  rw [CF, callF_def p_Year_rain rfl]
  have e := e (callF T0 PT w k)
  simp only [yD] at e
  unfold rainL
  simp [b_Year_rain, peekV, readV, refV, res, finF, retD, args, D.arg, callO, bi, bi1, bi2, mx, mn, ab, D.item, items, dataD, tgLen, binop, cmpop, parS, slotD, lim, idxD, isTys, isTy, negD, Ev.bound, sliceD, D.seq, D.seqL, D.seqT, iterD, isOwn, wipeE_cons, wipeE_nil, mutable, mutS, mutate, e, yD]
theorem m_Year_draws : CF w (k + 1) 50 [yD rs ss] st = .ok (.int (drawL rs)) st := by
  have e : ∀ F : Fn, evalE T0 F (.comp [1] (.nm 1) (.attr (.var 0) (PySem.Str.ofString "own_runs")) (.cmp .lt (.pk 1) (.lit (.int (0)))) (.neg (.var 1))) [some (yD rs ss), none] st = .ok (.own (((rs.filter fun r => decide (r < 0)).map fun r => -r).map .int)) [some (yD rs ss), none] st := fun F => by
    rw [comp_pure (d := ti rs) rs .int (fun a => if decide (a < 0) then some (.int (-a)) else none)]
    · rw [fm_filter2]
    · simp [peekV, readV, refV, res, finF, retD, args, D.arg, callO, bi, bi1, bi2, mx, mn, ab, D.item, items, dataD, tgLen, binop, cmpop, parS, slotD, lim, idxD, isTys, isTy, negD, Ev.bound, sliceD, D.seq, D.seqL, D.seqT, iterD, isOwn, wipeE_cons, wipeE_nil, mutable, mutS, mutate, yD]
    · simp [peekV, readV, refV, res, finF, retD, args, D.arg, callO, bi, bi1, bi2, mx, mn, ab, D.item, items, dataD, tgLen, binop, cmpop, parS, slotD, lim, idxD, isTys, isTy, negD, Ev.bound, sliceD, D.seq, D.seqL, D.seqT, iterD, isOwn, wipeE_cons, wipeE_nil, mutable, mutS, mutate]
    · simp [peekV, readV, refV, res, finF, retD, args, D.arg, callO, bi, bi1, bi2, mx, mn, ab, D.item, items, dataD, tgLen, binop, cmpop, parS, slotD, lim, idxD, isTys, isTy, negD, Ev.bound, sliceD, D.seq, D.seqL, D.seqT, iterD, isOwn, wipeE_cons, wipeE_nil, mutable, mutS, mutate]
    · intro a _ acc
      by_cases h : a < 0 <;> simp [cmpT, peekV, readV, refV, res, finF, retD, args, D.arg, callO, bi, bi1, bi2, mx, mn, ab, D.item, items, dataD, tgLen, binop, cmpop, parS, slotD, lim, idxD, isTys, isTy, negD, Ev.bound, sliceD, D.seq, D.seqL, D.seqT, iterD, isOwn, wipeE_cons, wipeE_nil, mutable, mutS, mutate, h, yD]
  rw [CF, callF_def p_Year_draws rfl]
  have e := e (callF T0 PT w k)
  unfold drawL
  generalize ((rs.filter fun r => decide (r < 0)).map fun r => -r) = L at *
  simp only [yD] at e
  simp [b_Year_draws, peekV, readV, refV, res, finF, retD, args, D.arg, callO, bi, bi1, bi2, mx, mn, ab, D.item, items, dataD, tgLen, binop, cmpop, parS, slotD, lim, idxD, isTys, isTy, negD, Ev.bound, sliceD, D.seq, D.seqL, D.seqT, iterD, isOwn, wipeE_cons, wipeE_nil, mutable, mutS, mutate, e, yD]
theorem m_Year_wants : CF w (k + 2) 49 [yD rs ss] st = .ok (.int (max 0 (-rs.sum))) st := by
  have m1 := m_Year_draws w k st rs ss
  have m2 := m_Year_rain w k st rs ss
  have h : max 0 (drawL rs - rainL rs) = max 0 (-rs.sum) := by have := rain_draw rs; omega
  rw [CF, callF_def p_Year_wants rfl, ← h]
  simp only [CF, yD] at m1 m2
  simp [b_Year_wants, peekV, readV, refV, res, finF, retD, args, D.arg, callO, bi, bi1, bi2, mx, mn, ab, D.item, items, dataD, tgLen, binop, cmpop, parS, slotD, lim, idxD, isTys, isTy, negD, Ev.bound, sliceD, D.seq, D.seqL, D.seqT, iterD, isOwn, wipeE_cons, wipeE_nil, mutable, mutS, mutate, yD, m1, m2, noX]
theorem m_Year_spare : CF w (k + 2) 53 [yD rs ss] st = .ok (.int (max 0 rs.sum)) st := by
  have m1 := m_Year_draws w k st rs ss
  have m2 := m_Year_rain w k st rs ss
  have h : max 0 (rainL rs - drawL rs) = max 0 rs.sum := by have := rain_draw rs; omega
  rw [CF, callF_def p_Year_spare rfl, ← h]
  simp only [CF, yD] at m1 m2
  simp [b_Year_spare, peekV, readV, refV, res, finF, retD, args, D.arg, callO, bi, bi1, bi2, mx, mn, ab, D.item, items, dataD, tgLen, binop, cmpop, parS, slotD, lim, idxD, isTys, isTy, negD, Ev.bound, sliceD, D.seq, D.seqL, D.seqT, iterD, isOwn, wipeE_cons, wipeE_nil, mutable, mutS, mutate, yD, m1, m2, noX]
def hpD (w : Int) (ss : List Int) : D := .tup [.int w, ti ss]
theorem m_Year_heap : CF w (k + 3) 47 [yD rs ss] st = .ok (hpD (max 0 (-rs.sum)) ss) st := by
  have m1 := m_Year_wants w k st rs ss
  have m2 := m_Year_swings w (k + 1) st rs ss
  rw [CF, callF_def p_Year_heap rfl]
  simp only [CF, yD] at m1 m2
  simp [b_Year_heap, peekV, readV, refV, res, finF, retD, args, D.arg, callO, bi, bi1, bi2, mx, mn, ab, D.item, items, dataD, tgLen, binop, cmpop, parS, slotD, lim, idxD, isTys, isTy, negD, Ev.bound, sliceD, D.seq, D.seqL, D.seqT, iterD, isOwn, wipeE_cons, wipeE_nil, mutable, mutS, mutate, yD, m1, m2, noX, hpD]
theorem m_bought_by_heap (b v : Int) : CF w (k + 1) 16 [hpD v ss, .int b] st = .ok (.int (v + exc b ss)) st := by
  have e : ∀ F : Fn, evalE T0 F (.comp [4] (.nm 4) (.var 3) (.lit (.bl true)) (.bi .max2 (.cons (.lit (.int (0))) (.cons (.bin .sub (.pk 4) (.pk 1)) .nil)))) [some (hpD v ss), some (.int b), some (.int v), some (ti ss), none] st = .ok (.own ((ss.map fun s => max 0 (s - b)).map .int)) [some (hpD v ss), some (.int b), some (.int v), some (ti ss), none] st := fun F => by
    rw [comp_map (d := ti ss) ss .int (fun a => .int (max 0 (a - b)))]
    · simp
    · simp [peekV, readV, refV, res, finF, retD, args, D.arg, callO, bi, bi1, bi2, mx, mn, ab, D.item, items, dataD, tgLen, binop, cmpop, parS, slotD, lim, idxD, isTys, isTy, negD, Ev.bound, sliceD, D.seq, D.seqL, D.seqT, iterD, isOwn, wipeE_cons, wipeE_nil, mutable, mutS, mutate]
    · simp [peekV, readV, refV, res, finF, retD, args, D.arg, callO, bi, bi1, bi2, mx, mn, ab, D.item, items, dataD, tgLen, binop, cmpop, parS, slotD, lim, idxD, isTys, isTy, negD, Ev.bound, sliceD, D.seq, D.seqL, D.seqT, iterD, isOwn, wipeE_cons, wipeE_nil, mutable, mutS, mutate]
    · simp [peekV, readV, refV, res, finF, retD, args, D.arg, callO, bi, bi1, bi2, mx, mn, ab, D.item, items, dataD, tgLen, binop, cmpop, parS, slotD, lim, idxD, isTys, isTy, negD, Ev.bound, sliceD, D.seq, D.seqL, D.seqT, iterD, isOwn, wipeE_cons, wipeE_nil, mutable, mutS, mutate]
    · intro a _ acc
      simp [cmpT, peekV, readV, refV, res, finF, retD, args, D.arg, callO, bi, bi1, bi2, mx, mn, ab, D.item, items, dataD, tgLen, binop, cmpop, parS, slotD, lim, idxD, isTys, isTy, negD, Ev.bound, sliceD, D.seq, D.seqL, D.seqT, iterD, isOwn, wipeE_cons, wipeE_nil, mutable, mutS, mutate]
  rw [CF, callF_def p_bought_by_heap rfl]
  have e := e (callF T0 PT w k)
  unfold exc
  generalize (ss.map fun s => max 0 (s - b)) = L at *
  simp only [hpD] at e
  simp [b_bought_by_heap, peekV, readV, refV, res, finF, retD, args, D.arg, callO, bi, bi1, bi2, mx, mn, ab, D.item, items, dataD, tgLen, binop, cmpop, parS, slotD, lim, idxD, isTys, isTy, negD, Ev.bound, sliceD, D.seq, D.seqL, D.seqT, iterD, isOwn, wipeE_cons, wipeE_nil, mutable, mutS, mutate, e, hpD]
theorem m_bought (b : Int) : CF w (k + 4) 17 [yD rs ss, .int b] st = .ok (.int (max 0 (-rs.sum) + exc b ss)) st := by
  have m1 := m_Year_heap w k st rs ss
  have m2 := m_bought_by_heap w (k + 2) st ss b (max 0 (-rs.sum))
  rw [CF, callF_def p_bought rfl]
  simp only [CF, yD, hpD] at m1 m2
  simp [b_bought, peekV, readV, refV, res, finF, retD, args, D.arg, callO, bi, bi1, bi2, mx, mn, ab, D.item, items, dataD, tgLen, binop, cmpop, parS, slotD, lim, idxD, isTys, isTy, negD, Ev.bound, sliceD, D.seq, D.seqL, D.seqT, iterD, isOwn, wipeE_cons, wipeE_nil, mutable, mutS, mutate, yD, m1, m2, noX]
theorem m_spilled (b : Int) : CF w (k + 3) 18 [yD rs ss, .int b] st = .ok (.int (max 0 rs.sum + exc b ss)) st := by
  have m1 := m_Year_spare w k st rs ss
  have m3 := m_Year_swings w (k + 1) st rs ss
  have m2 := m_bought_by_heap w (k + 1) st ss b (max 0 rs.sum)
  rw [CF, callF_def p_spilled rfl]
  simp only [CF, yD, hpD] at m1 m2 m3
  simp [b_spilled, peekV, readV, refV, res, finF, retD, args, D.arg, callO, bi, bi1, bi2, mx, mn, ab, D.item, items, dataD, tgLen, binop, cmpop, parS, slotD, lim, idxD, isTys, isTy, negD, Ev.bound, sliceD, D.seq, D.seqL, D.seqT, iterD, isOwn, wipeE_cons, wipeE_nil, mutable, mutS, mutate, yD, m1, m2, m3, noX]
end
end Mr

end
section
set_option Elab.async false
set_option linter.all false
set_option maxRecDepth 100000
set_option maxHeartbeats 1000000
/-! M3: draws. -/
namespace Mr
open Ev Mh
def Urn (n : Nat) (st : Store) : Prop := ∃ a b c : Int, st = [[.int a, .int b, .int c]] ∧ 0 ≤ c ∧ c ≤ n
theorem mulOk_l {i j : Int} (h1 : -1000000000000 ≤ i) (h2 : i ≤ 1000000000000) : mulOk i j = true := by
  unfold mulOk
  rw [decide_eq_true (show -(2 ^ 64) < i by omega), decide_eq_true (show i < 2 ^ 64 by omega)]; rfl
theorem mulOk_r {i j : Int} (h1 : -1000000000000 ≤ j) (h2 : j ≤ 1000000000000) : mulOk i j = true := by
  unfold mulOk
  rw [decide_eq_true (show -(2 ^ 64) < j by omega), decide_eq_true (show j < 2 ^ 64 by omega)]; simp
theorem fmod_in {a b : Int} (h : 0 < b) : 0 ≤ Int.fmod a b ∧ Int.fmod a b < b := ⟨Int.fmod_nonneg_of_pos _ h, Int.fmod_lt_of_pos _ h⟩
theorem tk_body1 (F : Fn) (w : Nat) (a b c low : Int) (ha : 0 < a) (h1 : 1 ≤ low) (h2 : low < 1000000000) : ∃ en a', finF [[.int a, .int b, .int c]] (evalS T0 F w b__law_take [some (.cell 0), some (.int low), none, none, none, none] [[.int a, .int b, .int c]]) = .ok (.int (Int.fmod a low)) [[.int a', .int b, .int c]] ∧ en = a' := by
  have hl : ¬ low = 0 := by omega
  have hn : low.natAbs < 1073741824 := by omega
  refine ⟨Int.fdiv a low, Int.fdiv a low, ?_, rfl⟩
  simp [b__law_take, peekV, readV, refV, res, finF, retD, args, D.arg, callO, bi, bi1, bi2, mx, mn, ab, D.item, items, dataD, tgLen, binop, cmpop, parS, slotD, lim, idxD, isTys, isTy, negD, Ev.bound, sliceD, D.seq, D.seqL, D.seqT, iterD, isOwn, wipeE_cons, wipeE_nil, mutable, mutS, mutate, ha, hl, hn, atI_0, storeAt, L2.ixN]
def tk1 (b c : Int) : Int := Int.fmod ((b + 48271 * c) * (39373 + c)) 2147483647
def tk2 (b c : Int) : Int := Int.fmod ((tk1 b c + c + Int.fdiv b 1000003) * (Int.fmod (tk1 b c) 40009 + 7)) 2147483629
def tk3 (b c : Int) : Int := Int.fdiv (Int.fmod (tk2 b c * 48271 + tk1 b c) 2147483587) 64
theorem tk_body2 (F : Fn) (w : Nat) (a b c low : Int) (ha : ¬ 0 < a) (h1 : 1 ≤ low) (h2 : low < 1000000000) (hc : 0 ≤ c) (hc2 : c ≤ 1000000000) : finF [[.int a, .int b, .int c]] (evalS T0 F w b__law_take [some (.cell 0), some (.int low), none, none, none, none] [[.int a, .int b, .int c]]) = .ok (.int (Int.fmod (tk3 b (c + 1)) low)) [[.int a, .int b, .int (c + 1)]] := by
  have hl : ¬ low = 0 := by omega
  have m1 : mulOk 48271 (c + 1) = true := mulOk_l (by omega) (by omega)
  have m2 : ∀ x : Int, mulOk x (39373 + (c + 1)) = true := fun x => mulOk_r (by omega) (by omega)
  have m3 : ∀ x y : Int, mulOk x (Int.fmod y 40009 + 7) = true := fun x y => by
    have := fmod_in (a := y) (b := 40009) (by omega)
    exact mulOk_r (by omega) (by omega)
  have m4 : ∀ x : Int, mulOk x 48271 = true := fun x => mulOk_r (by omega) (by omega)
  simp [b__law_take, peekV, readV, refV, res, finF, retD, args, D.arg, callO, bi, bi1, bi2, mx, mn, ab, D.item, items, dataD, tgLen, binop, cmpop, parS, slotD, lim, idxD, isTys, isTy, negD, Ev.bound, sliceD, D.seq, D.seqL, D.seqT, iterD, isOwn, wipeE_cons, wipeE_nil, mutable, mutS, mutate, ha, hl, atI_0, atI_1, atI_2, storeAt, L2.ixN, m1, m2, m3, m4, tk3, tk2, tk1]
theorem m_take {w k n : Nat} {st : Store} {low : Int} (h : Urn n st) (hn : n ≤ 100000000) (h1 : 1 ≤ low) (h2 : low < 1000000000) : ∃ v st', 0 ≤ v ∧ v < low ∧ Urn (n + 1) st' ∧ CF w (k + 1) 32 [.cell 0, .int low] st = .ok (.int v) st' := by
  obtain ⟨a, b, c, rfl, c0, c1⟩ := h
  have hp : 0 < low := by omega
  by_cases ha : 0 < a
  · obtain ⟨_, a', e, _⟩ := tk_body1 (callF T0 PT w k) w a b c low ha h1 h2
    refine ⟨Int.fmod a low, [[.int a', .int b, .int c]], (fmod_in hp).1, (fmod_in hp).2, ⟨a', b, c, rfl, c0, by omega⟩, ?_⟩
    rw [CF, callF_def p__law_take rfl]
    exact e
  · have e := tk_body2 (callF T0 PT w k) w a b c low ha h1 h2 c0 (by omega)
    refine ⟨Int.fmod (tk3 b (c + 1)) low, [[.int a, .int b, .int (c + 1)]], (fmod_in hp).1, (fmod_in hp).2, ⟨a, b, c + 1, rfl, by omega, by omega⟩, ?_⟩
    rw [CF, callF_def p__law_take rfl]
    exact e
end Mr

end
section
set_option Elab.async false
set_option linter.all false
set_option maxRecDepth 100000
set_option maxHeartbeats 1000000
/-! M3b: draws, on. -/
namespace Mr
open Ev Mh
theorem Urn.len {n : Nat} {st : Store} (h : Urn n st) : st.length = 1 := by obtain ⟨a, b, c, rfl, _, _⟩ := h; rfl
theorem Urn.mono {n m : Nat} {st : Store} (h : Urn n st) (hm : n ≤ m) : Urn m st := by
  obtain ⟨a, b, c, rfl, h1, h2⟩ := h
  exact ⟨a, b, c, rfl, h1, by omega⟩
theorem of_body (F : Fn) (w g : Nat) (ds : List D) (st st' : Store) (v : Nat) (d : D) (hs : st.length = 1) (hs' : st'.length = 1) (hF : F g [.cell 0, .int (ds.length : Int)] st = .ok (.int (v : Int)) st') (hd : ds[v]? = some d) (hr : retD d = some d) :
    finF st (evalS T0 F w (.seq (.ret (.idx (.pk 1) (.call g (.cons (.ref 0) (.cons (.bi .len (.cons (.pk 1) .nil)) .nil))))) .skip) [some (.cell 0), some (.lst ds)] st) = .ok d st' := by
  have ht : st'.take 1 = st' := List.take_of_length_le (by omega)
  have ha : L2.atI ds (v : Int) = some d := by rw [atI_nat, hd]
  simp only [retD] at hr
  simp [peekV, readV, refV, res, finF, retD, args, D.arg, callO, bi, bi1, bi2, mx, mn, ab, D.item, items, dataD, tgLen, binop, cmpop, parS, slotD, lim, idxD, isTys, isTy, negD, Ev.bound, sliceD, D.seq, D.seqL, D.seqT, iterD, isOwn, wipeE_cons, wipeE_nil, mutable, mutS, mutate, hF, ha, hs, ht, hr, idxD]
theorem m_of {w k n : Nat} {st : Store} {ds : List D} (h : Urn n st) (hn : n ≤ 100000000) (h0 : ds ≠ []) (hl : ds.length ≤ 1000000) (hr : ∀ d ∈ ds, retD d = some d) : ∃ d st', d ∈ ds ∧ Urn (n + 1) st' ∧ CF w (k + 2) 34 [.cell 0, .lst ds] st = .ok d st' := by
  have hlen : 0 < ds.length := List.length_pos_iff.mpr h0
  obtain ⟨v, st', v0, v1, u, e⟩ := m_take (w := w) (k := k) h hn (low := (ds.length : Int)) (by omega) (by omega)
  obtain ⟨v', rfl⟩ : ∃ v' : Nat, v = v' := ⟨v.toNat, by omega⟩
  have hv : v' < ds.length := by omega
  refine ⟨ds[v'], st', List.getElem_mem hv, u, ?_⟩
  rw [CF, callF_def p__law_of rfl]
  exact of_body _ w 32 ds st st' v' _ h.len u.len e (List.getElem?_eq_getElem hv) (hr _ (List.getElem_mem hv))
theorem m_lists_int (w k : Nat) (st : Store) (i : Int) : CF w (k + 1) 36 [.int i] st = .ok (.int i) st := by
  rw [CF, callF_def p__law_lists rfl]
  simp [b__law_lists, peekV, readV, refV, res, finF, retD, args, D.arg, callO, bi, bi1, bi2, mx, mn, ab, D.item, items, dataD, tgLen, binop, cmpop, parS, slotD, lim, idxD, isTys, isTy, negD, Ev.bound, sliceD, D.seq, D.seqL, D.seqT, iterD, isOwn, wipeE_cons, wipeE_nil, mutable, mutS, mutate]
theorem li_body (F : Fn) (w : Nat) (st : Store) (xs : List Int) (hF : ∀ i : Int, F 36 [.int i] st = .ok (.int i) st) : finF st (evalS T0 F w b__law_lists [some (ti xs), none] st) = .ok (.own (xs.map .int)) st := by
  have e : evalE T0 F (.comp [1] (.nm 1) (.var 0) (.lit (.bl true)) (.call 36 (.cons (.var 1) .nil))) [some (ti xs), none] st = .ok (.own (xs.map .int)) [some (ti xs), none] st := by
    rw [comp_map (d := ti xs) xs .int .int]
    · simp [peekV, readV, refV, res, finF, retD, args, D.arg, callO, bi, bi1, bi2, mx, mn, ab, D.item, items, dataD, tgLen, binop, cmpop, parS, slotD, lim, idxD, isTys, isTy, negD, Ev.bound, sliceD, D.seq, D.seqL, D.seqT, iterD, isOwn, wipeE_cons, wipeE_nil, mutable, mutS, mutate]
    · simp [peekV, readV, refV, res, finF, retD, args, D.arg, callO, bi, bi1, bi2, mx, mn, ab, D.item, items, dataD, tgLen, binop, cmpop, parS, slotD, lim, idxD, isTys, isTy, negD, Ev.bound, sliceD, D.seq, D.seqL, D.seqT, iterD, isOwn, wipeE_cons, wipeE_nil, mutable, mutS, mutate]
    · simp [peekV, readV, refV, res, finF, retD, args, D.arg, callO, bi, bi1, bi2, mx, mn, ab, D.item, items, dataD, tgLen, binop, cmpop, parS, slotD, lim, idxD, isTys, isTy, negD, Ev.bound, sliceD, D.seq, D.seqL, D.seqT, iterD, isOwn, wipeE_cons, wipeE_nil, mutable, mutS, mutate]
    · intro a _ acc
      simp [cmpT, peekV, readV, refV, res, finF, retD, args, D.arg, callO, bi, bi1, bi2, mx, mn, ab, D.item, items, dataD, tgLen, binop, cmpop, parS, slotD, lim, idxD, isTys, isTy, negD, Ev.bound, sliceD, D.seq, D.seqL, D.seqT, iterD, isOwn, wipeE_cons, wipeE_nil, mutable, mutS, mutate, hF]
  simp [b__law_lists, peekV, readV, refV, res, finF, retD, args, D.arg, callO, bi, bi1, bi2, mx, mn, ab, D.item, items, dataD, tgLen, binop, cmpop, parS, slotD, lim, idxD, isTys, isTy, negD, Ev.bound, sliceD, D.seq, D.seqL, D.seqT, iterD, isOwn, wipeE_cons, wipeE_nil, mutable, mutS, mutate, e]
theorem m_lists_ti (w k : Nat) (st : Store) (xs : List Int) : CF w (k + 2) 36 [ti xs] st = .ok (.own (xs.map .int)) st := by
  rw [CF, callF_def p__law_lists rfl]
  exact li_body _ w st xs fun i => m_lists_int w k st i
theorem soft_body (F : Fn) (w g1 g2 : Nat) (st st' : Store) (xs : List Int) (v : Int) (hs : st.length = 1) (hs' : st'.length = 1) (hF : F g1 [.cell 0, .int 3] st = .ok (.int v) st') (hL : F g2 [ti xs] st' = .ok (.own (xs.map .int)) st') :
    finF st (evalS T0 F w (.seq (.ret (.ite (.cmp .eq (.call g1 (.cons (.ref 0) (.cons (.lit (.int (3))) .nil))) (.lit (.int (0)))) (.call g2 (.cons (.var 1) .nil)) (.var 1))) .skip) [some (.cell 0), some (ti xs)] st) = .ok (if v = 0 then .own (xs.map .int) else ti xs) st' := by
  have ht : st'.take 1 = st' := List.take_of_length_le (by omega)
  by_cases c : v = 0
  · simp [peekV, readV, refV, res, finF, retD, args, D.arg, callO, bi, bi1, bi2, mx, mn, ab, D.item, items, dataD, tgLen, binop, cmpop, parS, slotD, lim, idxD, isTys, isTy, negD, Ev.bound, sliceD, D.seq, D.seqL, D.seqT, iterD, isOwn, wipeE_cons, wipeE_nil, mutable, mutS, mutate, hF, hL, hs, ht, c, eqS_int']
  · simp [peekV, readV, refV, res, finF, retD, args, D.arg, callO, bi, bi1, bi2, mx, mn, ab, D.item, items, dataD, tgLen, binop, cmpop, parS, slotD, lim, idxD, isTys, isTy, negD, Ev.bound, sliceD, D.seq, D.seqL, D.seqT, iterD, isOwn, wipeE_cons, wipeE_nil, mutable, mutS, mutate, hF, hL, hs, ht, c, eqS_int']
theorem m_soft {w k n : Nat} {st : Store} {xs : List Int} (h : Urn n st) (hn : n ≤ 100000000) : ∃ d st', (d = .own (xs.map .int) ∨ d = ti xs) ∧ Urn (n + 1) st' ∧ CF w (k + 3) 37 [.cell 0, ti xs] st = .ok d st' := by
  obtain ⟨v, st', v0, v1, u, e⟩ := m_take (w := w) (k := k + 1) h hn (low := 3) (by omega) (by omega)
  refine ⟨if v = 0 then .own (xs.map .int) else ti xs, st', ?_, u, ?_⟩
  · by_cases c : v = 0 <;> simp [c]
  · rw [CF, callF_def p__law_soft rfl]
    exact soft_body _ w 32 36 st st' xs v h.len u.len e (m_lists_ti w k st' xs)
/-- drawn runs -/
structure Runs (most far : Int) (rs : List Int) : Prop where
  len : (rs.length : Int) ≤ most
  nz : ∀ r ∈ rs, r ≠ 0
  sz : ∀ r ∈ rs, (r.natAbs : Int) ≤ far
theorem runs_turn (F : Fn) (w g : Nat) (st1 st2 st3 : Store) (most far : Int) (had : List Int) (k : Int) (y4 y5 : Option D) (v1 v2 : Int) (hs1 : st1.length = 1) (hF1 : F g [.cell 0, .int far] st1 = .ok (.int v1) st2) (hF2 : F g [.cell 0, .int 2] st2 = .ok (.int v2) st3) (hl : had.length ≤ 1000000) :
    forT T0 F w (.nm 4) (.seq (.par [5] (.cons (.bin .add (.lit (.int (1))) (.call g (.cons (.ref 0) (.cons (.var 2) .nil)))) .nil)) (.seq (.mut .append 3 (.cons (.ite (.cmp .eq (.call g (.cons (.ref 0) (.cons (.lit (.int (2))) .nil))) (.lit (.int (0)))) (.var 5) (.bin .sub (.lit (.int (0))) (.pk 5))) .nil)) .skip)) (.int k) [some (.cell 0), some (.int most), some (.int far), some (.own (had.map .int)), y4, y5] st1 =
      .ok .nx [some (.cell 0), some (.int most), some (.int far), some (.own ((had ++ [if v2 = 0 then 1 + v1 else 0 - (1 + v1)]).map .int)), some (.int k), some (.int (1 + v1))] st3 := by
  have h1 : had.length < 16777216 := by omega
  by_cases c : v2 = 0
  · simp [forT, peekV, readV, refV, res, finF, retD, args, D.arg, callO, bi, bi1, bi2, mx, mn, ab, D.item, items, dataD, tgLen, binop, cmpop, parS, slotD, lim, idxD, isTys, isTy, negD, Ev.bound, sliceD, D.seq, D.seqL, D.seqT, iterD, isOwn, wipeE_cons, wipeE_nil, mutable, mutS, mutate, hF1, hF2, c, eqS_int', h1]
  · simp [forT, peekV, readV, refV, res, finF, retD, args, D.arg, callO, bi, bi1, bi2, mx, mn, ab, D.item, items, dataD, tgLen, binop, cmpop, parS, slotD, lim, idxD, isTys, isTy, negD, Ev.bound, sliceD, D.seq, D.seqL, D.seqT, iterD, isOwn, wipeE_cons, wipeE_nil, mutable, mutS, mutate, hF1, hF2, c, eqS_int', h1]
theorem m_runs {w k n : Nat} {st : Store} {most far : Int} (h : Urn n st) (hn : n ≤ 1000000) (h1 : 1 ≤ most) (h2 : most ≤ 1000) (h3 : 1 ≤ far) (h4 : far ≤ 100000) :
    ∃ rs st', rs ≠ [] ∧ Runs most far rs ∧ Urn (n + 1 + 2 * most.toNat) st' ∧ CF w (k + 2) 38 [.cell 0, .int most, .int far] st = .ok (ti rs) st' := by
  obtain ⟨v, st0, v0, v1, u0, e0⟩ := m_take (w := w) (k := k) h (by omega) (low := most) h1 (by omega)
  obtain ⟨N, hN⟩ : ∃ N : Nat, (N : Int) = 1 + v := ⟨(1 + v).toNat, by omega⟩
  obtain ⟨en', st', ef, hR⟩ := forL_A (turn := forT T0 (callF T0 PT w (k + 1)) w (.nm 4) (.seq (.par [5] (.cons (.bin .add (.lit (.int (1))) (.call 32 (.cons (.ref 0) (.cons (.var 2) .nil)))) .nil)) (.seq (.mut .append 3 (.cons (.ite (.cmp .eq (.call 32 (.cons (.ref 0) (.cons (.lit (.int (2))) .nil))) (.lit (.int (0)))) (.var 5) (.bin .sub (.lit (.int (0))) (.pk 5))) .nil)) .skip)))
    (fun (k : Nat) => D.int (k : Int)) (fun ps en s => ∃ had y4 y5, en = [some (.cell 0), some (.int most), some (.int far), some (.own (had.map .int)), y4, y5] ∧ had.length = ps.length ∧ (∀ r ∈ had, r ≠ 0) ∧ (∀ r ∈ had, (r.natAbs : Int) ≤ far) ∧ Urn (n + 1 + 2 * ps.length) s)
    (List.range N) [] [some (.cell 0), some (.int most), some (.int far), some (.own []), none, none] st0
    (fun p a q en s hp ⟨had, y4, y5, he, hl, hz, hsz, hu⟩ => by
      subst he
      have hpl : p.length < N := by
        have := congrArg List.length hp
        simp at this; omega
      obtain ⟨w1, s1, a0, a1, ua, ea⟩ := m_take (w := w) (k := k) hu (by omega) (low := far) h3 (by omega)
      obtain ⟨w2, s2, b0, b1, ub, eb⟩ := m_take (w := w) (k := k) ua (by omega) (low := 2) (by omega) (by omega)
      refine ⟨_, s2, runs_turn _ w 32 s s1 s2 most far had a y4 y5 w1 w2 hu.len ea eb (by omega), _, _, _, rfl, by simp [hl], ?_, ?_, ub.mono (by simp; omega)⟩
      · intro r hr
        rcases List.mem_append.mp hr with hr | hr
        · exact hz r hr
        · rw [List.mem_singleton.mp hr]; split <;> omega
      · intro r hr
        rcases List.mem_append.mp hr with hr | hr
        · exact hsz r hr
        · rw [List.mem_singleton.mp hr]; split <;> omega)
    ⟨[], none, none, rfl, rfl, (fun r hr => by cases hr), (fun r hr => by cases hr), by simpa using u0⟩
  obtain ⟨had, y4, y5, he, hl, hz, hsz, hu⟩ := hR
  subst he
  simp only [List.nil_append, List.length_range] at hl hu
  refine ⟨had, st', fun z => ?_, ⟨by omega, hz, hsz⟩, hu.mono (by omega), ?_⟩
  · rw [z] at hl; simp at hl; omega
  · rw [CF, callF_def p__law_runs rfl]
    have hr : rngL [.int (1 + v)] = some (.tup ((List.range N).map fun (k : Nat) => D.int (k : Int))) := by
      rw [← hN, ← rng_map]
      show chk (rngOk (N : Int) && decide ((N : Int).toNat ≤ Ev.lim)) (D.tup (Ev.rng 0 (N : Int).toNat 1)) = _
      rw [rngOk_nat (by omega), Int.toNat_natCast, decide_eq_true (show N ≤ Ev.lim by unfold Ev.lim; omega)]
      rfl
    have ht : st'.take 1 = st' := List.take_of_length_le (by rw [hu.len]; omega)
    have hs := h.len
    simp only [CF] at e0
    generalize callF T0 PT w (k + 1) = F at *
    clear hN hl hu
    generalize (List.range N).map (fun (k : Nat) => D.int (k : Int)) = RL at *
    simp [b__law_runs, peekV, readV, refV, res, finF, retD, args, D.arg, callO, bi, bi1, bi2, mx, mn, ab, D.item, items, dataD, tgLen, binop, cmpop, parS, slotD, lim, idxD, isTys, isTy, negD, Ev.bound, sliceD, D.seq, D.seqL, D.seqT, iterD, isOwn, wipeE_cons, wipeE_nil, mutable, mutS, mutate, e0, hr, ef, hs, ht]
end Mr

end
section
set_option Elab.async false
set_option linter.all false
set_option maxRecDepth 100000
set_option maxHeartbeats 1000000
/-! M3c: the law's own walks. -/
namespace Mr
open Ev Mh
theorem row_body (F : Fn) (w g1 g2 : Nat) (st st1 st2 : Store) (most : Int) (rs : List Int) (v : Nat) (hs : st.length = 1) (hs2 : st2.length = 1) (h1 : F g1 [.cell 0, .int most, .int 4] st = .ok (ti rs) st1) (h2 : F g2 [.cell 0, .int (most + 1)] st1 = .ok (.int (v : Int)) st2) :
    finF st (evalS T0 F w (.seq (.ret (.slice (.call g1 (.cons (.ref 0) (.cons (.var 1) (.cons (.lit (.int (4))) .nil)))) .no (.call g2 (.cons (.ref 0) (.cons (.bin .add (.pk 1) (.lit (.int (1)))) .nil))))) .skip) [some (.cell 0), some (.int most)] st) = .ok (ti (rs.take v)) st2 := by
  have ht : st2.take 1 = st2 := List.take_of_length_le (by omega)
  have hc : cut (rs.map D.int) none (some (v : Int)) = (rs.take v).map D.int := cut_ti rs v
  simp only [ti] at h1 ⊢
  generalize (rs.take v).map D.int = TK at *
  simp [peekV, readV, refV, res, finF, retD, args, D.arg, callO, bi, bi1, bi2, mx, mn, ab, D.item, items, dataD, tgLen, binop, cmpop, parS, slotD, lim, idxD, isTys, isTy, negD, Ev.bound, sliceD, D.seq, D.seqL, D.seqT, iterD, isOwn, wipeE_cons, wipeE_nil, mutable, mutS, mutate, h1, h2, hs, ht, hc]
theorem Runs.take {most far : Int} {rs : List Int} (h : Runs most far rs) (v : Nat) : Runs most far (rs.take v) :=
  ⟨by have := h.len; simp only [List.length_take]; omega, fun r hr => h.nz r (List.mem_of_mem_take hr), fun r hr => h.sz r (List.mem_of_mem_take hr)⟩
theorem m_row {w k n : Nat} {st : Store} {most : Int} (h : Urn n st) (hn : n ≤ 1000000) (h1 : 1 ≤ most) (h2 : most ≤ 1000) :
    ∃ rs st', Runs most 4 rs ∧ Urn (n + 2 + 2 * most.toNat) st' ∧ CF w (k + 3) 45 [.cell 0, .int most] st = .ok (ti rs) st' := by
  obtain ⟨rs, st1, _, hr, u1, e1⟩ := m_runs (w := w) (k := k) h hn h1 h2 (far := 4) (by omega) (by omega)
  obtain ⟨v, st2, v0, v1, u2, e2⟩ := m_take (w := w) (k := k + 1) u1 (by omega) (low := most + 1) (by omega) (by omega)
  obtain ⟨v', rfl⟩ : ∃ v' : Nat, v = v' := ⟨v.toNat, by omega⟩
  refine ⟨rs.take v', st2, hr.take v', u2.mono (by omega), ?_⟩
  rw [CF, callF_def p__law_row rfl]
  exact row_body _ w 38 32 st st1 st2 most rs v' h.len u2.len e1 e2
/-! the urn from the script -/
theorem box_body (F : Fn) (w : Nat) (st : Store) (c : Int) : ∃ a b : Int, finF st (evalS T0 F w b__law_box [some (.lst [.int c]), some (.int 0), none] st) = .ok (.own [.int a, .int b, .int 0]) st := by
  have m1 : ∀ (x : Int) (q : Bool), mulOk x (if q = true then 1 else 0) = true := fun x q => mulOk_r (by split <;> omega) (by split <;> omega)
  have m3 : mulOk 39551 0 = true := mulOk_r (by omega) (by omega)
  have hp : (10 : Int).natAbs < 2 ^ 64 := by decide
  refine ⟨(c.natAbs : Int) * (if decide (1000000000000000000 ≤ (c.natAbs : Int)) then 1 else 0), Int.fmod c 2305843009213693951 + 821577, ?_⟩
  by_cases q : 1000000000000000000 ≤ (c.natAbs : Int)
  · have m2 : mulOk (c.natAbs : Int) 1 = true := mulOk_r (by omega) (by omega)
    simp [b__law_box, peekV, readV, refV, res, finF, retD, args, D.arg, callO, bi, bi1, bi2, mx, mn, ab, D.item, items, dataD, tgLen, binop, cmpop, parS, slotD, lim, idxD, isTys, isTy, negD, Ev.bound, sliceD, D.seq, D.seqL, D.seqT, iterD, isOwn, wipeE_cons, wipeE_nil, mutable, mutS, mutate, atI_0, m2, m3, q]
  · have m2 : mulOk (c.natAbs : Int) 0 = true := mulOk_r (by omega) (by omega)
    simp [b__law_box, peekV, readV, refV, res, finF, retD, args, D.arg, callO, bi, bi1, bi2, mx, mn, ab, D.item, items, dataD, tgLen, binop, cmpop, parS, slotD, lim, idxD, isTys, isTy, negD, Ev.bound, sliceD, D.seq, D.seqL, D.seqT, iterD, isOwn, wipeE_cons, wipeE_nil, mutable, mutS, mutate, atI_0, m2, m3, q]
theorem m_box (w k : Nat) (st : Store) (c : Int) : ∃ a b : Int, CF w (k + 1) 31 [.lst [.int c], .int 0] st = .ok (.own [.int a, .int b, .int 0]) st := by
  obtain ⟨a, b, e⟩ := box_body (callF T0 PT w k) w st c
  exact ⟨a, b, by rw [CF, callF_def p__law_box rfl]; exact e⟩
theorem enumD_mem : ∀ (xs : List Int) (j : Nat) (d : D), d ∈ enumD j (xs.map D.int) → ∃ (k : Nat) (x : Int), d = .tup [.int (k : Int), .int x] ∧ k < j + xs.length
  | [], j, d, h => by simp [enumD] at h
  | x :: xs, j, d, h => by
    simp only [List.map_cons, enumD, List.mem_cons] at h
    rcases h with rfl | h
    · exact ⟨j, x, rfl, by simp⟩
    · obtain ⟨k, y, e, hk⟩ := enumD_mem xs (j + 1) d h
      exact ⟨k, y, e, by simp; omega⟩
def cellsB : S := (.seq (.par [5] (.cons (.bin .mod (.bi .toInt (.cons (.pk 3) .nil)) (.pk 1)) .nil)) (.seq (.asg (.ix 2 (.var 5)) (.bin .add (.idx (.pk 2) (.var 5)) (.bin .mul (.pk 4) (.bin .add (.pk 3) (.lit (.int (2))))))) .skip))
theorem cells_turn (F : Fn) (w : Nat) (st : Store) (d0 : D) (c x : Int) (k : Nat) (y3 y4 y5 : Option D) (hk : k < 100) :
    forT T0 F w (.tp (.cons (.nm 3) (.cons (.nm 4) .nil))) cellsB (.tup [.int (k : Int), .int x]) [some d0, some (.int 1), some (.own [.int c]), y3, y4, y5] st = .ok .nx [some d0, some (.int 1), some (.own [.int (c + x * (k + 2))]), some (.int (k : Int)), some (.int x), some (.int 0)] st := by
  have hm : Int.fmod (k : Int) 1 = 0 := by rw [Int.fmod_eq_emod_of_nonneg _ (by omega)]; omega
  have m1 : mulOk x ((k : Int) + 2) = true := mulOk_r (by omega) (by omega)
  simp [forT, cellsB, peekV, readV, refV, res, finF, retD, args, D.arg, callO, bi, bi1, bi2, mx, mn, ab, D.item, items, dataD, tgLen, binop, cmpop, parS, slotD, lim, idxD, isTys, isTy, negD, Ev.bound, sliceD, D.seq, D.seqL, D.seqT, iterD, isOwn, wipeE_cons, wipeE_nil, mutable, mutS, mutate, hm, m1, atI_0, storeAt, L2.ixN]
theorem cells_loop (F : Fn) (w : Nat) (st : Store) (d0 : D) (xs : List Int) (hl : xs.length ≤ 63) (c : Int) : ∃ c' y3 y4 y5, forL (forT T0 F w (.tp (.cons (.nm 3) (.cons (.nm 4) .nil))) cellsB) (enumD 0 (xs.map .int)) [some d0, some (.int 1), some (.own [.int c]), none, none, none] st =
    .ok .nx [some d0, some (.int 1), some (.own [.int c']), y3, y4, y5] st := by
  obtain ⟨en', st', e, ⟨c', y3, y4, y5, h1⟩, h2⟩ := forL_R (turn := forT T0 F w (.tp (.cons (.nm 3) (.cons (.nm 4) .nil))) cellsB) (fun _ en s => (∃ c y3 y4 y5, en = [some d0, some (.int 1), some (.own [.int c]), y3, y4, y5]) ∧ s = st) (enumD 0 (xs.map .int)) [] _ _
    (fun p d q en s hp ⟨⟨c, y3, y4, y5, he⟩, hs⟩ => by
      subst he hs
      obtain ⟨k, x, rfl, hk⟩ := enumD_mem xs 0 d (by
        have hp : enumD 0 (xs.map D.int) = p ++ d :: q := by simpa using hp
        rw [hp]; simp)
      exact ⟨_, _, .inl (cells_turn F w s d0 c x k y3 y4 y5 (by omega)), ⟨_, _, _, _, rfl⟩, rfl⟩)
    ⟨⟨c, none, none, none, rfl⟩, rfl⟩
  subst h1 h2
  exact ⟨c', y3, y4, y5, e⟩
theorem cut_1_63 (xs : List D) : cut xs (some 1) (some 63) = (xs.drop (min 1 xs.length)).take (min 63 xs.length - min 1 xs.length) := by
  unfold cut
  have h1 : HT.sIx xs.length 0 (some 1) = min 1 xs.length := HT.sIx_nat _ _ 1
  have h2 : HT.sIx xs.length xs.length (some 63) = min 63 xs.length := HT.sIx_nat _ _ 63
  rw [h1, h2]
theorem m_cells (w k : Nat) (st : Store) (ns : List Int) : ∃ c : Int, CF w (k + 1) 33 [.frz (ns.map .int), .int 1] st = .ok (.lst [.int c]) st := by
  rw [CF]
  obtain ⟨xs, hxs, hxl⟩ : ∃ xs : List Int, cut (ns.map D.int) (some 1) (some 63) = xs.map D.int ∧ xs.length ≤ 63 := by
    refine ⟨(ns.drop (min 1 ns.length)).take (min 63 ns.length - min 1 ns.length), ?_, ?_⟩
    · rw [cut_1_63]; simp [List.map_take, List.map_drop]
    · simp only [List.length_take]; omega
  have hc1 : cut (ns.map D.int) none (some 1) = (ns.take 1).map D.int := cut_ti ns 1
  have hb : b__law_cells = (.seq (.par [2] (.cons (.orL (.bi .toLst (.cons (.slice (.pk 0) .no (.var 1)) .nil)) (.lst (.cons (.lit (.int (0))) .nil))) .nil)) (.seq (.for (.tp (.cons (.nm 3) (.cons (.nm 4) .nil))) (.enum (.cons (.slice (.pk 0) (.var 1) (.lit (.int (63)))) .nil)) cellsB) (.seq (.ret (.var 2)) .skip))) := rfl
  generalize callF T0 PT w k = F at *
  cases ns with
  | nil =>
    obtain ⟨c', y3, y4, y5, e⟩ := cells_loop (callF T0 PT w k) w st (.frz []) xs hxl 0
    refine ⟨c', ?_⟩
    rw [callF_def p__law_cells rfl, hb]
    generalize cellsB = B at *
    simp only [List.map_nil] at hxs hc1 ⊢
    simp [peekV, readV, refV, res, finF, retD, args, D.arg, callO, bi, bi1, bi2, mx, mn, ab, D.item, items, dataD, tgLen, binop, cmpop, parS, slotD, lim, idxD, isTys, isTy, negD, Ev.bound, sliceD, D.seq, D.seqL, D.seqT, iterD, isOwn, wipeE_cons, wipeE_nil, mutable, mutS, mutate, hc1, hxs, e, enumL]
  | cons a t =>
    obtain ⟨c', y3, y4, y5, e⟩ := cells_loop (callF T0 PT w k) w st (.frz ((a :: t).map .int)) xs hxl a
    refine ⟨c', ?_⟩
    rw [callF_def p__law_cells rfl, hb]
    generalize cellsB = B at *
    have ht : ((a :: t).take 1).map D.int = [.int a] := rfl
    rw [ht] at hc1
    generalize (a :: t).map D.int = L at *
    simp [peekV, readV, refV, res, finF, retD, args, D.arg, callO, bi, bi1, bi2, mx, mn, ab, D.item, items, dataD, tgLen, binop, cmpop, parS, slotD, lim, idxD, isTys, isTy, negD, Ev.bound, sliceD, D.seq, D.seqL, D.seqT, iterD, isOwn, wipeE_cons, wipeE_nil, mutable, mutS, mutate, hc1, hxs, e, enumL]
/-! the same -/
mutual
def plainD : D → Bool
  | .non => true | .bl _ => true | .int _ => true | .str _ => true
  | .tup xs => plains xs | .lst xs => plains xs
  | _ => false
def plains : List D → Bool
  | [] => true
  | d :: r => plainD d && plains r
end
mutual
def depD : D → Nat
  | .tup xs => deps xs + 1 | .lst xs => deps xs + 1
  | _ => 0
def deps : List D → Nat
  | [] => 0
  | d :: r => max (depD d) (deps r)
end
theorem plains_mem : ∀ (ds : List D), plains ds = true → ∀ d ∈ ds, plainD d = true
  | [], _, d, h => (by cases h)
  | x :: r, hp, d, h => by
    simp only [plains, Bool.and_eq_true] at hp
    rcases List.mem_cons.mp h with rfl | h
    · exact hp.1
    · exact plains_mem r hp.2 d h
theorem deps_mem : ∀ (ds : List D), ∀ d ∈ ds, depD d ≤ deps ds
  | [], d, h => (by cases h)
  | x :: r, d, h => by
    simp only [deps]
    rcases List.mem_cons.mp h with rfl | h
    · omega
    · have := deps_mem r d h; omega
theorem zipD_same : ∀ xs : List D, zipD xs xs = xs.map fun x => .tup [x, x]
  | [] => rfl
  | x :: r => by simp [zipD, zipD_same r]
theorem dataD_plain {d : D} (h : plainD d = true) : dataD d = some d ∧ d.arg = some d ∧ (∀ xs, d ≠ .own xs) ∧ (∀ n, d ≠ .cell n) ∧ (∀ n, d ≠ .pk n) := by
  cases d <;> first | (simp [plainD] at h; done) | simp [dataD, D.arg]
theorem same_comp (F : Fn) (g : Nat) (st : Store) (a b : D) (xs : List D) (hab : (a = .lst xs ∧ b = .lst xs) ∨ (a = .tup xs ∧ b = .tup xs)) (hp : plains xs = true) (hF : ∀ x ∈ xs, F g [x, x] st = .ok (.bl true) st) :
    evalE T0 F (.comp [2, 3] (.tp (.cons (.nm 2) (.cons (.nm 3) .nil))) (.zip (.cons (.var 0) (.cons (.var 1) .nil))) (.lit (.bl true)) (.call g (.cons (.var 2) (.cons (.var 3) .nil)))) [some a, some b, none, none] st = .ok (.own ((xs.map fun _ => true).map .bl)) [some a, some b, none, none] st := by
  rw [comp_map (d := .tup (zipD xs xs)) xs (fun x => .tup [x, x]) (fun _ => .bl true)]
  · simp
  · rcases hab with ⟨rfl, rfl⟩ | ⟨rfl, rfl⟩ <;> simp [peekV, readV, refV, res, finF, retD, args, D.arg, callO, bi, bi1, bi2, mx, mn, ab, D.item, items, dataD, tgLen, binop, cmpop, parS, slotD, lim, idxD, isTys, isTy, negD, Ev.bound, sliceD, D.seq, D.seqL, D.seqT, iterD, isOwn, wipeE_cons, wipeE_nil, mutable, mutS, mutate, zipL]
  · simp [peekV, readV, refV, res, finF, retD, args, D.arg, callO, bi, bi1, bi2, mx, mn, ab, D.item, items, dataD, tgLen, binop, cmpop, parS, slotD, lim, idxD, isTys, isTy, negD, Ev.bound, sliceD, D.seq, D.seqL, D.seqT, iterD, isOwn, wipeE_cons, wipeE_nil, mutable, mutS, mutate, zipD_same]
  · simp [peekV, readV, refV, res, finF, retD, args, D.arg, callO, bi, bi1, bi2, mx, mn, ab, D.item, items, dataD, tgLen, binop, cmpop, parS, slotD, lim, idxD, isTys, isTy, negD, Ev.bound, sliceD, D.seq, D.seqL, D.seqT, iterD, isOwn, wipeE_cons, wipeE_nil, mutable, mutS, mutate]
  · intro x hx acc
    obtain ⟨h1, h2, h3, h4, h5⟩ := dataD_plain (plains_mem xs hp x hx)
    have hf := hF x hx
    have hr : ∀ en : Ev.Env, getS en 2 = some x → readV 2 en st = .ok x en st := fun en he => by
      unfold readV; rw [he]
      cases x <;> first | rfl | exact absurd rfl (h3 _) | exact absurd rfl (h4 _)
    have hr3 : ∀ en : Ev.Env, getS en 3 = some x → readV 3 en st = .ok x en st := fun en he => by
      unfold readV; rw [he]
      cases x <;> first | rfl | exact absurd rfl (h3 _) | exact absurd rfl (h4 _)
    have e2 := hr [some a, some b, some x, some x] (by simp)
    have e3 := hr3 [some a, some b, some x, some x] (by simp)
    simp [cmpT, h1, h2, hf, e2, e3, tgLen, args, callO, wipeE_cons, wipeE_nil, D.item]
end Mr

end
section
set_option Elab.async false
set_option linter.all false
set_option maxRecDepth 100000
set_option maxHeartbeats 1000000
/-! M3d: the same; walks of the law's own. -/
namespace Mr
open Ev Mh
def sameC (g : Nat) : E := (.comp [2, 3] (.tp (.cons (.nm 2) (.cons (.nm 3) .nil))) (.zip (.cons (.var 0) (.cons (.var 1) .nil))) (.lit (.bl true)) (.call g (.cons (.var 2) (.cons (.var 3) .nil))))
theorem same_seq (F : Fn) (w : Nat) (st : Store) (a : D) (xs : List D) (ha : a = .lst xs ∨ a = .tup xs) (e : evalE T0 F (sameC 35) [some a, some a, none, none] st = .ok (.own ((xs.map fun _ => true).map .bl)) [some a, some a, none, none] st) :
    finF st (evalS T0 F w b__law_same [some a, some a, none, none] st) = .ok (.bl true) st := by
  have hall : (xs.map fun _ => true).all id = true := by simp
  generalize (xs.map fun (_ : D) => true) = ys at *
  unfold sameC at e
  rcases ha with rfl | rfl <;> simp [b__law_same, peekV, readV, refV, res, finF, retD, args, D.arg, callO, bi, bi1, bi2, mx, mn, ab, D.item, items, dataD, tgLen, binop, cmpop, parS, slotD, lim, idxD, isTys, isTy, negD, Ev.bound, sliceD, D.seq, D.seqL, D.seqT, iterD, isOwn, wipeE_cons, wipeE_nil, mutable, mutS, mutate, eqS_bl', eqS_int', e, hall]
theorem same_flat (F : Fn) (w : Nat) (st : Store) (a : D) (ha : a = .non ∨ (∃ b, a = .bl b) ∨ (∃ i, a = .int i) ∨ ∃ x, a = .str x) : finF st (evalS T0 F w b__law_same [some a, some a, none, none] st) = .ok (.bl true) st := by
  have h1 : eqD .non .non = some true := rfl
  have h2 : ∀ x y : PySem.Str, eqD (.str x) (.str y) = some (decide (x = y)) := fun _ _ => rfl
  rcases ha with rfl | ⟨b, rfl⟩ | ⟨i, rfl⟩ | ⟨x, rfl⟩ <;> simp [b__law_same, peekV, readV, refV, res, finF, retD, args, D.arg, callO, bi, bi1, bi2, mx, mn, ab, D.item, items, dataD, tgLen, binop, cmpop, parS, slotD, lim, idxD, isTys, isTy, negD, Ev.bound, sliceD, D.seq, D.seqL, D.seqT, iterD, isOwn, wipeE_cons, wipeE_nil, mutable, mutS, mutate, eqS_bl', eqS_int', isN, h1, h2]
theorem m_same (w : Nat) (st : Store) : ∀ (k : Nat) (d : D), plainD d = true → depD d ≤ k → CF w (k + 1) 35 [d, d] st = .ok (.bl true) st
  | k, d, hp, hk => by
    rw [CF, callF_def p__law_same rfl]
    have hseq : ∀ xs, (d = .lst xs ∨ d = .tup xs) → plains xs = true → deps xs + 1 ≤ k → finF st (evalS T0 (callF T0 PT w k) w b__law_same [some d, some d, none, none] st) = .ok (.bl true) st := fun xs hd hps hks => by
      obtain ⟨k', rfl⟩ : ∃ k', k = k' + 1 := ⟨k - 1, by omega⟩
      refine same_seq _ w st d xs hd ?_
      refine same_comp _ 35 st d d xs ?_ hps fun x hx => ?_
      · rcases hd with rfl | rfl
        · exact .inl ⟨rfl, rfl⟩
        · exact .inr ⟨rfl, rfl⟩
      · exact m_same w st k' x (plains_mem xs hps x hx) (by have := deps_mem xs x hx; omega)
    cases d with
    | non => exact same_flat _ w st _ (.inl rfl)
    | bl b => exact same_flat _ w st _ (.inr (.inl ⟨b, rfl⟩))
    | int i => exact same_flat _ w st _ (.inr (.inr (.inl ⟨i, rfl⟩)))
    | str x => exact same_flat _ w st _ (.inr (.inr (.inr ⟨x, rfl⟩)))
    | tup xs => exact hseq xs (.inr rfl) hp hk
    | lst xs => exact hseq xs (.inl rfl) hp hk
    | _ => cases hp
theorem m_law_walk (w k : Nat) (st : Store) (rs : List Int) (b x : Int) (hl : rs.length ≤ 100000) : CF w (k + 1) 39 [ti rs, .int b, .int x] st = .ok (.lst ((walkL b rs x).map trD)) st := by
  rw [CF, callF_def p__law_walk rfl]
  obtain ⟨y', e⟩ := forL_P (turn := forT T0 (callF T0 PT w k) w (.nm 3) (.seq (.par [6] (.cons (.bin .add (.pk 4) (.pk 3)) .nil)) (.seq (.par [4] (.cons (.bi .min2 (.cons (.pk 1) (.cons (.bi .max2 (.cons (.lit (.int (0))) (.cons (.pk 6) .nil))) .nil))) .nil)) (.seq (.mut .append 5 (.cons (.tup (.cons (.var 4) (.cons (.bi .max2 (.cons (.lit (.int (0))) (.cons (.bin .sub (.lit (.int (0))) (.pk 6)) .nil))) (.cons (.bi .max2 (.cons (.lit (.int (0))) (.cons (.bin .sub (.pk 6) (.pk 1)) .nil))) .nil)))) .nil)) .skip)))) D.int
    (fun p (y : Option D × Option D) => [some (ti rs), some (.int b), some (.int x), y.1, some (.int (lev b p x)), some (.own ((walkL b p x).map trD)), y.2]) st rs (none, none) (fun p a q y hp => by
      refine ⟨(some (.int a), some (.int (lev b p x + a))), ?_⟩
      have hlen : (walkL b p x).length < 16777216 := by rw [walkL_len]; rw [hp] at hl; simp at hl; omega
      simp [forT, peekV, readV, refV, res, finF, retD, args, D.arg, callO, bi, bi1, bi2, mx, mn, ab, D.item, items, dataD, tgLen, binop, cmpop, parS, slotD, lim, idxD, isTys, isTy, negD, Ev.bound, sliceD, D.seq, D.seqL, D.seqT, iterD, isOwn, wipeE_cons, wipeE_nil, mutable, mutS, mutate, walkL_app, walkL, lev_app, lev, hlen, trD, cl])
  simp only [walkL, lev, List.map_nil] at e
  generalize callF T0 PT w k = F at *
  simp [b__law_walk, peekV, readV, refV, res, finF, retD, args, D.arg, callO, bi, bi1, bi2, mx, mn, ab, D.item, items, dataD, tgLen, binop, cmpop, parS, slotD, lim, idxD, isTys, isTy, negD, Ev.bound, sliceD, D.seq, D.seqL, D.seqT, iterD, isOwn, wipeE_cons, wipeE_nil, mutable, mutS, mutate, e]
/-- a year's end: level, bought, spilled -/
def endT (b : Int) (rs : List Int) (x : Int) : Int × Int × Int := (lev b rs x, buy b rs x, spl b rs x)
theorem beh_body (F : Fn) (w g : Nat) (st : Store) (rs : List Int) (b x : Int) (h0 : rs ≠ []) (hF : F g [ti rs, .int b, .int x] st = .ok (.lst ((walkL b rs x).map trD)) st) :
    finF st (evalS T0 F w (.seq (.par [3] (.cons (.call g (.cons (.var 0) (.cons (.var 1) (.cons (.var 2) .nil)))) .nil)) (.seq (.ret (.tup (.cons (.idx (.idx (.pk 3) (.neg (.lit (.int (1))))) (.lit (.int (0)))) (.cons (.bi .sum (.cons (.comp [4] (.nm 4) (.var 3) (.lit (.bl true)) (.idx (.pk 4) (.lit (.int (1))))) .nil)) (.cons (.bi .sum (.cons (.comp [4] (.nm 4) (.var 3) (.lit (.bl true)) (.idx (.pk 4) (.lit (.int (2))))) .nil)) .nil))))) .skip)) [some (ti rs), some (.int b), some (.int x), none, none] st) = .ok (trD (endT b rs x)) st := by
  obtain ⟨t, e1, e2⟩ := walkL_last b rs x h0
  have c1 : evalE T0 F (.comp [4] (.nm 4) (.var 3) (.lit (.bl true)) (.idx (.pk 4) (.lit (.int (1))))) [some (ti rs), some (.int b), some (.int x), some (.lst ((walkL b rs x).map trD)), none] st = .ok (.own (((walkL b rs x).map (·.2.1)).map .int)) [some (ti rs), some (.int b), some (.int x), some (.lst ((walkL b rs x).map trD)), none] st := by
    rw [comp_map (d := .lst ((walkL b rs x).map trD)) (walkL b rs x) trD (fun t => .int t.2.1)]
    · simp
    · simp [peekV, readV, refV, res, finF, retD, args, D.arg, callO, bi, bi1, bi2, mx, mn, ab, D.item, items, dataD, tgLen, binop, cmpop, parS, slotD, lim, idxD, isTys, isTy, negD, Ev.bound, sliceD, D.seq, D.seqL, D.seqT, iterD, isOwn, wipeE_cons, wipeE_nil, mutable, mutS, mutate]
    · simp [peekV, readV, refV, res, finF, retD, args, D.arg, callO, bi, bi1, bi2, mx, mn, ab, D.item, items, dataD, tgLen, binop, cmpop, parS, slotD, lim, idxD, isTys, isTy, negD, Ev.bound, sliceD, D.seq, D.seqL, D.seqT, iterD, isOwn, wipeE_cons, wipeE_nil, mutable, mutS, mutate]
    · simp [peekV, readV, refV, res, finF, retD, args, D.arg, callO, bi, bi1, bi2, mx, mn, ab, D.item, items, dataD, tgLen, binop, cmpop, parS, slotD, lim, idxD, isTys, isTy, negD, Ev.bound, sliceD, D.seq, D.seqL, D.seqT, iterD, isOwn, wipeE_cons, wipeE_nil, mutable, mutS, mutate]
    · intro a _ acc
      simp [cmpT, peekV, readV, refV, res, finF, retD, args, D.arg, callO, bi, bi1, bi2, mx, mn, ab, D.item, items, dataD, tgLen, binop, cmpop, parS, slotD, lim, idxD, isTys, isTy, negD, Ev.bound, sliceD, D.seq, D.seqL, D.seqT, iterD, isOwn, wipeE_cons, wipeE_nil, mutable, mutS, mutate, trD, atI_1]
  have c2 : evalE T0 F (.comp [4] (.nm 4) (.var 3) (.lit (.bl true)) (.idx (.pk 4) (.lit (.int (2))))) [some (ti rs), some (.int b), some (.int x), some (.lst ((walkL b rs x).map trD)), none] st = .ok (.own (((walkL b rs x).map (·.2.2)).map .int)) [some (ti rs), some (.int b), some (.int x), some (.lst ((walkL b rs x).map trD)), none] st := by
    rw [comp_map (d := .lst ((walkL b rs x).map trD)) (walkL b rs x) trD (fun t => .int t.2.2)]
    · simp
    · simp [peekV, readV, refV, res, finF, retD, args, D.arg, callO, bi, bi1, bi2, mx, mn, ab, D.item, items, dataD, tgLen, binop, cmpop, parS, slotD, lim, idxD, isTys, isTy, negD, Ev.bound, sliceD, D.seq, D.seqL, D.seqT, iterD, isOwn, wipeE_cons, wipeE_nil, mutable, mutS, mutate]
    · simp [peekV, readV, refV, res, finF, retD, args, D.arg, callO, bi, bi1, bi2, mx, mn, ab, D.item, items, dataD, tgLen, binop, cmpop, parS, slotD, lim, idxD, isTys, isTy, negD, Ev.bound, sliceD, D.seq, D.seqL, D.seqT, iterD, isOwn, wipeE_cons, wipeE_nil, mutable, mutS, mutate]
    · simp [peekV, readV, refV, res, finF, retD, args, D.arg, callO, bi, bi1, bi2, mx, mn, ab, D.item, items, dataD, tgLen, binop, cmpop, parS, slotD, lim, idxD, isTys, isTy, negD, Ev.bound, sliceD, D.seq, D.seqL, D.seqT, iterD, isOwn, wipeE_cons, wipeE_nil, mutable, mutS, mutate]
    · intro a _ acc
      simp [cmpT, peekV, readV, refV, res, finF, retD, args, D.arg, callO, bi, bi1, bi2, mx, mn, ab, D.item, items, dataD, tgLen, binop, cmpop, parS, slotD, lim, idxD, isTys, isTy, negD, Ev.bound, sliceD, D.seq, D.seqL, D.seqT, iterD, isOwn, wipeE_cons, wipeE_nil, mutable, mutS, mutate, trD, atI_2]
  have s1 := walkL_buy b rs x
  have s2 := walkL_spl b rs x
  have e3 : L2.atI ((walkL b rs x).map trD) (-1) = some (trD t) := by rw [atI_m1, List.getLast?_map, e1]; rfl
  generalize (walkL b rs x).map (·.2.1) = L1 at *
  generalize (walkL b rs x).map (·.2.2) = L2 at *
  generalize (walkL b rs x).map trD = L3 at *
  generalize (E.comp [4] (.nm 4) (.var 3) (.lit (.bl true)) (.idx (.pk 4) (.lit (.int (1))))) = q1 at *
  generalize (E.comp [4] (.nm 4) (.var 3) (.lit (.bl true)) (.idx (.pk 4) (.lit (.int (2))))) = q2 at *
  simp [peekV, readV, refV, res, finF, retD, args, D.arg, callO, bi, bi1, bi2, mx, mn, ab, D.item, items, dataD, tgLen, binop, cmpop, parS, slotD, lim, idxD, isTys, isTy, negD, Ev.bound, sliceD, D.seq, D.seqL, D.seqT, iterD, isOwn, wipeE_cons, wipeE_nil, mutable, mutS, mutate, hF, c1, c2, e3, trD, atI_0, endT, e2, s1, s2]
theorem m_behind (w k : Nat) (st : Store) (rs : List Int) (b x : Int) (hl : rs.length ≤ 100000) (h0 : rs ≠ []) : CF w (k + 2) 40 [ti rs, .int b, .int x] st = .ok (trD (endT b rs x)) st := by
  rw [CF, callF_def p__law_behind rfl]
  exact beh_body _ w 39 st rs b x h0 (m_law_walk w k st rs b x hl)
end Mr

end
section
set_option Elab.async false
set_option linter.all false
set_option maxRecDepth 100000
set_option maxHeartbeats 1000000
/-! M3e: the long run, parts by the law. -/
namespace Mr
open Ev Mh
def longB (g : Nat) : S := (.seq (.asg (.tp (.cons (.nm 4) (.cons (.nm 5) (.cons (.nm 6) .nil)))) (.call g (.cons (.var 0) (.cons (.var 1) (.cons (.var 2) .nil))))) (.seq (.ite (.cmp .eq (.pk 4) (.pk 2)) (.seq (.ret (.tup (.cons (.var 5) (.cons (.var 6) .nil)))) .skip) .skip) (.seq (.par [2] (.cons (.var 4) .nil)) .skip)))
theorem long_turn (F : Fn) (w g : Nat) (st : Store) (rs : List Int) (b x k : Int) (y3 y4 y5 y6 : Option D) (hF : F g [ti rs, .int b, .int x] st = .ok (trD (endT b rs x)) st) :
    forT T0 F w (.nm 3) (longB g) (.int k) [some (ti rs), some (.int b), some (.int x), y3, y4, y5, y6] st =
      if lev b rs x = x then .ok (.rt (ti [buy b rs x, spl b rs x])) [some (ti rs), some (.int b), some (.int x), some (.int k), some (.int (lev b rs x)), some (.int (buy b rs x)), some (.int (spl b rs x))] st
      else .ok .nx [some (ti rs), some (.int b), some (.int (lev b rs x)), some (.int k), some (.int (lev b rs x)), some (.int (buy b rs x)), some (.int (spl b rs x))] st := by
  simp only [endT, trD] at hF
  by_cases c : lev b rs x = x
  · have c' := eq_true c
    simp [forT, longB, peekV, readV, refV, res, finF, retD, args, D.arg, callO, bi, bi1, bi2, mx, mn, ab, D.item, items, dataD, tgLen, binop, cmpop, parS, slotD, lim, idxD, isTys, isTy, negD, Ev.bound, sliceD, D.seq, D.seqL, D.seqT, iterD, isOwn, wipeE_cons, wipeE_nil, mutable, mutS, mutate, hF, eqS_int', c']
  · simp [forT, longB, peekV, readV, refV, res, finF, retD, args, D.arg, callO, bi, bi1, bi2, mx, mn, ab, D.item, items, dataD, tgLen, binop, cmpop, parS, slotD, lim, idxD, isTys, isTy, negD, Ev.bound, sliceD, D.seq, D.seqL, D.seqT, iterD, isOwn, wipeE_cons, wipeE_nil, mutable, mutS, mutate, hF, eqS_int', c]
theorem long_loop (F : Fn) (w g : Nat) (st : Store) (rs : List Int) (b : Int) (hF : ∀ x : Int, F g [ti rs, .int b, .int x] st = .ok (trD (endT b rs x)) st) : ∀ (ks : List Int) (x v1 v2 : Int) (y3 y4 y5 y6 : Option D), seek b rs ks.length x = some (v1, v2) →
    ∃ en, forL (forT T0 F w (.nm 3) (longB g)) (ks.map .int) [some (ti rs), some (.int b), some (.int x), y3, y4, y5, y6] st = .ok (.rt (ti [v1, v2])) en st
  | [], x, v1, v2, y3, y4, y5, y6, h => by simp [seek] at h
  | k :: ks, x, v1, v2, y3, y4, y5, y6, h => by
    have ht := long_turn F w g st rs b x k y3 y4 y5 y6 (hF x)
    by_cases c : lev b rs x = x
    · rw [if_pos c] at ht
      simp only [List.length_cons, seek, if_pos c] at h
      cases h
      refine ⟨[some (ti rs), some (.int b), some (.int x), some (.int k), some (.int (lev b rs x)), some (.int (buy b rs x)), some (.int (spl b rs x))], ?_⟩
      show (forT T0 F w (.nm 3) (longB g) (.int k) _ st).bind _ = _
      rw [ht]; rfl
    · rw [if_neg c] at ht
      simp only [List.length_cons, seek, if_neg c] at h
      obtain ⟨en, e⟩ := long_loop F w g st rs b hF ks (lev b rs x) v1 v2 (some (.int k)) (some (.int (lev b rs x))) (some (.int (buy b rs x))) (some (.int (spl b rs x))) h
      refine ⟨en, ?_⟩
      show (forT T0 F w (.nm 3) (longB g) (.int k) _ st).bind _ = _
      rw [ht, ob_ok]; exact e
theorem long_body (F : Fn) (w g : Nat) (st : Store) (rs : List Int) (b v1 v2 : Int) (ks : List Int) (en : Ev.Env) (hr : rngL [.int (b + 2)] = some (.tup (ks.map .int))) (e : forL (forT T0 F w (.nm 3) (longB g)) (ks.map .int) [some (ti rs), some (.int b), some (.int 0), none, none, none, none] st = .ok (.rt (ti [v1, v2])) en st) :
    finF st (evalS T0 F w (.seq (.par [2] (.cons (.lit (.int (0))) .nil)) (.seq (.for (.nm 3) (.rng (.cons (.bin .add (.pk 1) (.lit (.int (2)))) .nil)) (longB g)) (.seq (.ret (.lit .non)) .skip))) [some (ti rs), some (.int b), none, none, none, none, none] st) = .ok (ti [v1, v2]) st := by
  generalize longB g = B at *
  simp only [ti, List.map_cons, List.map_nil] at e ⊢
  generalize ks.map D.int = KS at *
  simp [peekV, readV, refV, res, finF, retD, args, D.arg, callO, bi, bi1, bi2, mx, mn, ab, D.item, items, dataD, tgLen, binop, cmpop, parS, slotD, lim, idxD, isTys, isTy, negD, Ev.bound, sliceD, D.seq, D.seqL, D.seqT, iterD, isOwn, wipeE_cons, wipeE_nil, mutable, mutS, mutate, hr, e]
theorem rng_ints (n : Nat) (h : n ≤ 1000000) (i : Int) (hi : i = n) : rngL [.int i] = some (.tup (((List.range n).map fun (k : Nat) => (k : Int)).map .int)) := by
  subst hi
  show chk (rngOk (n : Int) && decide ((n : Int).toNat ≤ Ev.lim)) (D.tup (Ev.rng 0 (n : Int).toNat 1)) = _
  rw [rngOk_nat h, Int.toNat_natCast, decide_eq_true (show n ≤ Ev.lim by unfold Ev.lim; omega), rng_map]
  simp
theorem m_long (w k : Nat) (st : Store) (rs : List Int) (b : Int) (hl : rs.length ≤ 100000) (h0 : rs ≠ []) (hn : ∀ r ∈ rs, r ≠ 0) (hb : 0 ≤ b) (hB : b ≤ 100000) : CF w (k + 3) 41 [ti rs, .int b] st = .ok (ti [max 0 (-rs.sum) + exc b (swO rs), max 0 rs.sum + exc b (swO rs)]) st := by
  rw [CF, callF_def p__law_long rfl]
  have hN : (b + 2 : Int) = ((b + 2).toNat : Int) := by omega
  have hs := seek_long (b := b) hb h0 hn (n := (b + 2).toNat) (by omega)
  have hr := rng_ints (b + 2).toNat (by omega) (b + 2) hN
  obtain ⟨en, e⟩ := long_loop (callF T0 PT w (k + 2)) w 40 st rs b (fun x => m_behind w k st rs b x hl h0) ((List.range (b + 2).toNat).map fun (k : Nat) => (k : Int)) 0 _ _ none none none none (by rw [List.length_map, List.length_range]; exact hs)
  exact long_body _ w 40 st rs b _ _ _ en hr e
theorem sort3 (a x c : Int) (h : a ≤ c) : (Ev.sortI [a, x, c])[1]? = some (mid a x c) := by
  have hp : (Ev.sortI [a, x, c]).Perm [a, x, c] := List.mergeSort_perm _ _
  have hs : (Ev.sortI [a, x, c]).Pairwise (fun a b => decide (a ≤ b) = true) := List.pairwise_mergeSort (fun a b c h1 h2 => by simp only [decide_eq_true_eq] at *; omega) (fun a b => by simp only [Bool.or_eq_true, decide_eq_true_eq]; omega) _
  generalize Ev.sortI [a, x, c] = L at *
  match L, hp.length_eq with
  | [p, q, r], _ =>
    have h1 : p ≤ q ∧ p ≤ r ∧ q ≤ r := by
      simp only [List.pairwise_cons, List.mem_cons, List.not_mem_nil, or_false, decide_eq_true_eq, forall_eq_or_imp, forall_eq, List.Pairwise.nil, and_true, false_imp_iff, implies_true] at hs
      omega
    have s1 := Mh.sum_perm hp
    have hc : ∀ z : Int, [p, q, r].count z = [a, x, c].count z := fun z => hp.count_eq z
    have ma : a ∈ [p, q, r] := hp.symm.subset (by simp)
    have mx : x ∈ [p, q, r] := hp.symm.subset (by simp)
    have mc : c ∈ [p, q, r] := hp.symm.subset (by simp)
    have mp : p ∈ [a, x, c] := hp.subset (by simp)
    have mq : q ∈ [a, x, c] := hp.subset (by simp)
    have mr : r ∈ [a, x, c] := hp.subset (by simp)
    simp only [List.mem_cons, List.not_mem_nil, or_false, List.sum_cons, List.sum_nil] at *
    show some q = some (mid a x c)
    congr 1
    unfold mid
    omega
theorem pw_body (F : Fn) (w : Nat) (st : Store) (b x : Int) (p : P5) (h : p.n ≤ p.r) : finF st (evalS T0 F w b__law_part_walk [some (pD p), some (.int b), some (.int x), none, none, none, none, none, none] st) = .ok (trD (p.lv x, p.by x, p.sp x)) st := by
  have hs := sort3 p.n x p.r h
  have ha : ∀ L : List Int, L[1]? = some (mid p.n x p.r) → L2.atI (L.map D.int) 1 = some (.int (mid p.n x p.r)) := fun L hL => by rw [atI_1, List.getElem?_map, hL]; rfl
  have ha := ha _ hs
  have hi : asInts [D.int p.n, D.int x, D.int p.r] = some [p.n, x, p.r] := rfl
  simp [b__law_part_walk, peekV, readV, refV, res, finF, retD, args, D.arg, callO, bi, bi1, bi2, mx, mn, ab, D.item, items, dataD, tgLen, binop, cmpop, parS, slotD, lim, idxD, isTys, isTy, negD, Ev.bound, sliceD, D.seq, D.seqL, D.seqT, iterD, isOwn, wipeE_cons, wipeE_nil, mutable, mutS, mutate, pD, hi, ha, trD, P5.lv, P5.by, P5.sp]
theorem m_part_walk (w k : Nat) (st : Store) (b x : Int) (p : P5) (h : p.n ≤ p.r) : CF w (k + 1) 42 [pD p, .int b, .int x] st = .ok (trD (p.lv x, p.by x, p.sp x)) st := by
  rw [CF, callF_def p__law_part_walk rfl]
  exact pw_body _ w st b x p h
theorem rw_comp (F : Fn) (st : Store) (ts : List (Int × Int × Int)) (e0 e1 e2 : Option D) (i : Nat) (c : Int × Int × Int → Int) (hi : (i = 5 ∧ ∀ t, c t = t.2.1) ∨ (i = 6 ∧ ∀ t, c t = t.2.2)) : evalE T0 F (.comp [4, 5, 6] (.tp (.cons (.nm 4) (.cons (.nm 5) (.cons (.nm 6) .nil)))) (.var 3) (.lit (.bl true)) (.var i)) [e0, e1, e2, some (.lst (ts.map trD)), none, none, none] st = .ok (.own ((ts.map c).map .int)) [e0, e1, e2, some (.lst (ts.map trD)), none, none, none] st := by
  rw [comp_map (d := .lst (ts.map trD)) ts trD (fun t => .int (c t))]
  · simp
  · simp [peekV, readV, refV, res, finF, retD, args, D.arg, callO, bi, bi1, bi2, mx, mn, ab, D.item, items, dataD, tgLen, binop, cmpop, parS, slotD, lim, idxD, isTys, isTy, negD, Ev.bound, sliceD, D.seq, D.seqL, D.seqT, iterD, isOwn, wipeE_cons, wipeE_nil, mutable, mutS, mutate]
  · simp [peekV, readV, refV, res, finF, retD, args, D.arg, callO, bi, bi1, bi2, mx, mn, ab, D.item, items, dataD, tgLen, binop, cmpop, parS, slotD, lim, idxD, isTys, isTy, negD, Ev.bound, sliceD, D.seq, D.seqL, D.seqT, iterD, isOwn, wipeE_cons, wipeE_nil, mutable, mutS, mutate]
  · simp [peekV, readV, refV, res, finF, retD, args, D.arg, callO, bi, bi1, bi2, mx, mn, ab, D.item, items, dataD, tgLen, binop, cmpop, parS, slotD, lim, idxD, isTys, isTy, negD, Ev.bound, sliceD, D.seq, D.seqL, D.seqT, iterD, isOwn, wipeE_cons, wipeE_nil, mutable, mutS, mutate]
  · intro a _ acc
    rcases hi with ⟨rfl, h⟩ | ⟨rfl, h⟩ <;> simp [cmpT, peekV, readV, refV, res, finF, retD, args, D.arg, callO, bi, bi1, bi2, mx, mn, ab, D.item, items, dataD, tgLen, binop, cmpop, parS, slotD, lim, idxD, isTys, isTy, negD, Ev.bound, sliceD, D.seq, D.seqL, D.seqT, iterD, isOwn, wipeE_cons, wipeE_nil, mutable, mutS, mutate, trD, h]
/-! equality of plain data -/
mutual
def intsD : D → Bool
  | .non => true | .bl _ => true | .int _ => true
  | .tup xs => intss xs | .lst xs => intss xs
  | _ => false
def intss : List D → Bool
  | [] => true
  | d :: r => intsD d && intss r
end
mutual
theorem py_of : ∀ d : D, intsD d = true → ∃ p, d.py = some p ∧ p.canLay0 = true ∧ p.depth = depD d
  | .non, _ => ⟨_, rfl, rfl, rfl⟩
  | .bl _, _ => ⟨_, rfl, rfl, rfl⟩
  | .int _, _ => ⟨_, rfl, rfl, rfl⟩
  | .tup xs, h => by
    obtain ⟨ps, h1, h2, h3⟩ := pys_of xs h
    exact ⟨.tuple ps, by simp [D.py, h1], h2, by simp [PySem.PyData.depth, depD, h3]⟩
  | .lst xs, h => by
    obtain ⟨ps, h1, h2, h3⟩ := pys_of xs h
    exact ⟨.list ps, by simp [D.py, h1], h2, by simp [PySem.PyData.depth, depD, h3]⟩
  | .str _, h => by cases h
  | .own _, h => by cases h
  | .pk _, h => by cases h
  | .frz _, h => by cases h
  | .cell _, h => by cases h
  | .ins _ _, h => by cases h
theorem pys_of : ∀ ds : List D, intss ds = true → ∃ ps, pys ds = some ps ∧ PySem.PyData.canLayAll0 ps = true ∧ PySem.PyData.depthAll ps = deps ds
  | [], _ => ⟨[], rfl, rfl, rfl⟩
  | d :: r, h => by
    simp only [intss, Bool.and_eq_true] at h
    obtain ⟨p, h1, h2, h3⟩ := py_of d h.1
    obtain ⟨ps, k1, k2, k3⟩ := pys_of r h.2
    exact ⟨p :: ps, by simp [pys, h1, k1], by simp [PySem.PyData.canLayAll0, h2, k2], by simp [PySem.PyData.depthAll, deps, h3, k3]⟩
end
theorem shaped_of {p : PySem.PyData} (h : p.canLay0 = true) (hd : p.depth ≤ 64) : PySem.SeqAt.shaped p = true := by
  show (p.canLay0 && decide (p.depth ≤ 64)) = true
  rw [h, decide_eq_true hd]; rfl
theorem eqD_refl {d : D} (h : intsD d = true) (hd : depD d ≤ 60) : eqD d d = some true := by
  have key : eqS d d = none → eqD d d = some true := fun e => by
    obtain ⟨p, h1, h2, h3⟩ := py_of d h
    have hs := shaped_of h2 (by omega)
    unfold eqD
    rw [e]
    simp only [h1, hs, Bool.and_self, PySem.SeqAt.eqv_refl p h2]
    rfl
  cases d with
  | non => rfl
  | bl b => simp [eqD, eqS]
  | int i => simp [eqD, eqS]
  | tup xs => exact key rfl
  | lst xs => exact key rfl
  | _ => cases h
theorem eqD_nil {xs : List D} (h : intss xs = true) (hd : deps xs ≤ 60) : eqD (.lst xs) (.own []) = some xs.isEmpty ∧ eqD (.tup xs) (.tup []) = some xs.isEmpty ∧ eqD (.lst xs) (.lst []) = some xs.isEmpty ∧ eqD (.own xs) (.own []) = some xs.isEmpty := by
  obtain ⟨ps, h1, h2, h3⟩ := pys_of xs h
  have s1 : PySem.SeqAt.shaped (.list ps) = true := shaped_of h2 (by simp only [PySem.PyData.depth]; omega)
  have s2 : PySem.SeqAt.shaped (.tuple ps) = true := shaped_of h2 (by simp only [PySem.PyData.depth]; omega)
  have s3 : PySem.SeqAt.shaped (.list []) = true := shaped_of rfl (by decide)
  have s4 : PySem.SeqAt.shaped (.tuple []) = true := shaped_of rfl (by decide)
  have he : PySem.PyData.eqvAll ps [] = xs.isEmpty := by
    cases xs with
    | nil => cases h1; rfl
    | cons x r =>
      have : ps ≠ [] := by
        intro z
        subst z
        simp only [pys] at h1
        split at h1
        · cases h1
        · cases h1
      cases ps with
      | nil => exact absurd rfl this
      | cons p q => rfl
  refine ⟨?_, ?_, ?_, ?_⟩
  · simp [eqD, eqS, D.py, h1, pys, s1, s3, PySem.PyData.eqv, he]
  · simp [eqD, eqS, D.py, h1, pys, s2, s4, PySem.PyData.eqv, he]
  · simp [eqD, eqS, D.py, h1, pys, s1, s3, PySem.PyData.eqv, he]
  · simp [eqD, eqS, D.py, h1, pys, s1, s3, PySem.PyData.eqv, he]
theorem intss_tr (ts : List (Int × Int × Int)) : intss (ts.map trD) = true ∧ deps (ts.map trD) ≤ 1 := by
  induction ts with
  | nil => exact ⟨rfl, by simp [deps]⟩
  | cons t r ih => exact ⟨by simp [intss, intsD, trD, ih.1], by have := ih.2; simp only [List.map_cons, deps, trD, depD]; omega⟩
theorem intss_int (ts : List Int) : intss (ts.map D.int) = true ∧ deps (ts.map D.int) = 0 := by
  induction ts with
  | nil => exact ⟨rfl, by simp [deps]⟩
  | cons t r ih => exact ⟨by simp [intss, intsD, ih.1], by simp [deps, depD, ih.2]⟩
theorem row_walk_body (F : Fn) (w g : Nat) (st : Store) (rs : List Int) (b x : Int) (hF : F g [ti rs, .int b, .int x] st = .ok (.lst ((walkL b rs x).map trD)) st) (hb : b__law_row_walk = b__law_row_walk) :
    finF st (evalS T0 F w (.seq (.par [3] (.cons (.call g (.cons (.var 0) (.cons (.var 1) (.cons (.var 2) .nil)))) .nil)) (.seq (.ret (.tup (.cons (.ite (.cmp .ne (.pk 3) (.lst .nil)) (.idx (.idx (.pk 3) (.neg (.lit (.int (1))))) (.lit (.int (0)))) (.var 2)) (.cons (.bi .sum (.cons (.comp [4, 5, 6] (.tp (.cons (.nm 4) (.cons (.nm 5) (.cons (.nm 6) .nil)))) (.var 3) (.lit (.bl true)) (.var 5)) .nil)) (.cons (.bi .sum (.cons (.comp [4, 5, 6] (.tp (.cons (.nm 4) (.cons (.nm 5) (.cons (.nm 6) .nil)))) (.var 3) (.lit (.bl true)) (.var 6)) .nil)) .nil))))) .skip)) [some (ti rs), some (.int b), some (.int x), none, none, none, none] st) = .ok (trD (endT b rs x)) st := by
  have c1 := rw_comp F st (walkL b rs x) (some (ti rs)) (some (.int b)) (some (.int x)) 5 (·.2.1) (.inl ⟨rfl, fun _ => rfl⟩)
  have c2 := rw_comp F st (walkL b rs x) (some (ti rs)) (some (.int b)) (some (.int x)) 6 (·.2.2) (.inr ⟨rfl, fun _ => rfl⟩)
  have he := (eqD_nil (intss_tr (walkL b rs x)).1 (Nat.le_trans (intss_tr (walkL b rs x)).2 (by omega))).1
  have s1 := walkL_buy b rs x
  have s2 := walkL_spl b rs x
  by_cases h0 : rs = []
  · subst h0
    simp only [walkL, List.map_nil] at *
    generalize (E.comp [4, 5, 6] (.tp (.cons (.nm 4) (.cons (.nm 5) (.cons (.nm 6) .nil)))) (.var 3) (.lit (.bl true)) (.var 5)) = q1 at *
    generalize (E.comp [4, 5, 6] (.tp (.cons (.nm 4) (.cons (.nm 5) (.cons (.nm 6) .nil)))) (.var 3) (.lit (.bl true)) (.var 6)) = q2 at *
    simp [peekV, readV, refV, res, finF, retD, args, D.arg, callO, bi, bi1, bi2, mx, mn, ab, D.item, items, dataD, tgLen, binop, cmpop, parS, slotD, lim, idxD, isTys, isTy, negD, Ev.bound, sliceD, D.seq, D.seqL, D.seqT, iterD, isOwn, wipeE_cons, wipeE_nil, mutable, mutS, mutate, hF, c1, c2, he, trD, endT, lev, buy, spl, asInts]
  · obtain ⟨t, e1, e2⟩ := walkL_last b rs x h0
    have e3 : L2.atI ((walkL b rs x).map trD) (-1) = some (trD t) := by rw [atI_m1, List.getLast?_map, e1]; rfl
    have hne : ((walkL b rs x).map trD).isEmpty = false := by
      rw [List.isEmpty_eq_false_iff]
      intro z
      have := congrArg List.length z
      rw [List.length_map, walkL_len] at this
      exact h0 (List.length_eq_zero_iff.mp this)
    rw [hne] at he
    generalize (walkL b rs x).map (·.2.1) = L1 at *
    generalize (walkL b rs x).map (·.2.2) = L2 at *
    generalize (walkL b rs x).map trD = L3 at *
    generalize (E.comp [4, 5, 6] (.tp (.cons (.nm 4) (.cons (.nm 5) (.cons (.nm 6) .nil)))) (.var 3) (.lit (.bl true)) (.var 5)) = q1 at *
    generalize (E.comp [4, 5, 6] (.tp (.cons (.nm 4) (.cons (.nm 5) (.cons (.nm 6) .nil)))) (.var 3) (.lit (.bl true)) (.var 6)) = q2 at *
    simp [peekV, readV, refV, res, finF, retD, args, D.arg, callO, bi, bi1, bi2, mx, mn, ab, D.item, items, dataD, tgLen, binop, cmpop, parS, slotD, lim, idxD, isTys, isTy, negD, Ev.bound, sliceD, D.seq, D.seqL, D.seqT, iterD, isOwn, wipeE_cons, wipeE_nil, mutable, mutS, mutate, hF, c1, c2, he, e3, trD, atI_0, endT, e2, s1, s2]
theorem m_row_walk (w k : Nat) (st : Store) (rs : List Int) (b x : Int) (hl : rs.length ≤ 100000) : CF w (k + 2) 43 [ti rs, .int b, .int x] st = .ok (trD (endT b rs x)) st := by
  rw [CF, callF_def p__law_row_walk rfl]
  exact row_walk_body _ w 39 st rs b x (m_law_walk w k st rs b x hl) rfl
theorem m_law_is_part (w k : Nat) (st : Store) (b : Int) (p : P5) : CF w (k + 1) 44 [.int b, pD p] st = .ok (.bl (okB b p)) st := by
  rw [CF, callF_def p__law_is_part rfl]
  have hi : asInts [D.int p.n, D.int p.r, D.int p.l, D.int p.m, D.int p.o] = some [p.n, p.r, p.l, p.m, p.o] := rfl
  have hm : Ev.listMin [p.n, p.r, p.l, p.m, p.o] = some (min (min (min (min p.n p.r) p.l) p.m) p.o) := rfl
  have h1 : okB b p = (decide (0 ≤ min (min (min (min p.n p.r) p.l) p.m) p.o) && (decide (p.n ≤ p.r) && decide (p.r ≤ b) && (decide (p.l + p.r - p.n ≤ b) && (decide (p.n = p.r) || decide (p.m = 0) && decide (p.o = 0))))) := by
    have h2 : (0 ≤ min (min (min (min p.n p.r) p.l) p.m) p.o) ↔ (0 ≤ p.n ∧ 0 ≤ p.r ∧ 0 ≤ p.l ∧ 0 ≤ p.m ∧ 0 ≤ p.o) := by omega
    have h3 : decide (0 ≤ min (min (min (min p.n p.r) p.l) p.m) p.o) = (decide (0 ≤ p.n) && decide (0 ≤ p.r) && decide (0 ≤ p.l) && decide (0 ≤ p.m) && decide (0 ≤ p.o)) := by
      rw [Bool.eq_iff_iff]
      simp only [Bool.and_eq_true, decide_eq_true_eq, h2, and_assoc]
    rw [h3]; unfold okB; simp only [Bool.and_assoc]
  rw [h1]
  generalize min (min (min (min p.n p.r) p.l) p.m) p.o = mm at *
  generalize callF T0 PT w k = F
  by_cases c0 : 0 ≤ mm
  · by_cases c1 : p.n ≤ p.r
    · by_cases c2 : p.r ≤ b
      · by_cases c3 : p.l + p.r - p.n ≤ b
        · by_cases c4 : p.n = p.r
          · have c4 := eq_true c4
            simp [b__law_is_part, peekV, readV, refV, res, finF, retD, args, D.arg, callO, bi, bi1, bi2, mx, mn, ab, D.item, items, dataD, tgLen, binop, cmpop, parS, slotD, lim, idxD, isTys, isTy, negD, Ev.bound, sliceD, D.seq, D.seqL, D.seqT, iterD, isOwn, wipeE_cons, wipeE_nil, mutable, mutS, mutate, pD, hi, hm, c0, c1, c2, c3, c4, eqS_int']
          · by_cases c5 : p.m = 0
            · have c5 := eq_true c5
              simp [b__law_is_part, peekV, readV, refV, res, finF, retD, args, D.arg, callO, bi, bi1, bi2, mx, mn, ab, D.item, items, dataD, tgLen, binop, cmpop, parS, slotD, lim, idxD, isTys, isTy, negD, Ev.bound, sliceD, D.seq, D.seqL, D.seqT, iterD, isOwn, wipeE_cons, wipeE_nil, mutable, mutS, mutate, pD, hi, hm, c0, c1, c2, c3, c4, c5, eqS_int']
            · simp [b__law_is_part, peekV, readV, refV, res, finF, retD, args, D.arg, callO, bi, bi1, bi2, mx, mn, ab, D.item, items, dataD, tgLen, binop, cmpop, parS, slotD, lim, idxD, isTys, isTy, negD, Ev.bound, sliceD, D.seq, D.seqL, D.seqT, iterD, isOwn, wipeE_cons, wipeE_nil, mutable, mutS, mutate, pD, hi, hm, c0, c1, c2, c3, c4, c5, eqS_int']
        · simp [b__law_is_part, peekV, readV, refV, res, finF, retD, args, D.arg, callO, bi, bi1, bi2, mx, mn, ab, D.item, items, dataD, tgLen, binop, cmpop, parS, slotD, lim, idxD, isTys, isTy, negD, Ev.bound, sliceD, D.seq, D.seqL, D.seqT, iterD, isOwn, wipeE_cons, wipeE_nil, mutable, mutS, mutate, pD, hi, hm, c0, c1, c2, c3]
      · simp [b__law_is_part, peekV, readV, refV, res, finF, retD, args, D.arg, callO, bi, bi1, bi2, mx, mn, ab, D.item, items, dataD, tgLen, binop, cmpop, parS, slotD, lim, idxD, isTys, isTy, negD, Ev.bound, sliceD, D.seq, D.seqL, D.seqT, iterD, isOwn, wipeE_cons, wipeE_nil, mutable, mutS, mutate, pD, hi, hm, c0, c1, c2]
    · simp [b__law_is_part, peekV, readV, refV, res, finF, retD, args, D.arg, callO, bi, bi1, bi2, mx, mn, ab, D.item, items, dataD, tgLen, binop, cmpop, parS, slotD, lim, idxD, isTys, isTy, negD, Ev.bound, sliceD, D.seq, D.seqL, D.seqT, iterD, isOwn, wipeE_cons, wipeE_nil, mutable, mutS, mutate, pD, hi, hm, c0, c1]
  · simp [b__law_is_part, peekV, readV, refV, res, finF, retD, args, D.arg, callO, bi, bi1, bi2, mx, mn, ab, D.item, items, dataD, tgLen, binop, cmpop, parS, slotD, lim, idxD, isTys, isTy, negD, Ev.bound, sliceD, D.seq, D.seqL, D.seqT, iterD, isOwn, wipeE_cons, wipeE_nil, mutable, mutS, mutate, pD, hi, hm, c0]
end Mr

end
section
set_option Elab.async false
set_option linter.all false
set_option maxRecDepth 100000
set_option maxHeartbeats 1000000
/-! K0: comprehensions over ranges, in any environment. -/
namespace Mr
open Ev Mh
theorem comp_rng1 {F : Fn} {en : Ev.Env} {st : Store} {i n : Nat} {a e : E} (f : Nat → D) (N : Int) (hN : N = n) (hn : n ≤ 1000000) (ha : evalE T0 F a en st = .ok (.int N) en st) (hi : i < en.length) (how : isOwn en i = false)
    (he : ∀ k : Nat, k < n → ∃ y, evalE T0 F e (setS (wip en i) i (.int (k : Int))) st = .ok y (setS (wip en i) i (.int (k : Int))) st ∧ y.item = some (f k)) :
    evalE T0 F (.comp [i] (.nm i) (.rng (.cons a .nil)) (.lit (.bl true)) e) en st = .ok (.own ((List.range n).map f)) en st := by
  have hr := rng_ints n hn N hN
  rw [comp_map (d := .tup (((List.range n).map fun (k : Nat) => (k : Int)).map .int)) (List.range n) (fun (k : Nat) => .int (k : Int)) f]
  · simp [ha, hr]
  · simp [iterD, D.seq, D.seqL, D.seqT]
  · simp [how]
  · intro k hk acc
    obtain ⟨y, h1, h2⟩ := he k (List.mem_range.mp hk)
    simp [cmpT, dataD, wipeE_cons, wipeE_nil, hi, h1, h2, wip_setS, wip_wip]
theorem comp_rngF {F : Fn} {en : Ev.Env} {st : Store} {i n : Nat} {a c : E} (p : Nat → Bool) (N : Int) (hN : N = n) (hn : n ≤ 1000000) (ha : evalE T0 F a en st = .ok (.int N) en st) (hi : i < en.length) (how : isOwn en i = false)
    (hc : ∀ k : Nat, k < n → evalE T0 F c (setS (wip en i) i (.int (k : Int))) st = .ok (.bl (p k)) (setS (wip en i) i (.int (k : Int))) st) :
    evalE T0 F (.comp [i] (.nm i) (.rng (.cons a .nil)) c (.var i)) en st = .ok (.own ((((List.range n).filter p).map fun (k : Nat) => (k : Int)).map .int)) en st := by
  have hr := rng_ints n hn N hN
  rw [comp_pure (d := .tup (((List.range n).map fun (k : Nat) => (k : Int)).map .int)) (List.range n) (fun (k : Nat) => .int (k : Int)) (fun (k : Nat) => if p k then some (.int (k : Int)) else none)]
  · rw [fm_filter]; simp
  · simp [ha, hr]
  · simp [iterD, D.seq, D.seqL, D.seqT]
  · simp [how]
  · intro k hk acc
    have h1 := hc k (List.mem_range.mp hk)
    cases h : p k
    · rw [h] at h1
      simp [cmpT, dataD, wipeE_cons, wipeE_nil, hi, h1, wip_setS, wip_wip]
    · rw [h] at h1
      simp [cmpT, dataD, wipeE_cons, wipeE_nil, hi, h1, wip_setS, wip_wip, readV, get_eq, D.item]
theorem eqD_lo {xs : List D} (h : intss xs = true) (hd : deps xs ≤ 50) : eqD (.lst xs) (.own xs) = some true := by
  have := eqD_refl (d := .lst xs) h (by simp only [depD]; omega)
  have e1 : eqS (.lst xs) (.lst xs) = none := rfl
  have e2 : eqS (.lst xs) (.own xs) = none := rfl
  unfold eqD at this ⊢
  rw [e1] at this; rw [e2]
  exact this
theorem own_set_ne {en : Ev.Env} {i j : Nat} {d : D} (h : i ≠ j) : isOwn (setS en i d) j = isOwn en j := by unfold isOwn; rw [get_ne h]
theorem own_set_eq {en : Ev.Env} {i : Nat} {d : D} (h : i < en.length) : isOwn (setS en i d) i = (match d with
  | .own _ => true
  | _ => false) := by
  unfold isOwn; rw [get_eq h]; cases d <;> rfl
theorem intss_map {α : Type} (f : α → D) (n : Nat) (h : ∀ a, intsD (f a) = true ∧ depD (f a) ≤ n) : ∀ xs : List α, intss (xs.map f) = true ∧ deps (xs.map f) ≤ n
  | [] => ⟨rfl, by simp [deps]⟩
  | a :: r => by
    obtain ⟨h1, h2⟩ := intss_map f n h r
    obtain ⟨k1, k2⟩ := h a
    exact ⟨by simp [intss, h1, k1], by simp only [List.map_cons, deps]; omega⟩
mutual
theorem plain_ints : ∀ d : D, intsD d = true → plainD d = true
  | .non, _ => rfl
  | .bl _, _ => rfl
  | .int _, _ => rfl
  | .tup xs, h => plains_ints xs h
  | .lst xs, h => plains_ints xs h
  | .str _, h => by cases h
  | .own _, h => by cases h
  | .pk _, h => by cases h
  | .frz _, h => by cases h
  | .cell _, h => by cases h
  | .ins _ _, h => by cases h
theorem plains_ints : ∀ ds : List D, intss ds = true → plains ds = true
  | [], _ => rfl
  | d :: r, h => by
    simp only [intss, Bool.and_eq_true] at h
    simp only [plains, Bool.and_eq_true]
    exact ⟨plain_ints d h.1, plains_ints r h.2⟩
end
theorem trD_ints (t : Int × Int × Int) : intsD (trD t) = true ∧ depD (trD t) ≤ 1 := ⟨rfl, by simp [trD, depD, deps]⟩
end Mr

end
section
set_option Elab.async false
set_option linter.all false
set_option maxRecDepth 100000
set_option maxHeartbeats 4000000
/-! K1: law k77: the parts beside walks. -/
namespace Mr
open Ev Mh
/-- what stands in the names -/
structure KS (en : Ev.Env) (b : Int) (one other : List Int) : Prop where
  len : en.length = 36
  b0 : 0 ≤ b
  b6 : b ≤ 6
  n1 : Runs 5 4 one
  n2 : Runs 4 4 other
  g1 : getS en 1 = some (.cell 0)
  g15 : getS en 15 = some (.int b)
  g16 : getS en 16 = some (ti one)
  g17 : getS en 17 = some (ti other)
  g18 : getS en 18 = some (pD (partOf b one))
  g19 : getS en 19 = some (pD (partOf b other))
  o27 : isOwn en 27 = false
  o29 : isOwn en 29 = false
  o33 : isOwn en 33 = false
  o34 : isOwn en 34 = false
  o35 : isOwn en 35 = false
theorem range_map_congr {n : Nat} {f g : Nat → D} (h : ∀ k, k < n → f k = g k) : (List.range n).map f = (List.range n).map g :=
  List.map_congr_left fun k hk => h k (List.mem_range.mp hk)
/-- got: through -/
def gotL (b : Int) (p : P5) : List D := (List.range (b + 1).toNat).map fun (x : Nat) => trD (p.lv (x : Int), p.by (x : Int), p.sp (x : Int))
def dueL (b : Int) (rs : List Int) : List D := (List.range (b + 1).toNat).map fun (x : Nat) => trD (endT b rs (x : Int))
theorem got_due {b : Int} (hb : 0 ≤ b) {p : P5} {rs : List Int} (h : Does b p rs) : gotL b p = dueL b rs := by
  refine range_map_congr fun k hk => ?_
  have hk2 : (0 : Int) ≤ k ∧ (k : Int) ≤ b := by omega
  rw [h.lv _ hk2, h.by_ _ hk2, h.sp _ hk2]; rfl
theorem due_ints (b : Int) (rs : List Int) : intss (dueL b rs) = true ∧ deps (dueL b rs) ≤ 1 := intss_map _ 1 (fun x => trD_ints _) _
section
variable {w k : Nat} {en : Ev.Env} {st : Store} {b : Int} {one other rs : List Int} {p : P5}
theorem k3_0 (h : KS en b one other) (g21 : getS en 21 = some (pD p)) : evalS T0 (CF w (k + 5)) w b_law_3b_0 en st = .ok .nx (setS en 3 (.own (gotL b p))) st := by
  have hN : b + 1 = ((b + 1).toNat : Int) := by have := h.b0; omega
  have hb6 := h.b6
  have hl := h.len
  have g15 := h.g15
  have e := comp_rng1 (F := CF w (k + 5)) (en := en) (st := st) (i := 27) (a := .bin .add (.pk 15) (.lit (.int (1)))) (e := .call 8 (.cons (.var 21) (.cons (.var 27) .nil))) (fun (x : Nat) => trD (p.lv (x : Int), p.by (x : Int), p.sp (x : Int))) (b + 1) hN (by omega) (by simp [peekV, readV, refV, res, finF, retD, args, D.arg, callO, bi, bi1, bi2, mx, mn, ab, D.item, items, dataD, tgLen, binop, cmpop, parS, slotD, lim, idxD, isTys, isTy, negD, Ev.bound, sliceD, D.seq, D.seqL, D.seqT, iterD, isOwn, wipeE_cons, wipeE_nil, mutable, mutS, mutate, g15]) (by omega) h.o27
    (fun x hx => by
      have m := m_through w (k + 3) st p (x : Int)
      simp only [pD] at m g21
      exact ⟨_, by simp [peekV, readV, refV, res, finF, retD, args, D.arg, callO, bi, bi1, bi2, mx, mn, ab, D.item, items, dataD, tgLen, binop, cmpop, parS, slotD, lim, idxD, isTys, isTy, negD, Ev.bound, sliceD, D.seq, D.seqL, D.seqT, iterD, isOwn, wipeE_cons, wipeE_nil, mutable, mutS, mutate, get_ne, get_eq, wip_ne, g21, hl, m]; rfl, rfl⟩)
  generalize CF w (k + 5) = F at *
  unfold gotL
  generalize (List.range (b + 1).toNat).map _ = L at *
  simp [b_law_3b_0, peekV, readV, refV, res, finF, retD, args, D.arg, callO, bi, bi1, bi2, mx, mn, ab, D.item, items, dataD, tgLen, binop, cmpop, parS, slotD, lim, idxD, isTys, isTy, negD, Ev.bound, sliceD, D.seq, D.seqL, D.seqT, iterD, isOwn, wipeE_cons, wipeE_nil, mutable, mutS, mutate, e, hl]
theorem k3_1 (h : KS en b one other) (g20 : getS en 20 = some (ti rs)) (hr : rs.length ≤ 1000) : evalS T0 (CF w (k + 5)) w b_law_3b_1 en st = .ok .nx (setS en 9 (.own (dueL b rs))) st := by
  have hN : b + 1 = ((b + 1).toNat : Int) := by have := h.b0; omega
  have hb6 := h.b6
  have hl := h.len
  have g15 := h.g15
  have e := comp_rng1 (F := CF w (k + 5)) (en := en) (st := st) (i := 27) (a := .bin .add (.pk 15) (.lit (.int (1)))) (e := .call 43 (.cons (.var 20) (.cons (.var 15) (.cons (.var 27) .nil)))) (fun (x : Nat) => trD (endT b rs (x : Int))) (b + 1) hN (by omega) (by simp [peekV, readV, refV, res, finF, retD, args, D.arg, callO, bi, bi1, bi2, mx, mn, ab, D.item, items, dataD, tgLen, binop, cmpop, parS, slotD, lim, idxD, isTys, isTy, negD, Ev.bound, sliceD, D.seq, D.seqL, D.seqT, iterD, isOwn, wipeE_cons, wipeE_nil, mutable, mutS, mutate, g15]) (by omega) h.o27
    (fun x hx => by
      have m := m_row_walk w (k + 3) st rs b (x : Int) (by omega)
      exact ⟨_, by simp [peekV, readV, refV, res, finF, retD, args, D.arg, callO, bi, bi1, bi2, mx, mn, ab, D.item, items, dataD, tgLen, binop, cmpop, parS, slotD, lim, idxD, isTys, isTy, negD, Ev.bound, sliceD, D.seq, D.seqL, D.seqT, iterD, isOwn, wipeE_cons, wipeE_nil, mutable, mutS, mutate, get_ne, get_eq, wip_ne, g20, g15, hl, m]; rfl, rfl⟩)
  generalize CF w (k + 5) = F at *
  unfold dueL
  generalize (List.range (b + 1).toNat).map _ = L at *
  simp [b_law_3b_1, peekV, readV, refV, res, finF, retD, args, D.arg, callO, bi, bi1, bi2, mx, mn, ab, D.item, items, dataD, tgLen, binop, cmpop, parS, slotD, lim, idxD, isTys, isTy, negD, Ev.bound, sliceD, D.seq, D.seqL, D.seqT, iterD, isOwn, wipeE_cons, wipeE_nil, mutable, mutS, mutate, e, hl]
theorem same_list (w k : Nat) (st : Store) {xs : List D} (h : intss xs = true) (hd : deps xs ≤ 3) : CF w (k + 5) 35 [.lst xs, .lst xs] st = .ok (.bl true) st :=
  m_same w st (k + 4) (.lst xs) (plains_ints xs h) (by simp only [depD]; omega)
theorem k3_2 (h : KS en b one other) (g20 : getS en 20 = some (ti rs)) (g21 : getS en 21 = some (pD p)) (hp : Does b p rs) (g3 : getS en 3 = some (.own (gotL b p))) (g9 : getS en 9 = some (.own (dueL b rs))) :
    evalS T0 (CF w (k + 5)) w b_law_3b_2 en st = .ok .nx (setS (setS en 3 (.lst (dueL b rs))) 9 (.lst (dueL b rs))) st := by
  have hl := h.len
  have g15 := h.g15
  have hok : okB b p = true := okB_iff.mpr hp.ok
  have m1 := m_is_part w (k + 2) st b p
  have m2 := m_is_part_l w (k + 2) st b [.int p.n, .int p.r, .int p.l, .int p.m, .int p.o]
  have m3 := m_law_is_part w (k + 4) st b p
  have hd := due_ints b rs
  have m4 := same_list w k st (xs := [.lst (dueL b rs), .bl true, .bl false]) (by simp [intss, intsD, hd.1]) (by simp only [deps, depD]; omega)
  rw [got_due h.b0 hp] at g3
  rw [hok] at m1 m3
  simp only [pD] at m1 m3 g21
  generalize dueL b rs = L at *
  generalize CF w (k + 5) = F at *
  simp [b_law_3b_2, peekV, readV, refV, res, finF, retD, args, D.arg, callO, bi, bi1, bi2, mx, mn, ab, D.item, items, dataD, tgLen, binop, cmpop, parS, slotD, lim, idxD, isTys, isTy, negD, Ev.bound, sliceD, D.seq, D.seqL, D.seqT, iterD, isOwn, wipeE_cons, wipeE_nil, mutable, mutS, mutate, get_ne, get_eq, g3, g9, g15, g21, hl, m1, m2, m3, m4]
theorem k3_3 (h : KS en b one other) (g20 : getS en 20 = some (ti rs)) (g21 : getS en 21 = some (pD p)) (hp : Does b p rs) (g9 : getS en 9 = some (.lst (dueL b rs))) :
    evalS T0 (CF w (k + 5)) w b_law_3b_3 en st = .ok .nx en st := by
  have hN : b + 1 = ((b + 1).toNat : Int) := by have := h.b0; omega
  have hb6 := h.b6
  have hl := h.len
  have g15 := h.g15
  have hpo : partOf b rs = p := (Does.partOf h.b0 rs).uniq h.b0 hp
  have m1 := m_part_of w (k + 2) st _ rs b .t
  rw [hpo] at m1
  have hd := due_ints b rs
  have e1 := eqD_lo hd.1 (by omega)
  have e2 := eqD_refl (d := pD p) rfl (by simp [pD, depD, deps])
  have e := comp_rng1 (F := CF w (k + 5)) (en := en) (st := st) (i := 27) (a := .bin .add (.pk 15) (.lit (.int (1)))) (e := .call 42 (.cons (.var 21) (.cons (.var 15) (.cons (.var 27) .nil)))) (fun (x : Nat) => trD (p.lv (x : Int), p.by (x : Int), p.sp (x : Int))) (b + 1) hN (by omega) (by simp [peekV, readV, refV, res, finF, retD, args, D.arg, callO, bi, bi1, bi2, mx, mn, ab, D.item, items, dataD, tgLen, binop, cmpop, parS, slotD, lim, idxD, isTys, isTy, negD, Ev.bound, sliceD, D.seq, D.seqL, D.seqT, iterD, isOwn, wipeE_cons, wipeE_nil, mutable, mutS, mutate, g15]) (by omega) h.o27
    (fun x hx => by
      have m := m_part_walk w (k + 4) st b (x : Int) p hp.ok.nr
      simp only [pD] at m g21
      exact ⟨_, by simp [peekV, readV, refV, res, finF, retD, args, D.arg, callO, bi, bi1, bi2, mx, mn, ab, D.item, items, dataD, tgLen, binop, cmpop, parS, slotD, lim, idxD, isTys, isTy, negD, Ev.bound, sliceD, D.seq, D.seqL, D.seqT, iterD, isOwn, wipeE_cons, wipeE_nil, mutable, mutS, mutate, get_ne, get_eq, wip_ne, g21, g15, hl, m]; rfl, rfl⟩)
  have hgd := got_due h.b0 hp
  unfold gotL at hgd
  rw [hgd] at e
  simp only [pD] at m1 g21 e2
  generalize dueL b rs = L at *
  generalize CF w (k + 5) = F at *
  simp [b_law_3b_3, peekV, readV, refV, res, finF, retD, args, D.arg, callO, bi, bi1, bi2, mx, mn, ab, D.item, items, dataD, tgLen, binop, cmpop, parS, slotD, lim, idxD, isTys, isTy, negD, Ev.bound, sliceD, D.seq, D.seqL, D.seqT, iterD, isOwn, wipeE_cons, wipeE_nil, mutable, mutS, mutate, get_ne, get_eq, g9, g15, g20, g21, hl, m1, e, e1, e2]
end
end Mr

end
section
set_option Elab.async false
set_option linter.all false
set_option maxRecDepth 100000
set_option maxHeartbeats 4000000
/-! K2: law k77: the four rows. -/
namespace Mr
open Ev Mh
theorem KS.set {en : Ev.Env} {b : Int} {one other : List Int} (h : KS en b one other) {i : Nat} {d : D} (hi : [1, 15, 16, 17, 18, 19, 27, 29, 33, 34, 35].contains i = false) : KS (setS en i d) b one other := by
  have hn : ∀ j, [1, 15, 16, 17, 18, 19, 27, 29, 33, 34, 35].contains j = true → i ≠ j := fun j hj z => by rw [z, hj] at hi; cases hi
  refine ⟨by rw [lenS]; exact h.len, h.b0, h.b6, h.n1, h.n2, ?_, ?_, ?_, ?_, ?_, ?_, ?_, ?_, ?_, ?_, ?_⟩
  · rw [get_ne (hn 1 rfl)]; exact h.g1
  · rw [get_ne (hn 15 rfl)]; exact h.g15
  · rw [get_ne (hn 16 rfl)]; exact h.g16
  · rw [get_ne (hn 17 rfl)]; exact h.g17
  · rw [get_ne (hn 18 rfl)]; exact h.g18
  · rw [get_ne (hn 19 rfl)]; exact h.g19
  · rw [own_set_ne (hn 27 rfl)]; exact h.o27
  · rw [own_set_ne (hn 29 rfl)]; exact h.o29
  · rw [own_set_ne (hn 33 rfl)]; exact h.o33
  · rw [own_set_ne (hn 34 rfl)]; exact h.o34
  · rw [own_set_ne (hn 35 rfl)]; exact h.o35
section
variable {w k : Nat} {en : Ev.Env} {st : Store} {b : Int} {one other rs : List Int} {p : P5}
theorem k3_turn (h : KS en b one other) (hr : rs.length ≤ 1000) (hp : Does b p rs) : ∃ en', forT T0 (CF w (k + 5)) w (.tp (.cons (.nm 20) (.cons (.nm 21) .nil))) b_law_3b (.tup [ti rs, pD p]) en st = .ok .nx en' st ∧ KS en' b one other := by
  have hl := h.len
  have h1 : KS (setS (setS en 20 (ti rs)) 21 (pD p)) b one other := (h.set rfl).set rfl
  have ea : assignT T0 (CF w (k + 5)) (.tp (.cons (.nm 20) (.cons (.nm 21) .nil))) (.tup [ti rs, pD p]) en st = .ok () (setS (setS en 20 (ti rs)) 21 (pD p)) st := by
    generalize CF w (k + 5) = F at *
    simp [peekV, readV, refV, res, finF, retD, args, D.arg, callO, bi, bi1, bi2, mx, mn, ab, D.item, items, dataD, tgLen, binop, cmpop, parS, slotD, lim, idxD, isTys, isTy, negD, Ev.bound, sliceD, D.seq, D.seqL, D.seqT, iterD, isOwn, wipeE_cons, wipeE_nil, mutable, mutS, mutate, pD, hl]
  have g20 : getS (setS (setS en 20 (ti rs)) 21 (pD p)) 20 = some (ti rs) := by rw [get_ne (by decide), get_eq (by omega)]
  have g21 : getS (setS (setS en 20 (ti rs)) 21 (pD p)) 21 = some (pD p) := by rw [get_eq (by rw [lenS]; omega)]
  generalize setS (setS en 20 (ti rs)) 21 (pD p) = e1 at *
  have s0 := k3_0 (w := w) (k := k) (st := st) h1 g21
  have h2 : KS (setS e1 3 (.own (gotL b p))) b one other := h1.set rfl
  have s1 := k3_1 (w := w) (k := k) (st := st) h2 (by rw [get_ne (by decide)]; exact g20) hr
  have h3 : KS (setS (setS e1 3 (.own (gotL b p))) 9 (.own (dueL b rs))) b one other := h2.set rfl
  have s2 := k3_2 (w := w) (k := k) (st := st) h3 (by rw [get_ne (by decide), get_ne (by decide)]; exact g20) (by rw [get_ne (by decide), get_ne (by decide)]; exact g21) hp (by rw [get_ne (by decide), get_eq (by rw [h1.len]; omega)]) (by rw [get_eq (by rw [h2.len]; omega)])
  have h4 : KS (setS (setS (setS (setS e1 3 (.own (gotL b p))) 9 (.own (dueL b rs))) 3 (.lst (dueL b rs))) 9 (.lst (dueL b rs))) b one other := (h3.set rfl).set rfl
  have s3 := k3_3 (w := w) (k := k) (st := st) h4 (by rw [get_ne (by decide), get_ne (by decide), get_ne (by decide), get_ne (by decide)]; exact g20) (by rw [get_ne (by decide), get_ne (by decide), get_ne (by decide), get_ne (by decide)]; exact g21) hp (by rw [get_eq (by rw [lenS, h3.len]; omega)])
  refine ⟨_, ?_, h4⟩
  simp only [forT, ea, ob_ok, b_law_3b, xs_seq, s0, s1, s2, s3, xs_skip]
/-- some rows, one behind another -/
theorem k3_for : ∀ (ps : List (List Int × P5)) (en : Ev.Env), KS en b one other → (∀ q ∈ ps, q.1.length ≤ 1000 ∧ Does b q.2 q.1) → ∃ en', forL (forT T0 (CF w (k + 5)) w (.tp (.cons (.nm 20) (.cons (.nm 21) .nil))) b_law_3b) (ps.map fun q => .tup [ti q.1, pD q.2]) en st = .ok .nx en' st ∧ KS en' b one other
  | [], en, h, _ => ⟨en, rfl, h⟩
  | q :: ps, en, h, hq => by
    obtain ⟨e1, h1, h2⟩ := k3_turn (w := w) (k := k) (st := st) h (hq q List.mem_cons_self).1 (hq q List.mem_cons_self).2
    obtain ⟨e2, h3, h4⟩ := k3_for ps e1 h2 fun q' hq' => hq q' (List.mem_cons_of_mem _ hq')
    refine ⟨e2, ?_, h4⟩
    show (forT T0 (CF w (k + 5)) w (.tp (.cons (.nm 20) (.cons (.nm 21) .nil))) b_law_3b (.tup [ti q.1, pD q.2]) en st).bind _ = _
    rw [h1, ob_ok]; exact h3
theorem lists_pD (p : P5) (d : D) (h : d = .own ([p.n, p.r, p.l, p.m, p.o].map .int) ∨ d = ti [p.n, p.r, p.l, p.m, p.o]) : d.arg = some (li [p.n, p.r, p.l, p.m, p.o]) ∨ d.arg = some (pD p) := by
  rcases h with rfl | rfl
  · exact .inl rfl
  · exact .inr rfl
theorem k3_all {n : Nat} (h : KS en b one other) (hu : Urn n st) (hn : n ≤ 1000) (hw : 100 < w) : ∃ en' st', evalS T0 (CF w (k + 5)) w b_law_3 en st = .ok .nx en' st' ∧ KS en' b one other ∧ Urn (n + 1) st' := by
  have h0 := h.b0
  have D1 := Does.partOf h0 one
  have D2 := Does.partOf h0 other
  have D3 := D1.thn h0 D2
  obtain ⟨q, hq, D4⟩ := tms_does h0 D1 (n := 2) (k := 3) (by omega) (by omega)
  have hl1 := h.n1.len
  have hl2 := h.n2.len
  obtain ⟨d, st', hd, u, ms⟩ := m_soft (w := w) (k := k + 2) (xs := [(partOf b other).n, (partOf b other).r, (partOf b other).l, (partOf b other).m, (partOf b other).o]) hu (by omega)
  have mt := m_times w (k + 2) st' (partOf b one) 3 2 (by omega) (by omega)
  rw [hq] at mt
  have mt : CF w (k + 5) 6 [pD (partOf b one), .int 3] st' = .ok (fD (some q)) st' := mt
  have hrep : rep 3 one = one ++ (one ++ (one ++ [])) := rfl
  obtain ⟨en', e1, h1⟩ := k3_for (w := w) (k := k) (st := st') (b := b) (one := one) (other := other) [(one, partOf b one), (other, partOf b other), (one ++ other, thn (partOf b one) (partOf b other)), (rep 3 one, q)] en h
    (fun z hz => by
      simp only [List.mem_cons, List.not_mem_nil, or_false] at hz
      rcases hz with rfl | rfl | rfl | rfl
      · exact ⟨by show one.length ≤ _; omega, D1⟩
      · exact ⟨by show other.length ≤ _; omega, D2⟩
      · exact ⟨by show (one ++ other).length ≤ _; simp; omega, D3⟩
      · exact ⟨by show (rep 3 one).length ≤ _; rw [hrep]; simp; omega, D4⟩)
  refine ⟨en', st', ?_, h1, u⟩
  have m1a := m_then w (k + 3) st' _ (pD (partOf b other)) (partOf b one) (partOf b other) (.inl rfl) (.inl rfl)
  have m1b := m_then w (k + 3) st' _ (li [(partOf b other).n, (partOf b other).r, (partOf b other).l, (partOf b other).m, (partOf b other).o]) (partOf b one) (partOf b other) (.inl rfl) (.inr rfl)
  have g1 := h.g1
  have g16 := h.g16
  have g17 := h.g17
  have g18 := h.g18
  have g19 := h.g19
  have hl := h.len
  have hu1 := hu.len
  have hlen1 : (one.map D.int).length + (other.map D.int).length ≤ 16777216 := by simp; omega
  have hlen3 : (one.map D.int).length ≤ 1000 := by simp; omega
  have hmul : (List.replicate (3 : Int).toNat (one.map D.int)).flatten = (rep 3 one).map D.int := by simp [rep, List.map_flatten]
  have hadd : one.map D.int ++ other.map D.int = (one ++ other).map D.int := by simp
  have hmulD : mulL (.tup (one.map D.int)) 3 = some (.tup ((rep 3 one).map D.int)) := by
    show chk (decide (-1000 ≤ (3 : Int)) && decide ((3 : Int) ≤ 1000) && decide ((one.map D.int).length ≤ 1000)) (D.tup (List.replicate (3 : Int).toNat (one.map D.int)).flatten) = _
    rw [hmul, decide_eq_true hlen3]; rfl
  clear hmul hrep D1 D2 D3 D4 hq h1 hw hl1 hl2
  simp only [List.map_cons, List.map_nil, ti] at e1
  simp only [ti, li, pD, List.map_cons, List.map_nil, fD] at *
  have hb : b_law_3 = .for (.tp (.cons (.nm 20) (.cons (.nm 21) .nil))) (.tup (.cons (.tup (.cons (.var 16) (.cons (.var 18) .nil))) (.cons (.tup (.cons (.var 17) (.cons (.var 19) .nil))) (.cons (.tup (.cons (.bin .add (.pk 16) (.pk 17)) (.cons (.call 4 (.cons (.var 18) (.cons (.call 37 (.cons (.ref 1) (.cons (.var 19) .nil))) .nil))) .nil))) (.cons (.tup (.cons (.bin .mul (.pk 16) (.lit (.int (3)))) (.cons (.call 6 (.cons (.var 18) (.cons (.lit (.int (3))) .nil))) .nil))) .nil))))) b_law_3b := rfl
  rw [hb]
  generalize b_law_3b = B at *
  generalize CF w (k + 5) = F at *
  generalize (rep 3 one).map D.int = R3 at *
  generalize (one ++ other).map D.int = R2 at *
  generalize one.map D.int = R1 at *
  generalize other.map D.int = R0 at *
  rcases hd with rfl | rfl
  · simp [peekV, readV, refV, res, finF, retD, args, D.arg, callO, bi, bi1, bi2, mx, mn, ab, D.item, items, dataD, tgLen, binop, cmpop, parS, slotD, lim, idxD, isTys, isTy, negD, Ev.bound, sliceD, D.seq, D.seqL, D.seqT, iterD, isOwn, wipeE_cons, wipeE_nil, mutable, mutS, mutate, g1, g16, g17, g18, g19, ms, m1b, mt, hlen1, hadd, hmulD, e1]
  · simp [peekV, readV, refV, res, finF, retD, args, D.arg, callO, bi, bi1, bi2, mx, mn, ab, D.item, items, dataD, tgLen, binop, cmpop, parS, slotD, lim, idxD, isTys, isTy, negD, Ev.bound, sliceD, D.seq, D.seqL, D.seqT, iterD, isOwn, wipeE_cons, wipeE_nil, mutable, mutS, mutate, g1, g16, g17, g18, g19, ms, m1a, mt, hlen1, hadd, hmulD, e1]
end
end Mr

end
section
set_option linter.all false
set_option maxHeartbeats 1000000
/-! Mth4: a row with a part. -/
namespace Mr
open Mh
theorem filt {b : Int} (hb : 0 ≤ b) : ∀ (rs : List Int) (x : Int), 0 ≤ x → x ≤ b → lev b (rs.filter fun r => decide (r ≠ 0)) x = lev b rs x ∧ buy b (rs.filter fun r => decide (r ≠ 0)) x = buy b rs x ∧ spl b (rs.filter fun r => decide (r ≠ 0)) x = spl b rs x
  | [], x, _, _ => ⟨rfl, rfl, rfl⟩
  | r :: rs, x, h0, h1 => by
    by_cases c : r = 0
    · subst c
      obtain ⟨i1, i2, i3⟩ := filt hb rs x h0 h1
      have e : cl b (x + 0) = x := by unfold cl; omega
      have ef : ((0 : Int) :: rs).filter (fun r => decide (r ≠ 0)) = rs.filter fun r => decide (r ≠ 0) := by simp
      rw [ef, i1, i2, i3]
      simp only [lev, buy, spl, e]
      refine ⟨trivial, ?_, ?_⟩ <;> omega
    · have hc := cl_in (b := b) (x := x + r) hb
      obtain ⟨i1, i2, i3⟩ := filt hb rs (cl b (x + r)) hc.1 hc.2
      have ef : (r :: rs).filter (fun r => decide (r ≠ 0)) = r :: rs.filter fun r => decide (r ≠ 0) := by simp [c]
      rw [ef]
      simp only [lev, buy, spl, i1, i2, i3, and_self]
theorem rowP_does {b : Int} {p : P5} (hb : 0 ≤ b) (h : p.Ok b) : Does b p (rowP b p) := by
  obtain ⟨a1, a2, a3, a4, a5, a6, a7, a8⟩ := id h
  refine ⟨h, fun x hx => ?_, fun x hx => ?_, fun x hx => ?_⟩
  all_goals
    unfold rowP
    by_cases c : p.n < p.r
    · rw [if_pos c]
      have e1 : cl b (x + -p.n) = max 0 (x - p.n) := by unfold cl; omega
      have e2 : cl b (max 0 (x - p.n) + (b - p.r + p.n)) = min b (max 0 (x - p.n) + (b - p.r + p.n)) := by unfold cl; omega
      have e3 : cl b (min b (max 0 (x - p.n) + (b - p.r + p.n)) + (p.l - (b - p.r + p.n))) = min b (max 0 (x - p.n) + (b - p.r + p.n)) + (p.l - (b - p.r + p.n)) := by unfold cl; omega
      simp only [lev, buy, spl, e1, e2, e3, P5.lv, P5.by, P5.sp, mid]
      omega
    · rw [if_neg c]
      have e1 : cl b (x + -p.n) = max 0 (x - p.n) := by unfold cl; omega
      by_cases c2 : 0 < p.m
      · rw [if_pos c2]
        have e2 : cl b (max 0 (x - p.n) + b) = b := by unfold cl; omega
        have e3 : cl b (b + (-b - p.m)) = 0 := by unfold cl; omega
        have e4 : cl b (0 + (b + p.o)) = b := by unfold cl; omega
        have e5 : cl b (b + (p.l - b)) = p.l := by unfold cl; omega
        simp only [lev, buy, spl, e1, e2, e3, e4, e5, P5.lv, P5.by, P5.sp, mid]
        omega
      · rw [if_neg c2]
        have e2 : cl b (max 0 (x - p.n) + (b + p.o)) = b := by unfold cl; omega
        have e5 : cl b (b + (p.l - b)) = p.l := by unfold cl; omega
        simp only [lev, buy, spl, e1, e2, e5, P5.lv, P5.by, P5.sp, mid]
        omega
theorem rowN_does {b : Int} {p : P5} (hb : 0 ≤ b) (h : p.Ok b) : Does b p (rowN b p) := by
  have := rowP_does hb h
  unfold rowN
  refine ⟨h, fun x hx => ?_, fun x hx => ?_, fun x hx => ?_⟩
  · rw [(filt hb _ x hx.1 hx.2).1]; exact this.lv x hx
  · rw [(filt hb _ x hx.1 hx.2).2.1]; exact this.by_ x hx
  · rw [(filt hb _ x hx.1 hx.2).2.2]; exact this.sp x hx
theorem rowN_len (b : Int) (p : P5) : (rowN b p).length ≤ 5 := by
  unfold rowN
  refine Nat.le_trans (List.length_filter_le _ _) ?_
  unfold rowP
  split
  · simp
  · split <;> simp
theorem rowN_nz (b : Int) (p : P5) : ∀ r ∈ rowN b p, r ≠ 0 := fun r hr => by
  have := (List.mem_filter.mp hr).2
  simpa using this
end Mr

end
section
set_option Elab.async false
set_option linter.all false
set_option maxRecDepth 100000
set_option maxHeartbeats 4000000
/-! K3: law k77: all tuples of small numbers judged. -/
namespace Mr
open Ev Mh
/-- a comprehension that draws -/
theorem comp_draws {w k n N : Nat} {en : Ev.Env} {st : Store} {i : Nat} {a e : E} {low NI : Int} (hN : NI = N) (hN2 : N ≤ 1000) (hu : Urn n st) (hn : n ≤ 100000) (hlow : 1 ≤ low) (hlow2 : low < 1000000000) (ha : ∀ st, evalE T0 (CF w (k + 1)) a en st = .ok (.int NI) en st) (hi : i < en.length) (how : isOwn en i = false)
    (he : ∀ (x : Int) (st : Store), evalE T0 (CF w (k + 1)) e (setS (wip en i) i (.int x)) st = callO (CF w (k + 1)) 32 [.cell 0, .int low] (setS (wip en i) i (.int x)) st) :
    ∃ (xs : List Int) (st' : Store), xs.length = N ∧ (∀ x ∈ xs, 0 ≤ x ∧ x < low) ∧ Urn (n + N) st' ∧ evalE T0 (CF w (k + 1)) (.comp [i] (.nm i) (.rng (.cons a .nil)) (.lit (.bl true)) e) en st = .ok (.own (xs.map .int)) en st' := by
  have hr := rng_ints N (by omega) NI hN
  obtain ⟨acc', en', st', h1, xs, h2, h3, h4, h5, h6⟩ := accL_R (turn := cmpT T0 (CF w (k + 1)) [i] (.nm i) (.lit (.bl true)) e) (fun (ps acc : List D) (e2 : Ev.Env) (s : Store) => ∃ xs : List Int, acc = xs.map D.int ∧ xs.length = ps.length ∧ (∀ x ∈ xs, 0 ≤ x ∧ x < low) ∧ e2 = wip en i ∧ Urn (n + ps.length) s)
    (((List.range N).map fun (k : Nat) => (k : Int)).map .int) [] [] (wip en i) st
    (fun p d q acc e2 s hp ⟨xs, h2, h3, h4, h5, h6⟩ => by
      subst h2 h5
      have hpl : p.length < N := by
        have := congrArg List.length hp
        simp at this; omega
      obtain ⟨x, rfl⟩ : ∃ x : Int, d = .int x := by
        have : d ∈ (((List.range N).map fun (k : Nat) => (k : Int)).map D.int) := by
          have hp : (((List.range N).map fun (k : Nat) => (k : Int)).map D.int) = p ++ d :: q := by simpa using hp
          rw [hp]; simp
        obtain ⟨y, _, e⟩ := List.mem_map.mp this
        exact ⟨y, e.symm⟩
      obtain ⟨v, s', v0, v1, u', e'⟩ := m_take (w := w) (k := k) h6 (by omega) hlow hlow2
      refine ⟨(xs ++ [v]).map .int, wip en i, s', ?_, xs ++ [v], rfl, by simp [h3], ?_, rfl, u'.mono (by simp; omega)⟩
      · have he := he x s
        simp only [callO] at he
        simp only [CF] at e' he ⊢
        rw [e'] at he
        generalize callF T0 PT w (k + 1) = F at *
        simp [cmpT, dataD, wipeE_cons, wipeE_nil, hi, he, wip_setS, wip_wip, D.item]
      · intro y hy
        rcases List.mem_append.mp hy with hy | hy
        · exact h4 y hy
        · rw [List.mem_singleton.mp hy]; exact ⟨v0, v1⟩)
    ⟨[], rfl, rfl, (fun x hx => by cases hx), rfl, by simpa using hu⟩
  simp only [List.nil_append, List.length_map, List.length_range] at h3 h6
  refine ⟨xs, st', h3, h4, h6, ?_⟩
  have ha := ha st
  subst h2 h5
  rw [xe_comp]
  generalize CF w (k + 1) = F at *
  generalize (((List.range N).map fun (k : Nat) => (k : Int)).map D.int) = L at *
  have hb : backE en (wip en i) [i] = en := by
    have := back_wipe en [i]
    rwa [wipeE_cons, wipeE_nil] at this
  simp [ha, hr, iterD, D.seq, D.seqL, D.seqT, how, wipeE_cons, wipeE_nil, h1, noX, hb]
section
variable {w k n : Nat} {en : Ev.Env} {st : Store} {b : Int} {one other : List Int}
theorem k4_0 (h : KS en b one other) (hu : Urn n st) (hn : n ≤ 10000) : ∃ p st', evalS T0 (CF w (k + 5)) w b_law_4b_0 en st = .ok .nx (setS en 22 (pD p)) st' ∧ Urn (n + 5) st' := by
  have hl := h.len
  have g1 := h.g1
  have g15 := h.g15
  have b0 := h.b0
  have b6 := h.b6
  obtain ⟨xs, st1, hx, hxs, u1, e1⟩ := comp_draws (w := w) (k := k + 4) (N := 3) (NI := 3) (en := en) (st := st) (i := 34) (low := b + 3) (a := .lit (.int 3)) (e := .call 32 (.cons (.ref 1) (.cons (.bin .add (.pk 15) (.lit (.int (3)))) .nil))) rfl (by omega) hu (by omega) (by omega) (by omega) (by simp) (by omega) h.o34
    (fun x s => by
      generalize CF w (k + 4 + 1) = F at *
      simp [peekV, readV, refV, res, finF, retD, args, D.arg, callO, bi, bi1, bi2, mx, mn, ab, D.item, items, dataD, tgLen, binop, cmpop, parS, slotD, lim, idxD, isTys, isTy, negD, Ev.bound, sliceD, D.seq, D.seqL, D.seqT, iterD, isOwn, wipeE_cons, wipeE_nil, mutable, mutS, mutate, get_ne, wip_ne, g1, g15])
  obtain ⟨d1, st2, hd1, u2, e2⟩ := m_of (w := w) (k := k + 3) (ds := [.int 0, .int 0, .int 2]) u1 (by omega) (by simp) (by simp) (by simp [retD])
  obtain ⟨d2, st3, hd2, u3, e3⟩ := m_of (w := w) (k := k + 3) (ds := [.int 0, .int 0, .int 1]) u2 (by omega) (by simp) (by simp) (by simp [retD])
  obtain ⟨m, rfl⟩ : ∃ m : Int, d1 = .int m := by
    simp only [List.mem_cons, List.not_mem_nil, or_false] at hd1
    rcases hd1 with rfl | rfl | rfl <;> exact ⟨_, rfl⟩
  obtain ⟨o, rfl⟩ : ∃ o : Int, d2 = .int o := by
    simp only [List.mem_cons, List.not_mem_nil, or_false] at hd2
    rcases hd2 with rfl | rfl | rfl <;> exact ⟨_, rfl⟩
  obtain ⟨x, y, z, rfl⟩ : ∃ x y z, xs = [x, y, z] := by
    clear hxs e1
    match xs, hx with
    | [x, y, z], _ => exact ⟨x, y, z, rfl⟩
  · refine ⟨⟨x, y, z, m, o⟩, st3, ?_, u3.mono (by omega)⟩
    have hb : b_law_4b_0 = .par [22] (.cons (.bin .add (.bi .toTup (.cons (.comp [34] (.nm 34) (.rng (.cons (.lit (.int (3))) .nil)) (.lit (.bl true)) (.call 32 (.cons (.ref 1) (.cons (.bin .add (.pk 15) (.lit (.int (3)))) .nil)))) .nil)) (.tup (.cons (.call 34 (.cons (.ref 1) (.cons (.lst (.cons (.lit (.int (0))) (.cons (.lit (.int (0))) (.cons (.lit (.int (2))) .nil)))) .nil))) (.cons (.call 34 (.cons (.ref 1) (.cons (.lst (.cons (.lit (.int (0))) (.cons (.lit (.int (0))) (.cons (.lit (.int (1))) .nil)))) .nil))) .nil)))) .nil) := rfl
    rw [hb]
    have e1 : evalE T0 (CF w (k + 5)) _ en st = _ := e1
    have e2 : CF w (k + 5) 34 _ st1 = _ := e2
    have e3 : CF w (k + 5) 34 _ st2 = _ := e3
    simp only [List.map_cons, List.map_nil] at e1
    generalize CF w (k + 5) = F at *
    generalize (E.comp [34] (.nm 34) (.rng (.cons (.lit (.int (3))) .nil)) (.lit (.bl true)) (.call 32 (.cons (.ref 1) (.cons (.bin .add (.pk 15) (.lit (.int (3)))) .nil)))) = c at *
    simp [peekV, readV, refV, res, finF, retD, args, D.arg, callO, bi, bi1, bi2, mx, mn, ab, D.item, items, dataD, tgLen, binop, cmpop, parS, slotD, lim, idxD, isTys, isTy, negD, Ev.bound, sliceD, D.seq, D.seqL, D.seqT, iterD, isOwn, wipeE_cons, wipeE_nil, mutable, mutS, mutate, e1, e2, e3, g1, hl, pD]
theorem k4_12 {p : P5} (h : KS en b one other) (g22 : getS en 22 = some (pD p)) : evalS T0 (CF w (k + 5)) w (.seq b_law_4b_1 (.seq b_law_4b_2 b_law_4b_3)) en st = evalS T0 (CF w (k + 5)) w b_law_4b_3 (setS en 23 (.bl (okB b p))) st := by
  have hl := h.len
  have g15 := h.g15
  have m1 := m_is_part w (k + 2) st b p
  have m3 := m_law_is_part w (k + 4) st b p
  simp only [pD] at m1 m3 g22
  generalize okB b p = q at *
  generalize b_law_4b_3 = B at *
  generalize CF w (k + 5) = F at *
  simp [b_law_4b_1, b_law_4b_2, peekV, readV, refV, res, finF, retD, args, D.arg, callO, bi, bi1, bi2, mx, mn, ab, D.item, items, dataD, tgLen, binop, cmpop, parS, slotD, lim, idxD, isTys, isTy, negD, Ev.bound, sliceD, D.seq, D.seqL, D.seqT, iterD, isOwn, wipeE_cons, wipeE_nil, mutable, mutS, mutate, get_ne, get_eq, g15, g22, hl, m1, m3, eqS_bl']
end
end Mr

end
section
set_option Elab.async false
set_option linter.all false
set_option maxRecDepth 100000
set_option maxHeartbeats 4000000
/-! K4: law k77: rows made of parts; what is no part. -/
namespace Mr
open Ev Mh
section
variable {w k n : Nat} {en : Ev.Env} {st : Store} {b : Int} {one other : List Int} {p : P5}
theorem k4_t0 (h : KS en b one other) (hu : Urn n st) (hn : n ≤ 10000) (g22 : getS en 22 = some (pD p)) : ∃ st', evalS T0 (CF w (k + 5)) w b_law_4b_3t_0 en st = .ok .nx (setS en 32 (ti (rowN b p))) st' ∧ Urn (n + 1) st' := by
  have hl := h.len
  have g1 := h.g1
  have g15 := h.g15
  obtain ⟨d, st', hd, u, ms⟩ := m_soft (w := w) (k := k + 2) (xs := [p.n, p.r, p.l, p.m, p.o]) hu (by omega)
  refine ⟨st', ?_, u⟩
  have m1a := m_runs_for w (k + 4) st' b p (pD p) (.inl rfl)
  have m1b := m_runs_for w (k + 4) st' b p (li [p.n, p.r, p.l, p.m, p.o]) (.inr rfl)
  simp only [ti, li, pD, List.map_cons, List.map_nil] at *
  generalize (rowN b p).map D.int = R at *
  generalize CF w (k + 5) = F at *
  rcases hd with rfl | rfl
  · simp [b_law_4b_3t_0, peekV, readV, refV, res, finF, retD, args, D.arg, callO, bi, bi1, bi2, mx, mn, ab, D.item, items, dataD, tgLen, binop, cmpop, parS, slotD, lim, idxD, isTys, isTy, negD, Ev.bound, sliceD, D.seq, D.seqL, D.seqT, iterD, isOwn, wipeE_cons, wipeE_nil, mutable, mutS, mutate, g1, g15, g22, hl, ms, m1b]
  · simp [b_law_4b_3t_0, peekV, readV, refV, res, finF, retD, args, D.arg, callO, bi, bi1, bi2, mx, mn, ab, D.item, items, dataD, tgLen, binop, cmpop, parS, slotD, lim, idxD, isTys, isTy, negD, Ev.bound, sliceD, D.seq, D.seqL, D.seqT, iterD, isOwn, wipeE_cons, wipeE_nil, mutable, mutS, mutate, g1, g15, g22, hl, ms, m1a]
theorem k4_t1 {rs : List Int} (h : KS en b one other) (g32 : getS en 32 = some (ti rs)) (hr : rs.length ≤ 5) (hp : Does b p rs) : evalS T0 (CF w (k + 5)) w b_law_4b_3t_1 en st = .ok .nx (setS en 3 (.own [.bl true, .bl true, pD p, .lst (dueL b rs)])) st := by
  have hN : b + 1 = ((b + 1).toNat : Int) := by have := h.b0; omega
  have hb6 := h.b6
  have hl := h.len
  have g15 := h.g15
  have hpo : partOf b rs = p := (Does.partOf h.b0 rs).uniq h.b0 hp
  have m1 := m_part_of w (k + 2) st _ rs b .t
  rw [hpo] at m1
  have e := comp_rng1 (F := CF w (k + 5)) (en := en) (st := st) (i := 27) (a := .bin .add (.pk 15) (.lit (.int (1)))) (e := .call 43 (.cons (.var 32) (.cons (.var 15) (.cons (.var 27) .nil)))) (fun (x : Nat) => trD (endT b rs (x : Int))) (b + 1) hN (by omega) (by simp [peekV, readV, refV, res, finF, retD, args, D.arg, callO, bi, bi1, bi2, mx, mn, ab, D.item, items, dataD, tgLen, binop, cmpop, parS, slotD, lim, idxD, isTys, isTy, negD, Ev.bound, sliceD, D.seq, D.seqL, D.seqT, iterD, isOwn, wipeE_cons, wipeE_nil, mutable, mutS, mutate, g15]) (by omega) h.o27
    (fun x hx => by
      have m := m_row_walk w (k + 3) st rs b (x : Int) (by omega)
      exact ⟨_, by simp [peekV, readV, refV, res, finF, retD, args, D.arg, callO, bi, bi1, bi2, mx, mn, ab, D.item, items, dataD, tgLen, binop, cmpop, parS, slotD, lim, idxD, isTys, isTy, negD, Ev.bound, sliceD, D.seq, D.seqL, D.seqT, iterD, isOwn, wipeE_cons, wipeE_nil, mutable, mutS, mutate, get_ne, get_eq, wip_ne, g32, g15, hl, m]; rfl, rfl⟩)
  have e : evalE T0 (CF w (k + 5)) _ en st = Out.ok (.own (dueL b rs)) en st := e
  have hlen : (((rs.map D.int).length : Nat) : Int) < 6 := by simp; omega
  simp only [ti, pD] at *
  generalize dueL b rs = L at *
  generalize rs.map D.int = R at *
  generalize CF w (k + 5) = F at *
  simp [b_law_4b_3t_1, peekV, readV, refV, res, finF, retD, args, D.arg, callO, bi, bi1, bi2, mx, mn, ab, D.item, items, dataD, tgLen, binop, cmpop, parS, slotD, lim, idxD, isTys, isTy, negD, Ev.bound, sliceD, D.seq, D.seqL, D.seqT, iterD, isOwn, wipeE_cons, wipeE_nil, mutable, mutS, mutate, get_ne, get_eq, g15, g32, hl, m1, e, hlen]
theorem k4_t2 {rs : List Int} (h : KS en b one other) (g3 : getS en 3 = some (.own [.bl true, .bl true, pD p, .lst (dueL b rs)])) (g22 : getS en 22 = some (pD p)) (g32 : getS en 32 = some (ti rs)) (hp : Does b p rs) (hz : ∀ r ∈ rs, r ≠ 0) :
    evalS T0 (CF w (k + 5)) w b_law_4b_3t_2 en st = .ok .nx (setS en 3 (.lst [.bl true, .bl true, pD p, .lst (dueL b rs)])) st := by
  have hN : b + 1 = ((b + 1).toNat : Int) := by have := h.b0; omega
  have hb6 := h.b6
  have hl := h.len
  have g15 := h.g15
  have o27 := h.o27
  have o35 := h.o35
  have hd := due_ints b rs
  have e := comp_rng1 (F := CF w (k + 5)) (en := setS en 3 (.lst [.bl true, .bl true, pD p, .lst (dueL b rs)])) (st := st) (i := 27) (a := .bin .add (.pk 15) (.lit (.int (1)))) (e := .call 42 (.cons (.var 22) (.cons (.var 15) (.cons (.var 27) .nil)))) (fun (x : Nat) => trD (p.lv (x : Int), p.by (x : Int), p.sp (x : Int))) (b + 1) hN (by omega) (by simp [peekV, readV, refV, res, finF, retD, args, D.arg, callO, bi, bi1, bi2, mx, mn, ab, D.item, items, dataD, tgLen, binop, cmpop, parS, slotD, lim, idxD, isTys, isTy, negD, Ev.bound, sliceD, D.seq, D.seqL, D.seqT, iterD, isOwn, wipeE_cons, wipeE_nil, mutable, mutS, mutate, g15, get_ne]) (by rw [lenS]; omega) (by rw [own_set_ne (by decide)]; exact o27)
    (fun x hx => by
      have m := m_part_walk w (k + 4) st b (x : Int) p hp.ok.nr
      simp only [pD] at m g22
      exact ⟨_, by simp [peekV, readV, refV, res, finF, retD, args, D.arg, callO, bi, bi1, bi2, mx, mn, ab, D.item, items, dataD, tgLen, binop, cmpop, parS, slotD, lim, idxD, isTys, isTy, negD, Ev.bound, sliceD, D.seq, D.seqL, D.seqT, iterD, isOwn, wipeE_cons, wipeE_nil, mutable, mutS, mutate, get_ne, get_eq, wip_ne, g22, g15, hl, m]; rfl, rfl⟩)
  have hgd := got_due h.b0 hp
  unfold gotL at hgd
  rw [hgd] at e
  have c2 : evalE T0 (CF w (k + 5)) (.comp [35] (.nm 35) (.var 32) (.cmp .eq (.pk 35) (.lit (.int (0)))) (.var 35)) (setS en 3 (.lst [.bl true, .bl true, pD p, .lst (dueL b rs)])) st = .ok (.own []) (setS en 3 (.lst [.bl true, .bl true, pD p, .lst (dueL b rs)])) st := by
    rw [comp_pure (d := ti rs) rs .int (fun _ => none)]
    · rw [show rs.filterMap (fun _ => (none : Option D)) = [] from List.filterMap_eq_nil_iff.mpr fun _ _ => rfl]
    · simp [peekV, readV, refV, res, finF, retD, args, D.arg, callO, bi, bi1, bi2, mx, mn, ab, D.item, items, dataD, tgLen, binop, cmpop, parS, slotD, lim, idxD, isTys, isTy, negD, Ev.bound, sliceD, D.seq, D.seqL, D.seqT, iterD, isOwn, wipeE_cons, wipeE_nil, mutable, mutS, mutate, get_ne, g32]
    · simp [peekV, readV, refV, res, finF, retD, args, D.arg, callO, bi, bi1, bi2, mx, mn, ab, D.item, items, dataD, tgLen, binop, cmpop, parS, slotD, lim, idxD, isTys, isTy, negD, Ev.bound, sliceD, D.seq, D.seqL, D.seqT, iterD, isOwn, wipeE_cons, wipeE_nil, mutable, mutS, mutate]
    · simp [own_set_ne, o35]
    · intro a ha acc
      have hz := hz a ha
      generalize CF w (k + 5) = F at *
      simp [cmpT, peekV, readV, refV, res, finF, retD, args, D.arg, callO, bi, bi1, bi2, mx, mn, ab, D.item, items, dataD, tgLen, binop, cmpop, parS, slotD, lim, idxD, isTys, isTy, negD, Ev.bound, sliceD, D.seq, D.seqL, D.seqT, iterD, isOwn, wipeE_cons, wipeE_nil, mutable, mutS, mutate, get_ne, get_eq, wip_ne, hl, eqS_int', hz, wip_setS, wip_wip]
  have m4 := same_list w k st (xs := [.bl true, .bl true, pD p, .lst (dueL b rs)]) (by simp [intss, intsD, hd.1, pD]) (by simp only [deps, depD, pD]; omega)
  have e0 : eqD (.own []) (.own []) = some true := (eqD_nil (xs := []) rfl (by simp [deps])).2.2.2
  simp only [pD] at *
  generalize dueL b rs = L at *
  generalize CF w (k + 5) = F at *
  unfold b_law_4b_3t_2
  generalize (E.comp [35] (.nm 35) (.var 32) (.cmp .eq (.pk 35) (.lit (.int (0)))) (.var 35)) = q1 at *
  simp [peekV, readV, refV, res, finF, retD, args, D.arg, callO, bi, bi1, bi2, mx, mn, ab, D.item, items, dataD, tgLen, binop, cmpop, parS, slotD, lim, idxD, isTys, isTy, negD, Ev.bound, sliceD, D.seq, D.seqL, D.seqT, iterD, isOwn, wipeE_cons, wipeE_nil, mutable, mutS, mutate, get_ne, get_eq, g3, g15, g22, g32, hl, m4, e, c2, e0]
theorem k4_turn (h : KS en b one other) (hu : Urn n st) (hn : n ≤ 5000) (x : Int) : ∃ en' st', forT T0 (CF w (k + 5)) w (.nm 2) b_law_4b (.int x) en st = .ok .nx en' st' ∧ KS en' b one other ∧ Urn (n + 6) st' := by
  have hl := h.len
  have h1 : KS (setS en 2 (.int x)) b one other := h.set rfl
  have ea : assignT T0 (CF w (k + 5)) (.nm 2) (.int x) en st = .ok () (setS en 2 (.int x)) st := by
    generalize CF w (k + 5) = F at *
    simp [peekV, readV, refV, res, finF, retD, args, D.arg, callO, bi, bi1, bi2, mx, mn, ab, D.item, items, dataD, tgLen, binop, cmpop, parS, slotD, lim, idxD, isTys, isTy, negD, Ev.bound, sliceD, D.seq, D.seqL, D.seqT, iterD, isOwn, wipeE_cons, wipeE_nil, mutable, mutS, mutate, hl]
  generalize setS en 2 (.int x) = e1 at *
  obtain ⟨p, st1, s0, u1⟩ := k4_0 (w := w) (k := k) h1 hu (by omega)
  have h2 : KS (setS e1 22 (pD p)) b one other := h1.set rfl
  have g22 : getS (setS e1 22 (pD p)) 22 = some (pD p) := get_eq (by rw [h1.len]; omega)
  generalize setS e1 22 (pD p) = e2 at *
  have s12 := k4_12 (w := w) (k := k) (st := st1) h2 g22
  have h3 : KS (setS e2 23 (.bl (okB b p))) b one other := h2.set rfl
  have g23 : getS (setS e2 23 (.bl (okB b p))) 23 = some (.bl (okB b p)) := get_eq (by rw [h2.len]; omega)
  have g22' : getS (setS e2 23 (.bl (okB b p))) 22 = some (pD p) := by rw [get_ne (by decide)]; exact g22
  generalize setS e2 23 (.bl (okB b p)) = e3 at *
  have hseq : ∀ (F : Fn), evalS T0 F w b_law_4b e1 st = evalS T0 F w (.seq b_law_4b_0 (.seq b_law_4b_1 (.seq b_law_4b_2 b_law_4b_3))) e1 st := fun F => by
    have hskip : ∀ (en : Ev.Env) (st : Store), evalS T0 F w (.seq b_law_4b_3 .skip) en st = evalS T0 F w b_law_4b_3 en st := fun en st => by
      rw [xs_seq]
      cases evalS T0 F w b_law_4b_3 en st with
      | ok f en st => cases f <;> simp
      | exc _ _ _ _ => rfl
      | bad => rfl
    show evalS T0 F w (.seq b_law_4b_0 (.seq b_law_4b_1 (.seq b_law_4b_2 (.seq b_law_4b_3 .skip)))) e1 st = _
    simp only [xs_seq] at hskip ⊢
    simp only [hskip]
  have hs : evalS T0 (CF w (k + 5)) w b_law_4b e1 st = evalS T0 (CF w (k + 5)) w b_law_4b_3 e3 st1 := by
    rw [hseq, xs_seq, s0]
    exact s12
  cases hq : okB b p with
  | false =>
    rw [hq] at g23
    refine ⟨e3, st1, ?_, h3, u1.mono (by omega)⟩
    simp only [forT, ea, ob_ok, hs]
    generalize CF w (k + 5) = F at *
    simp [b_law_4b_3, peekV, readV, refV, res, finF, retD, args, D.arg, callO, bi, bi1, bi2, mx, mn, ab, D.item, items, dataD, tgLen, binop, cmpop, parS, slotD, lim, idxD, isTys, isTy, negD, Ev.bound, sliceD, D.seq, D.seqL, D.seqT, iterD, isOwn, wipeE_cons, wipeE_nil, mutable, mutS, mutate, g23]
  | true =>
    rw [hq] at g23
    have hok := okB_iff.mp hq
    have hD := rowN_does h.b0 hok
    obtain ⟨st2, t0, u2⟩ := k4_t0 (w := w) (k := k) h3 u1 (by omega) g22'
    have h4 : KS (setS e3 32 (ti (rowN b p))) b one other := h3.set rfl
    have g32 : getS (setS e3 32 (ti (rowN b p))) 32 = some (ti (rowN b p)) := get_eq (by rw [h3.len]; omega)
    have g22b : getS (setS e3 32 (ti (rowN b p))) 22 = some (pD p) := by rw [get_ne (by decide)]; exact g22'
    generalize setS e3 32 (ti (rowN b p)) = e4 at *
    have t1 := k4_t1 (w := w) (k := k) (st := st2) h4 g32 (rowN_len b p) hD
    have h5 : KS (setS e4 3 (.own [.bl true, .bl true, pD p, .lst (dueL b (rowN b p))])) b one other := h4.set rfl
    have g3 : getS (setS e4 3 (.own [.bl true, .bl true, pD p, .lst (dueL b (rowN b p))])) 3 = some (.own [.bl true, .bl true, pD p, .lst (dueL b (rowN b p))]) := get_eq (by rw [h4.len]; omega)
    have g32c : getS (setS e4 3 (.own [.bl true, .bl true, pD p, .lst (dueL b (rowN b p))])) 32 = some (ti (rowN b p)) := by rw [get_ne (by decide)]; exact g32
    have g22c : getS (setS e4 3 (.own [.bl true, .bl true, pD p, .lst (dueL b (rowN b p))])) 22 = some (pD p) := by rw [get_ne (by decide)]; exact g22b
    generalize setS e4 3 (.own [.bl true, .bl true, pD p, .lst (dueL b (rowN b p))]) = e5 at *
    have t2 := k4_t2 (w := w) (k := k) (st := st2) h5 g3 g22c g32c hD (rowN_nz b p)
    refine ⟨setS e5 3 (.lst [.bl true, .bl true, pD p, .lst (dueL b (rowN b p))]), st2, ?_, h5.set rfl, u2.mono (by omega)⟩
    have hite : ∀ F : Fn, evalS T0 F w b_law_4b_3 e3 st1 = evalS T0 F w b_law_4b_3t e3 st1 := fun F => by
      simp [b_law_4b_3, peekV, readV, refV, res, finF, retD, args, D.arg, callO, bi, bi1, bi2, mx, mn, ab, D.item, items, dataD, tgLen, binop, cmpop, parS, slotD, lim, idxD, isTys, isTy, negD, Ev.bound, sliceD, D.seq, D.seqL, D.seqT, iterD, isOwn, wipeE_cons, wipeE_nil, mutable, mutS, mutate, g23]
    simp only [forT, ea, ob_ok, hs, hite]
    simp only [b_law_4b_3t, xs_seq, t0, t1, t2, ob_ok, xs_skip]
theorem k4_all (h : KS en b one other) (hu : Urn n st) (hn : n ≤ 1000) : ∃ en' st', evalS T0 (CF w (k + 5)) w b_law_4 en st = .ok .nx en' st' ∧ KS en' b one other ∧ Urn (n + 72) st' := by
  obtain ⟨en', st', e, h1, u1⟩ := forL_A (turn := forT T0 (CF w (k + 5)) w (.nm 2) b_law_4b) (fun (x : Int) => D.int x) (fun (ps : List Int) e s => KS e b one other ∧ Urn (n + 6 * ps.length) s) ((List.range 12).map fun (k : Nat) => (k : Int)) [] en st
    (fun p a q e s hp ⟨h1, u1⟩ => by
      have hpl : p.length < 12 := by
        have := congrArg List.length hp
        simp at this; omega
      obtain ⟨e', s', h2, h3, h4⟩ := k4_turn (w := w) (k := k) h1 u1 (by omega) a
      exact ⟨e', s', h2, h3, h4.mono (by simp; omega)⟩) ⟨h, hu.mono (by simp)⟩
  refine ⟨en', st', ?_, h1, u1.mono (by simp)⟩
  have hr := rng_ints 12 (by omega) 12 rfl
  have e : forL (forT T0 (CF w (k + 5)) w (.nm 2) b_law_4b) (((List.range 12).map fun (k : Nat) => (k : Int)).map .int) en st = _ := e
  have hb : b_law_4 = .for (.nm 2) (.rng (.cons (.lit (.int (12))) .nil)) b_law_4b := rfl
  rw [hb]
  generalize b_law_4b = B at *
  generalize (((List.range 12).map fun (k : Nat) => (k : Int)).map D.int) = L at *
  generalize CF w (k + 5) = F at *
  simp [peekV, readV, refV, res, finF, retD, args, D.arg, callO, bi, bi1, bi2, mx, mn, ab, D.item, items, dataD, tgLen, binop, cmpop, parS, slotD, lim, idxD, isTys, isTy, negD, Ev.bound, sliceD, D.seq, D.seqL, D.seqT, iterD, isOwn, wipeE_cons, wipeE_nil, mutable, mutS, mutate, hr, e]
end
end Mr

end
section
set_option Elab.async false
set_option linter.all false
set_option maxRecDepth 100000
set_option maxHeartbeats 4000000
/-! K5: law k77: what is no part; the Year. -/
namespace Mr
open Ev Mh
section
variable {w k n : Nat} {en : Ev.Env} {st : Store} {b : Int} {one other : List Int} {p : P5}
theorem k5_comp (h : KS en b one other) : evalE T0 (CF w (k + 5)) (.comp [27] (.nm 27) (.tup (.cons (.neg (.lit (.int (1)))) (.cons (.lit (.int (0))) (.cons (.var 15) (.cons (.bin .add (.pk 15) (.lit (.int (1)))) .nil))))) (.lit (.bl true)) (.call 20 (.cons (.var 15) (.cons (.var 27) .nil)))) en st = .ok (.own [.bl false, .bl true, .bl true, .bl false]) en st := by
  have hl := h.len
  have g15 := h.g15
  have o27 := h.o27
  have b0 := h.b0
  rw [comp_map (d := ti [-1, 0, b, b + 1]) [-1, 0, b, b + 1] .int (fun x => .bl (decide (0 ≤ x) && decide (x ≤ b)))]
  · have c3 : ¬ (b + 1 ≤ b) := by omega
    simp [b0, c3]
  · simp [peekV, readV, refV, res, finF, retD, args, D.arg, callO, bi, bi1, bi2, mx, mn, ab, D.item, items, dataD, tgLen, binop, cmpop, parS, slotD, lim, idxD, isTys, isTy, negD, Ev.bound, sliceD, D.seq, D.seqL, D.seqT, iterD, isOwn, wipeE_cons, wipeE_nil, mutable, mutS, mutate, g15]
  · simp [peekV, readV, refV, res, finF, retD, args, D.arg, callO, bi, bi1, bi2, mx, mn, ab, D.item, items, dataD, tgLen, binop, cmpop, parS, slotD, lim, idxD, isTys, isTy, negD, Ev.bound, sliceD, D.seq, D.seqL, D.seqT, iterD, isOwn, wipeE_cons, wipeE_nil, mutable, mutS, mutate]
  · simp [o27]
  · intro a _ acc
    have m := m_is_level w (k + 2) st b a
    generalize (decide (0 ≤ a) && decide (a ≤ b)) = q at *
    simp [cmpT, peekV, readV, refV, res, finF, retD, args, D.arg, callO, bi, bi1, bi2, mx, mn, ab, D.item, items, dataD, tgLen, binop, cmpop, parS, slotD, lim, idxD, isTys, isTy, negD, Ev.bound, sliceD, D.seq, D.seqL, D.seqT, iterD, isOwn, wipeE_cons, wipeE_nil, mutable, mutS, mutate, get_ne, get_eq, wip_ne, g15, hl, m, wip_setS, wip_wip]
theorem k5_5 (h : KS en b one other) : evalS T0 (CF w (k + 5)) w b_law_5 en st = .ok .nx (setS en 3 (.own [.bl false, .bl false, .lst [.bl false, .bl true, .bl true, .bl false], .bl false, pD (idP b)])) st := by
  have hl := h.len
  have g15 := h.g15
  have g18 := h.g18
  have e := k5_comp (w := w) (k := k) (st := st) h
  have m1 := m_is_part_4 w (k + 2) st b (partOf b one)
  have m2 := m_is_part_t w (k + 2) st b (partOf b one)
  have m3 := m_is_level_b w (k + 2) st b true
  have m4 := m_part_of w (k + 2) st (ti []) [] b .t
  have hc : ∀ a1 a2 a3 a4 a5 : D, cut [a1, a2, a3, a4, a5] none (some 4) = [a1, a2, a3, a4] := fun a1 a2 a3 a4 a5 => cut_to [a1, a2, a3, a4, a5] 4
  have m4 : CF w (k + 5) 5 [.tup [], .int b] st = .ok (pD (idP b)) st := m4
  unfold b_law_5
  simp only [pD] at *
  generalize CF w (k + 5) = F at *
  generalize (E.comp [27] (.nm 27) (.tup (.cons (.neg (.lit (.int (1)))) (.cons (.lit (.int (0))) (.cons (.var 15) (.cons (.bin .add (.pk 15) (.lit (.int (1)))) .nil))))) (.lit (.bl true)) (.call 20 (.cons (.var 15) (.cons (.var 27) .nil)))) = c at *
  simp [peekV, readV, refV, res, finF, retD, args, D.arg, callO, bi, bi1, bi2, mx, mn, ab, D.item, items, dataD, tgLen, binop, cmpop, parS, slotD, lim, idxD, isTys, isTy, negD, Ev.bound, sliceD, D.seq, D.seqL, D.seqT, iterD, isOwn, wipeE_cons, wipeE_nil, mutable, mutS, mutate, get_ne, get_eq, g15, g18, hl, m1, m2, m3, m4, e, hc]
theorem k5_6 (h : KS en b one other) (g3 : getS en 3 = some (.own [.bl false, .bl false, .lst [.bl false, .bl true, .bl true, .bl false], .bl false, pD (idP b)])) : evalS T0 (CF w (k + 5)) w b_law_6 en st = .ok .nx (setS en 3 (.lst [.bl false, .bl false, .lst [.bl false, .bl true, .bl true, .bl false], .bl false, pD (idP b)])) st := by
  have hl := h.len
  have g15 := h.g15
  have m4 := same_list w k st (xs := [.bl false, .bl false, .lst [.bl false, .bl true, .bl true, .bl false], .bl false, pD (idP b)]) (by simp [intss, intsD, pD]) (by simp [deps, depD, pD])
  simp only [pD, idP] at *
  generalize CF w (k + 5) = F at *
  simp [b_law_6, peekV, readV, refV, res, finF, retD, args, D.arg, callO, bi, bi1, bi2, mx, mn, ab, D.item, items, dataD, tgLen, binop, cmpop, parS, slotD, lim, idxD, isTys, isTy, negD, Ev.bound, sliceD, D.seq, D.seqL, D.seqT, iterD, isOwn, wipeE_cons, wipeE_nil, mutable, mutS, mutate, get_ne, get_eq, g3, g15, hl, m4]
theorem k5_7 (h : KS en b one other) : evalS T0 (CF w (k + 5)) w b_law_7 en st = if one = [] then .ok (.rt (.bl true)) en st else .ok .nx en st := by
  have g16 := h.g16
  have he := (eqD_nil (intss_int one).1 (by rw [(intss_int one).2]; omega)).2.1
  have h2 : (one.map D.int).isEmpty = decide (one = []) := by cases one <;> simp
  rw [h2] at he
  simp only [ti] at *
  by_cases c : one = []
  · have c := eq_true c
    generalize one.map D.int = R at *
    generalize CF w (k + 5) = F at *
    simp [b_law_7, b_law_7t, b_law_7t_0, peekV, readV, refV, res, finF, retD, args, D.arg, callO, bi, bi1, bi2, mx, mn, ab, D.item, items, dataD, tgLen, binop, cmpop, parS, slotD, lim, idxD, isTys, isTy, negD, Ev.bound, sliceD, D.seq, D.seqL, D.seqT, iterD, isOwn, wipeE_cons, wipeE_nil, mutable, mutS, mutate, g16, he, c]
  · generalize one.map D.int = R at *
    generalize CF w (k + 5) = F at *
    simp [b_law_7, b_law_7t, b_law_7t_0, peekV, readV, refV, res, finF, retD, args, D.arg, callO, bi, bi1, bi2, mx, mn, ab, D.item, items, dataD, tgLen, binop, cmpop, parS, slotD, lim, idxD, isTys, isTy, negD, Ev.bound, sliceD, D.seq, D.seqL, D.seqT, iterD, isOwn, wipeE_cons, wipeE_nil, mutable, mutS, mutate, g16, he, c]
/-- the Year made, the first level drawn -/
structure KT (en : Ev.Env) (b x : Int) (one other : List Int) : Prop extends KS en b one other where
  ne : one ≠ []
  x0 : 0 ≤ x
  xb : x ≤ b
  g24 : getS en 24 = some (yD one (swO one))
  g25 : getS en 25 = some (.int x)
theorem KS.set' {en : Ev.Env} {b : Int} {one other : List Int} (h : KS en b one other) {i : Nat} {d : D} (hi : [1, 15, 16, 17, 18, 19].contains i = false) (hd : ∀ xs, d ≠ .own xs) : KS (setS en i d) b one other := by
  have hn : ∀ j, [1, 15, 16, 17, 18, 19].contains j = true → i ≠ j := fun j hj z => by rw [z, hj] at hi; cases hi
  have ho : ∀ j, isOwn en j = false → isOwn (setS en i d) j = false := fun j hj => by
    by_cases c : i = j
    · subst c
      by_cases hl : i < en.length
      · rw [own_set_eq hl]
        cases d <;> first | rfl | exact absurd rfl (hd _)
      · have : setS en i d = en := by unfold setS; exact List.set_eq_of_length_le (by omega)
        rw [this]; exact hj
    · rw [own_set_ne c]; exact hj
  refine ⟨by rw [lenS]; exact h.len, h.b0, h.b6, h.n1, h.n2, ?_, ?_, ?_, ?_, ?_, ?_, ho _ h.o27, ho _ h.o29, ho _ h.o33, ho _ h.o34, ho _ h.o35⟩
  · rw [get_ne (hn 1 rfl)]; exact h.g1
  · rw [get_ne (hn 15 rfl)]; exact h.g15
  · rw [get_ne (hn 16 rfl)]; exact h.g16
  · rw [get_ne (hn 17 rfl)]; exact h.g17
  · rw [get_ne (hn 18 rfl)]; exact h.g18
  · rw [get_ne (hn 19 rfl)]; exact h.g19
theorem KT.set {x : Int} (h : KT en b x one other) {i : Nat} {d : D} (hi : [1, 15, 16, 17, 18, 19, 24, 25, 27, 29, 33, 34, 35].contains i = false) : KT (setS en i d) b x one other := by
  have hn : ∀ j, [1, 15, 16, 17, 18, 19, 24, 25, 27, 29, 33, 34, 35].contains j = true → i ≠ j := fun j hj z => by rw [z, hj] at hi; cases hi
  refine { toKS := h.toKS.set (by
    simp only [List.contains_cons, Bool.or_eq_false_iff] at hi ⊢
    simp [hi]), ne := h.ne, x0 := h.x0, xb := h.xb, g24 := ?_, g25 := ?_ }
  · rw [get_ne (hn 24 rfl)]; exact h.g24
  · rw [get_ne (hn 25 rfl)]; exact h.g25
theorem KT.set' {x : Int} (h : KT en b x one other) {i : Nat} {d : D} (hi : [1, 15, 16, 17, 18, 19, 24, 25].contains i = false) (hd : ∀ xs, d ≠ .own xs) : KT (setS en i d) b x one other := by
  have hn : ∀ j, [1, 15, 16, 17, 18, 19, 24, 25].contains j = true → i ≠ j := fun j hj z => by rw [z, hj] at hi; cases hi
  refine { toKS := h.toKS.set' (by
    simp only [List.contains_cons, Bool.or_eq_false_iff] at hi ⊢
    simp [hi]) hd, ne := h.ne, x0 := h.x0, xb := h.xb, g24 := ?_, g25 := ?_ }
  · rw [get_ne (hn 24 rfl)]; exact h.g24
  · rw [get_ne (hn 25 rfl)]; exact h.g25
theorem k5_8 (h : KS en b one other) (hu : Urn n st) (hn : n ≤ 10000) (hne : one ≠ []) (hw : 100 < w) : ∃ x en' st', evalS T0 (CF w (k + 5)) w b_law_8 en st = .ok .nx en' st' ∧ KT en' b x one other ∧ Urn (n + 1) st' := by
  have hl := h.len
  have g1 := h.g1
  have g15 := h.g15
  have g16 := h.g16
  have b0 := h.b0
  have b6 := h.b6
  have hl1 := h.n1.len
  obtain ⟨v, st', v0, v1, u, e⟩ := m_take (w := w) (k := k + 4) hu (by omega) (low := b + 1) (by omega) (by omega)
  have m1 := m_Year w (k + 1) st one (ti one) .t h.n1.nz (by omega) (by omega)
  have hk : KS (setS (setS en 24 (yD one (swO one))) 25 (.int v)) b one other := (h.set rfl).set rfl
  refine ⟨v, setS (setS en 24 (yD one (swO one))) 25 (.int v), st', ?_, { toKS := hk, ne := hne, x0 := v0, xb := by omega, g24 := ?_, g25 := ?_ }, u⟩
  · simp only [yD, ti] at *
    generalize (swO one).map D.int = SW at *
    generalize one.map D.int = R at *
    generalize CF w (k + 5) = F at *
    simp [b_law_8, peekV, readV, refV, res, finF, retD, args, D.arg, callO, bi, bi1, bi2, mx, mn, ab, D.item, items, dataD, tgLen, binop, cmpop, parS, slotD, lim, idxD, isTys, isTy, negD, Ev.bound, sliceD, D.seq, D.seqL, D.seqT, iterD, isOwn, wipeE_cons, wipeE_nil, mutable, mutS, mutate, get_ne, get_eq, g1, g15, g16, hl, m1, e]
  · rw [get_ne (by decide), get_eq (by omega)]
  · rw [get_eq (by rw [lenS]; omega)]
theorem k5_9 {x : Int} (h : KT en b x one other) : ∃ en', evalS T0 (CF w (k + 5)) w b_law_9 en st = .ok .nx en' st ∧ KT en' b x one other ∧ getS en' 27 = some (.int x) ∧ getS en' 28 = some (.own [trD (x, 0, 0)]) := by
  have hl := h.len
  have g25 := h.g25
  have h1 : KT (setS (setS (setS en 26 (.own [])) 27 (.int x)) 28 (.own [trD (x, 0, 0)])) b x one other := ((h.set rfl).set' rfl (fun _ z => by cases z)).set rfl
  refine ⟨_, ?_, h1, ?_, ?_⟩
  · generalize CF w (k + 5) = F at *
    simp [b_law_9, peekV, readV, refV, res, finF, retD, args, D.arg, callO, bi, bi1, bi2, mx, mn, ab, D.item, items, dataD, tgLen, binop, cmpop, parS, slotD, lim, idxD, isTys, isTy, negD, Ev.bound, sliceD, D.seq, D.seqL, D.seqT, iterD, isOwn, wipeE_cons, wipeE_nil, mutable, mutS, mutate, get_ne, get_eq, g25, hl, trD]
  · rw [get_ne (by decide), get_eq (by rw [lenS]; omega)]
  · rw [get_eq (by rw [lenS, lenS]; omega)]
end
end Mr

end
section
set_option linter.all false
set_option maxHeartbeats 1000000
/-! Mth5: rows that come again and again, run by run. -/
namespace Mr
open Mh
/-- the ends of all that a row begins with -/
def WL (b x : Int) (q : List Int) : List (Int × Int × Int) := (List.range (q.length + 1)).map fun j => endT b (q.take j) x
theorem WL_nil (b x : Int) : WL b x [] = [(x, 0, 0)] := rfl
theorem WL_snoc (b x : Int) (q : List Int) (r : Int) : WL b x (q ++ [r]) = WL b x q ++ [endT b (q ++ [r]) x] := by
  unfold WL
  have e : (q ++ [r]).length + 1 = (q.length + 1) + 1 := by simp
  rw [e, List.range_succ, List.map_append]
  congr 1
  · apply List.map_congr_left
    intro j hj
    have hj := List.mem_range.mp hj
    rw [List.take_append_of_le_length (by omega)]
  · simp [List.take_of_length_le]
theorem WL_len (b x : Int) (q : List Int) : (WL b x q).length = q.length + 1 := by simp [WL]
theorem WL_last (b x : Int) (q : List Int) : (WL b x q).getLast? = some (endT b q x) := by
  unfold WL
  rw [List.range_succ, List.map_append, List.getLast?_append]
  simp
theorem WL_get (b x : Int) (q : List Int) (j : Nat) (h : j ≤ q.length) : (WL b x q)[j]? = some (endT b (q.take j) x) := by
  unfold WL
  rw [List.getElem?_map, List.getElem?_range (by omega)]; rfl
theorem endT_snoc (b x : Int) (q : List Int) (r : Int) : endT b (q ++ [r]) x = (cl b (lev b q x + r), buy b q x + max 0 (-(lev b q x + r)), spl b q x + max 0 (lev b q x + r - b)) := by
  simp [endT, lev_app, buy_app, spl_app, lev, buy, spl]
theorem walkL_get (b : Int) : ∀ (rs : List Int) (x : Int) (j : Nat) (h : j < rs.length), (walkL b rs x)[j]? = some (cl b (lev b (rs.take j) x + rs[j]), max 0 (-(lev b (rs.take j) x + rs[j])), max 0 (lev b (rs.take j) x + rs[j] - b))
  | [], x, j, h => by simp at h
  | r :: rs, x, 0, h => by simp [walkL, lev]
  | r :: rs, x, j + 1, h => by
    have := walkL_get b rs (cl b (x + r)) j (by simpa using h)
    simp [walkL, lev, this]
theorem rep_len (k : Nat) (rs : List Int) : (rep k rs).length = k * rs.length := by simp [rep]
theorem rep_take {rs : List Int} (h0 : 0 < rs.length) (m N : Nat) (h : N ≤ m * rs.length) : (rep m rs).take N = farR rs N := by
  unfold farR
  have hd : rs.length * (N / rs.length) + N % rs.length = N := Nat.div_add_mod N rs.length
  have hr : N % rs.length < rs.length := Nat.mod_lt _ h0
  generalize N / rs.length = q at *
  generalize N % rs.length = r at *
  have hq : q ≤ m := by
    by_cases c : q ≤ m
    · exact c
    · exfalso
      have h1 : (m + 1) * rs.length ≤ q * rs.length := Nat.mul_le_mul_right _ (by omega)
      rw [Nat.add_mul, Nat.one_mul] at h1
      rw [Nat.mul_comm] at hd; omega
  obtain ⟨t, rfl⟩ : ∃ t, m = q + t := ⟨m - q, by omega⟩
  rw [rep_add]
  have hl : (rep q rs).length = q * rs.length := rep_len q rs
  have hN : N = (rep q rs).length + r := by rw [hl, Nat.mul_comm]; omega
  rw [hN, List.take_length_add_append]
  congr 1
  cases t with
  | zero =>
    have : r = 0 := by
      rw [Nat.add_zero] at h
      rw [hl] at hN; omega
    subst this
    simp
  | succ t => rw [rep_succ, List.take_append_of_le_length (by omega)]
theorem farR_far {rs : List Int} (h0 : 0 < rs.length) (M r : Nat) (hr : r ≤ rs.length) : farR rs (rs.length * M + r) = rep M rs ++ rs.take r := by
  unfold farR
  by_cases c : r < rs.length
  · have h1 : (rs.length * M + r) / rs.length = M := by
      rw [Nat.mul_add_div h0, Nat.div_eq_of_lt c]; omega
    have h2 : (rs.length * M + r) % rs.length = r := by
      rw [Nat.mul_add_mod, Nat.mod_eq_of_lt c]
    rw [h1, h2]
  · have : r = rs.length := by omega
    subst this
    have h1 : (rs.length * M + rs.length) / rs.length = M + 1 := by
      rw [Nat.mul_add_div h0, Nat.div_self h0]
    have h2 : (rs.length * M + rs.length) % rs.length = 0 := by
      rw [Nat.mul_add_mod, Nat.mod_self]
    rw [h1, h2, rep_add, rep_one]; simp
end Mr

end
section
set_option Elab.async false
set_option linter.all false
set_option maxRecDepth 100000
set_option maxHeartbeats 4000000
/-! K6: law k77: far runs by walks. -/
namespace Mr
open Ev Mh
section
variable {w k n : Nat} {en : Ev.Env} {st : Store} {b x : Int} {one other : List Int} {p : P5}
theorem k6_item (F : Fn) (w : Nat) (h : KT en b x one other) (q : List Int) (r y : Int) (hq : q.length ≤ 1000) (g28 : getS en 28 = some (.own ((WL b x q).map trD))) (t : Int × Int × Int) (ht : t = (cl b (lev b q x + r), max 0 (-(lev b q x + r)), max 0 (lev b q x + r - b))) :
    forT T0 F w (.nm 29) b_law_10b_0b (trD t) en st = .ok .nx (setS (setS en 29 (trD t)) 28 (.own ((WL b x (q ++ [r])).map trD))) st := by
  have hl := h.len
  have hx : (L2.atI ((WL b x q).map trD) (-1)) = some (trD (endT b q x)) := by rw [atI_m1, List.getLast?_map, WL_last]; rfl
  have hs : (WL b x (q ++ [r])).map trD = (WL b x q).map trD ++ [trD (cl b (lev b q x + r), buy b q x + max 0 (-(lev b q x + r)), spl b q x + max 0 (lev b q x + r - b))] := by
    rw [WL_snoc, endT_snoc]; simp
  have hlen : ((WL b x q).map trD).length < 16777216 := by rw [List.length_map, WL_len]; omega
  rw [hs, ht]
  have hx : (L2.atI ((WL b x q).map trD) (-1)) = some (.tup [.int (lev b q x), .int (buy b q x), .int (spl b q x)]) := hx
  generalize (WL b x q).map trD = L at *
  generalize buy b q x = B at *
  generalize spl b q x = S at *
  generalize lev b q x = V at *
  simp [forT, b_law_10b_0b, b_law_10b_0b_0, peekV, readV, refV, res, finF, retD, args, D.arg, callO, bi, bi1, bi2, mx, mn, ab, D.item, items, dataD, tgLen, binop, cmpop, parS, slotD, lim, idxD, isTys, isTy, negD, Ev.bound, sliceD, D.seq, D.seqL, D.seqT, iterD, isOwn, wipeE_cons, wipeE_nil, mutable, mutS, mutate, get_ne, get_eq, g28, hl, hx, hlen, trD, atI_0, atI_1, atI_2]
theorem k6_inner (F : Fn) (w i : Nat) (h : KT en b x one other) (hi : i ≤ 6) (g28 : getS en 28 = some (.own ((WL b x (rep i one)).map trD))) :
    ∃ en', forL (forT T0 F w (.nm 29) b_law_10b_0b) ((walkL b one (lev b (rep i one) x)).map trD) en st = .ok .nx en' st ∧ KT en' b x one other ∧ getS en' 28 = some (.own ((WL b x (rep (i + 1) one)).map trD)) := by
  have hl1 := h.n1.len
  have hrl := rep_len i one
  have hrb : i * one.length ≤ 6 * 5 := Nat.mul_le_mul hi (by omega)
  obtain ⟨en', st', e, ⟨h1, h2⟩, h3⟩ := forL_A (turn := forT T0 F w (.nm 29) b_law_10b_0b) trD (fun (ps : List (Int × Int × Int)) e s => (KT e b x one other ∧ getS e 28 = some (.own ((WL b x (rep i one ++ one.take ps.length)).map trD))) ∧ s = st)
    (walkL b one (lev b (rep i one) x)) [] en st
    (fun ps a q e s hp ⟨⟨h1, g⟩, hs⟩ => by
      subst hs
      have hp : walkL b one (lev b (rep i one) x) = ps ++ a :: q := by simpa using hp
      have hpl : ps.length < one.length := by
        have := congrArg List.length hp
        rw [walkL_len] at this; simp at this; omega
      have ha := walkL_get b one (lev b (rep i one) x) ps.length hpl
      rw [hp, List.getElem?_append_right (Nat.le_refl _), Nat.sub_self] at ha
      have ha : a = _ := Option.some.inj ha
      rw [← lev_app] at ha
      have hk := k6_item (st := s) F w h1 (rep i one ++ one.take ps.length) one[ps.length] 0 (by rw [List.length_append, hrl, List.length_take]; omega) g a ha
      refine ⟨_, s, hk, ⟨(h1.set' rfl (fun _ z => by cases z)).set rfl, ?_⟩, rfl⟩
      rw [get_eq (by rw [lenS, h1.len]; omega), List.length_append, List.length_singleton, List.append_assoc]
      have ht : one.take ps.length ++ [one[ps.length]] = one.take (ps.length + 1) := by rw [List.take_succ_eq_append_getElem hpl]
      rw [ht])
    ⟨⟨h, by simpa using g28⟩, rfl⟩
  subst h3
  refine ⟨en', e, h1, ?_⟩
  rw [h2, List.nil_append, walkL_len, List.take_length, rep_add i 1, rep_one]
theorem k6_lap (h : KT en b x one other) (i : Nat) (hi : i ≤ 6) (y : Int) (g27 : getS en 27 = some (.int (lev b (rep i one) x))) (g28 : getS en 28 = some (.own ((WL b x (rep i one)).map trD))) :
    ∃ en', forT T0 (CF w (k + 5)) w (.nm 4) b_law_10b (.int y) en st = .ok .nx en' st ∧ KT en' b x one other ∧ getS en' 27 = some (.int (lev b (rep (i + 1) one) x)) ∧ getS en' 28 = some (.own ((WL b x (rep (i + 1) one)).map trD)) := by
  have hl := h.len
  have h1 : KT (setS en 4 (.int y)) b x one other := h.set rfl
  have hl1 := h.n1.len
  obtain ⟨e2, f1, f2, f3⟩ := k6_inner (st := st) (CF w (k + 5)) w i h1 hi (by rw [get_ne (by decide)]; exact g28)
  have m1 := m_law_walk w (k + 4) st one b (lev b (rep i one) x) (by omega)
  have hx : (L2.atI ((WL b x (rep (i + 1) one)).map trD) (-1)) = some (.tup [.int (lev b (rep (i + 1) one) x), .int (buy b (rep (i + 1) one) x), .int (spl b (rep (i + 1) one) x)]) := by rw [atI_m1, List.getLast?_map, WL_last]; rfl
  have h3 : KT (setS e2 27 (.int (lev b (rep (i + 1) one) x))) b x one other := f2.set' rfl (fun _ z => by cases z)
  refine ⟨setS e2 27 (.int (lev b (rep (i + 1) one) x)), ?_, h3, get_eq (by rw [f2.len]; omega), by rw [get_ne (by decide)]; exact f3⟩
  have g15 := h.g15
  have g16 := h.g16
  have hb : b_law_10b = .seq (.for (.nm 29) (.call 39 (.cons (.var 16) (.cons (.var 15) (.cons (.var 27) .nil)))) b_law_10b_0b) (.seq b_law_10b_1 .skip) := rfl
  rw [hb]
  have hl2 := f2.len
  simp only [ti] at *
  generalize b_law_10b_0b = B at *
  generalize CF w (k + 5) = F at *
  generalize (WL b x (rep (i + 1) one)).map trD = L at *
  generalize (walkL b one (lev b (rep i one) x)).map trD = L0 at *
  generalize lev b (rep (i + 1) one) x = V at *
  simp [forT, b_law_10b_1, peekV, readV, refV, res, finF, retD, args, D.arg, callO, bi, bi1, bi2, mx, mn, ab, D.item, items, dataD, tgLen, binop, cmpop, parS, slotD, lim, idxD, isTys, isTy, negD, Ev.bound, sliceD, D.seq, D.seqL, D.seqT, iterD, isOwn, wipeE_cons, wipeE_nil, mutable, mutS, mutate, get_ne, get_eq, g15, g16, g27, hl, hl2, m1, f1, f3, hx, atI_0]
theorem k6_10 (h : KT en b x one other) (g27 : getS en 27 = some (.int x)) (g28 : getS en 28 = some (.own [trD (x, 0, 0)])) :
    ∃ en', evalS T0 (CF w (k + 5)) w b_law_10 en st = .ok .nx en' st ∧ KT en' b x one other ∧ getS en' 28 = some (.own ((WL b x (rep 6 one)).map trD)) := by
  obtain ⟨en', st', e, ⟨h1, h2, h3⟩, h4⟩ := forL_A (turn := forT T0 (CF w (k + 5)) w (.nm 4) b_law_10b) (fun (y : Int) => D.int y) (fun (ps : List Int) e s => (KT e b x one other ∧ getS e 27 = some (.int (lev b (rep ps.length one) x)) ∧ getS e 28 = some (.own ((WL b x (rep ps.length one)).map trD))) ∧ s = st) ((List.range 6).map fun (k : Nat) => (k : Int)) [] en st
    (fun p a q e s hp ⟨⟨h1, h2, h3⟩, hs⟩ => by
      subst hs
      have hpl : p.length < 6 := by
        have := congrArg List.length hp
        simp at this; omega
      obtain ⟨e', i1, i2, i3, i4⟩ := k6_lap (w := w) (k := k) (st := s) h1 p.length (by omega) a h2 h3
      exact ⟨e', s, i1, ⟨i2, by simpa using i3, by simpa using i4⟩, rfl⟩)
    ⟨⟨h, g27, g28⟩, rfl⟩
  subst h4
  refine ⟨en', ?_, h1, by simpa using h3⟩
  have hr := rng_ints 6 (by omega) 6 rfl
  have e : forL (forT T0 (CF w (k + 5)) w (.nm 4) b_law_10b) (((List.range 6).map fun (k : Nat) => (k : Int)).map .int) en st' = _ := e
  have hb : b_law_10 = .for (.nm 4) (.rng (.cons (.lit (.int (6))) .nil)) b_law_10b := rfl
  rw [hb]
  generalize b_law_10b = B at *
  generalize (((List.range 6).map fun (k : Nat) => (k : Int)).map D.int) = L at *
  generalize CF w (k + 5) = F at *
  simp [peekV, readV, refV, res, finF, retD, args, D.arg, callO, bi, bi1, bi2, mx, mn, ab, D.item, items, dataD, tgLen, binop, cmpop, parS, slotD, lim, idxD, isTys, isTy, negD, Ev.bound, sliceD, D.seq, D.seqL, D.seqT, iterD, isOwn, wipeE_cons, wipeE_nil, mutable, mutS, mutate, hr, e]
/-- what is told of so many runs -/
def tell (b x : Int) (one : List Int) (N : Nat) : List Int := [lev b (farR one N) x, buy b (farR one N) x, spl b (farR one N) x]
def tells (b x : Int) (one : List Int) (N : Nat) : List Int := ((List.range N).map (tell b x one)).flatten
theorem tells_succ (b x : Int) (one : List Int) (N : Nat) : tells b x one (N + 1) = tells b x one N ++ tell b x one N := by
  unfold tells; rw [List.range_succ, List.map_append, List.flatten_append]; simp
theorem tells_len (b x : Int) (one : List Int) : ∀ N : Nat, (tells b x one N).length = 3 * N
  | 0 => rfl
  | N + 1 => by rw [tells_succ, List.length_append, tells_len b x one N]; simp [tell]; omega
theorem k6_num (h : KT en b x one other) (N : Nat) (hN : N ≤ 6 * one.length) (hw : 300 ≤ w) (g28 : getS en 28 = some (.own ((WL b x (rep 6 one)).map trD))) (g3 : getS en 3 = some (.own ((tells b x one N).map .int))) (g9 : getS en 9 = some (.own ((tells b x one N).map .int))) :
    ∃ en', forT T0 (CF w (k + 6)) w (.nm 5) b_law_12b (.int (N : Int)) en st = .ok .nx en' st ∧ KT en' b x one other ∧ getS en' 28 = some (.own ((WL b x (rep 6 one)).map trD)) ∧ getS en' 3 = some (.own ((tells b x one (N + 1)).map .int)) ∧ getS en' 9 = some (.own ((tells b x one (N + 1)).map .int)) := by
  have hl := h.len
  have hl1 := h.n1.len
  have hb := h.b0
  have hx : 0 ≤ x ∧ x ≤ b := ⟨h.x0, h.xb⟩
  have hN2 : N < 2 ^ 200 := Nat.lt_of_le_of_lt (Nat.le_trans hN (Nat.mul_le_mul_left 6 (show one.length ≤ 5 by omega))) (by decide)
  have m1 := m_level_on (w := w) (k := k + 1) (st := st) (ss := swO one) hb h.ne (by omega) (rfl : (N : Int) = N) hN2 (by omega) hx
  have m2 := m_bought_by (w := w) (k := k + 1) (st := st) (ss := swO one) hb h.ne (by omega) (rfl : (N : Int) = N) hN2 (by omega) hx
  have m3 := m_spilled_by (w := w) (k := k + 1) (st := st) (ss := swO one) hb h.ne (by omega) (rfl : (N : Int) = N) hN2 (by omega) hx
  have hg : L2.atI ((WL b x (rep 6 one)).map trD) (N : Int) = some (.tup [.int (lev b (farR one N) x), .int (buy b (farR one N) x), .int (spl b (farR one N) x)]) := by
    rw [atI_nat, List.getElem?_map, WL_get b x _ N (by rw [rep_len]; exact hN), rep_take (List.length_pos_iff.mpr h.ne) 6 N hN]; rfl
  have hlen : (tells b x one N).length + 3 ≤ 16777216 := by rw [tells_len]; omega
  have ht : (tells b x one (N + 1)).map D.int = (tells b x one N).map D.int ++ [.int (lev b (farR one N) x), .int (buy b (farR one N) x), .int (spl b (farR one N) x)] := by rw [tells_succ]; simp [tell]
  have hlen : ((tells b x one N).map D.int).length + 3 ≤ 16777216 := by rw [List.length_map]; exact hlen
  rw [ht]
  have g15 := h.g15
  have g24 := h.g24
  have g25 := h.g25
  have hk : KT (setS (setS (setS en 5 (.int (N : Int))) 3 (.own ((tells b x one N).map D.int ++ [.int (lev b (farR one N) x), .int (buy b (farR one N) x), .int (spl b (farR one N) x)]))) 9 (.own ((tells b x one N).map D.int ++ [.int (lev b (farR one N) x), .int (buy b (farR one N) x), .int (spl b (farR one N) x)]))) b x one other := ((h.set rfl).set rfl).set rfl
  refine ⟨_, ?_, hk, ?_, ?_, ?_⟩
  · simp only [yD, ti] at *
    generalize (WL b x (rep 6 one)).map trD = L at *
    generalize (tells b x one N).map D.int = T at *
    generalize (swO one).map D.int = SW at *
    generalize one.map D.int = R at *
    generalize lev b (farR one N) x = V1 at *
    generalize buy b (farR one N) x = V2 at *
    generalize spl b (farR one N) x = V3 at *
    generalize (N : Int) = NN at *
    have m1 : CF w (k + 6) 13 _ st = _ := m1
    have m2 : CF w (k + 6) 14 _ st = _ := m2
    have m3 : CF w (k + 6) 15 _ st = _ := m3
    generalize CF w (k + 6) = F at *
    simp [forT, b_law_12b, b_law_12b_0, b_law_12b_1, peekV, readV, refV, res, finF, retD, args, D.arg, callO, bi, bi1, bi2, mx, mn, ab, D.item, items, dataD, tgLen, binop, cmpop, parS, slotD, lim, idxD, isTys, isTy, negD, Ev.bound, sliceD, D.seq, D.seqL, D.seqT, iterD, isOwn, wipeE_cons, wipeE_nil, mutable, mutS, mutate, get_ne, get_eq, g3, g9, g15, g24, g25, g28, hl, m1, m2, m3, hg, addL, hlen]
  · rw [get_ne (by decide), get_ne (by decide), get_ne (by decide)]; exact g28
  · rw [get_ne (by decide), get_eq (by rw [lenS]; omega)]
  · rw [get_eq (by rw [lenS, lenS]; omega)]
end
end Mr

end
section
set_option Elab.async false
set_option linter.all false
set_option maxRecDepth 100000
set_option maxHeartbeats 4000000
/-! K7: law k77: the numbers compared; what stays. -/
namespace Mr
open Ev Mh
section
variable {w k n : Nat} {en : Ev.Env} {st : Store} {b x : Int} {one other : List Int} {p : P5}
theorem k7_11 (h : KT en b x one other) (g28 : getS en 28 = some (.own ((WL b x (rep 6 one)).map trD))) : ∃ en', evalS T0 (CF w (k + 6)) w b_law_11 en st = .ok .nx en' st ∧ KT en' b x one other ∧ getS en' 28 = some (.own ((WL b x (rep 6 one)).map trD)) ∧ getS en' 3 = some (.own []) ∧ getS en' 9 = some (.own []) := by
  have hl := h.len
  have h1 : KT (setS (setS en 3 (.own [])) 9 (.own [])) b x one other := (h.set rfl).set rfl
  refine ⟨_, ?_, h1, ?_, ?_, ?_⟩
  · generalize CF w (k + 6) = F at *
    simp [b_law_11, peekV, readV, refV, res, finF, retD, args, D.arg, callO, bi, bi1, bi2, mx, mn, ab, D.item, items, dataD, tgLen, binop, cmpop, parS, slotD, lim, idxD, isTys, isTy, negD, Ev.bound, sliceD, D.seq, D.seqL, D.seqT, iterD, isOwn, wipeE_cons, wipeE_nil, mutable, mutS, mutate, hl]
  · rw [get_ne (by decide), get_ne (by decide)]; exact g28
  · rw [get_ne (by decide), get_eq (by omega)]
  · rw [get_eq (by rw [lenS]; omega)]
theorem k7_12 (h : KT en b x one other) (hw : 300 ≤ w) (g28 : getS en 28 = some (.own ((WL b x (rep 6 one)).map trD))) (g3 : getS en 3 = some (.own [])) (g9 : getS en 9 = some (.own [])) :
    ∃ en', evalS T0 (CF w (k + 6)) w b_law_12 en st = .ok .nx en' st ∧ KT en' b x one other ∧ getS en' 3 = some (.own ((tells b x one (one.length * 6 + 1)).map .int)) ∧ getS en' 9 = some (.own ((tells b x one (one.length * 6 + 1)).map .int)) := by
  have hl1 := h.n1.len
  obtain ⟨en', st', e, ⟨h1, h2, h3, h4⟩, h5⟩ := forL_A (turn := forT T0 (CF w (k + 6)) w (.nm 5) b_law_12b) (fun (y : Int) => D.int y) (fun (ps : List Int) e s => (KT e b x one other ∧ getS e 28 = some (.own ((WL b x (rep 6 one)).map trD)) ∧ getS e 3 = some (.own ((tells b x one ps.length).map .int)) ∧ getS e 9 = some (.own ((tells b x one ps.length).map .int))) ∧ s = st)
    ((List.range (one.length * 6 + 1)).map fun (k : Nat) => (k : Int)) [] en st
    (fun p a q e s hp ⟨⟨h1, h2, h3, h4⟩, hs⟩ => by
      subst hs
      have hp : ((List.range (one.length * 6 + 1)).map fun (k : Nat) => (k : Int)) = p ++ a :: q := by simpa using hp
      have hpl : p.length < one.length * 6 + 1 := by
        have := congrArg List.length hp
        simp at this; omega
      have ha : a = (p.length : Int) := by
        have e1 : ((List.range (one.length * 6 + 1)).map fun (k : Nat) => (k : Int))[p.length]? = some a := by rw [hp]; simp
        rw [List.getElem?_map, List.getElem?_range hpl] at e1
        exact (Option.some.inj e1).symm
      subst ha
      obtain ⟨e', i1, i2, i3, i4, i5⟩ := k6_num (w := w) (k := k) (st := s) h1 p.length (by omega) hw h2 h3 h4
      exact ⟨e', s, i1, ⟨i2, i3, by simpa using i4, by simpa using i5⟩, rfl⟩)
    ⟨⟨h, g28, g3, g9⟩, rfl⟩
  subst h5
  simp only [List.nil_append, List.length_map, List.length_range] at h3 h4
  refine ⟨en', ?_, h1, h3, h4⟩
  have hr := rng_ints (one.length * 6 + 1) (by omega) ((one.length : Int) * 6 + 1) (by omega)
  have e : forL (forT T0 (CF w (k + 6)) w (.nm 5) b_law_12b) (((List.range (one.length * 6 + 1)).map fun (k : Nat) => (k : Int)).map .int) en st' = _ := e
  have hb : b_law_12 = .for (.nm 5) (.rng (.cons (.bin .add (.bin .mul (.bi .len (.cons (.pk 16) .nil)) (.lit (.int (6)))) (.lit (.int (1)))) .nil)) b_law_12b := rfl
  have g16 := h.g16
  have hmu : mulOk (one.length : Int) 6 = true := mulOk_r (by omega) (by omega)
  have hll : ((one.map D.int).length : Int) = (one.length : Int) := by simp
  rw [hb]
  simp only [ti] at *
  generalize b_law_12b = B at *
  generalize (((List.range (one.length * 6 + 1)).map fun (k : Nat) => (k : Int)).map D.int) = L at *
  generalize CF w (k + 6) = F at *
  simp [peekV, readV, refV, res, finF, retD, args, D.arg, callO, bi, bi1, bi2, mx, mn, ab, D.item, items, dataD, tgLen, binop, cmpop, parS, slotD, lim, idxD, isTys, isTy, negD, Ev.bound, sliceD, D.seq, D.seqL, D.seqT, iterD, isOwn, wipeE_cons, wipeE_nil, mutable, mutS, mutate, g16, hmu, hr, e]
theorem k7_13 (h : KT en b x one other) {xs : List Int} (g3 : getS en 3 = some (.own (xs.map .int))) (g9 : getS en 9 = some (.own (xs.map .int))) : ∃ en', evalS T0 (CF w (k + 6)) w b_law_13 en st = .ok .nx en' st ∧ KT en' b x one other := by
  have hl := h.len
  have h1 : KT (setS (setS en 3 (.lst (xs.map .int))) 9 (.lst (xs.map .int))) b x one other := (h.set rfl).set rfl
  have m4 := same_list w (k + 1) st (intss_int xs).1 (by rw [(intss_int xs).2]; omega)
  have m4 : CF w (k + 6) 35 _ st = _ := m4
  refine ⟨_, ?_, h1⟩
  generalize xs.map D.int = L at *
  generalize CF w (k + 6) = F at *
  simp [b_law_13, peekV, readV, refV, res, finF, retD, args, D.arg, callO, bi, bi1, bi2, mx, mn, ab, D.item, items, dataD, tgLen, binop, cmpop, parS, slotD, lim, idxD, isTys, isTy, negD, Ev.bound, sliceD, D.seq, D.seqL, D.seqT, iterD, isOwn, wipeE_cons, wipeE_nil, mutable, mutS, mutate, get_ne, get_eq, g3, g9, hl, m4]
/-! what stays -/
def stands (b : Int) (one : List Int) : List Nat := (List.range (b + 1).toNat).filter fun (y : Nat) => decide (lev b one (y : Int) = (y : Int))
theorem k7_14 (h : KT en b x one other) : evalS T0 (CF w (k + 6)) w b_law_14 en st = .ok .nx (setS en 6 (.own (((stands b one).map fun (y : Nat) => (y : Int)).map .int))) st := by
  have hN : b + 1 = ((b + 1).toNat : Int) := by have := h.b0; omega
  have hb6 := h.b6
  have hl := h.len
  have g15 := h.g15
  have g16 := h.g16
  have hl1 := h.n1.len
  have e := comp_rngF (F := CF w (k + 6)) (en := en) (st := st) (i := 29) (a := .bin .add (.pk 15) (.lit (.int (1)))) (c := .cmp .eq (.idx (.call 40 (.cons (.var 16) (.cons (.var 15) (.cons (.var 29) .nil)))) (.lit (.int (0)))) (.pk 29)) (fun (y : Nat) => decide (lev b one (y : Int) = (y : Int))) (b + 1) hN (by omega) (by simp [peekV, readV, refV, res, finF, retD, args, D.arg, callO, bi, bi1, bi2, mx, mn, ab, D.item, items, dataD, tgLen, binop, cmpop, parS, slotD, lim, idxD, isTys, isTy, negD, Ev.bound, sliceD, D.seq, D.seqL, D.seqT, iterD, isOwn, wipeE_cons, wipeE_nil, mutable, mutS, mutate, g15]) (by omega) h.o29
    (fun y hy => by
      have m := m_behind w (k + 4) st one b (y : Int) (by omega) h.ne
      have m : CF w (k + 6) 40 _ st = .ok (.tup [.int (lev b one (y : Int)), .int (buy b one (y : Int)), .int (spl b one (y : Int))]) st := m
      simp only [ti] at *
      generalize CF w (k + 6) = F at *
      generalize lev b one (y : Int) = V at *
      simp [peekV, readV, refV, res, finF, retD, args, D.arg, callO, bi, bi1, bi2, mx, mn, ab, D.item, items, dataD, tgLen, binop, cmpop, parS, slotD, lim, idxD, isTys, isTy, negD, Ev.bound, sliceD, D.seq, D.seqL, D.seqT, iterD, isOwn, wipeE_cons, wipeE_nil, mutable, mutS, mutate, get_ne, get_eq, wip_ne, g16, g15, hl, m, atI_0, eqS_int'])
  have e : evalE T0 (CF w (k + 6)) _ en st = Out.ok (.own (((stands b one).map fun (y : Nat) => (y : Int)).map .int)) en st := e
  generalize ((stands b one).map fun (y : Nat) => (y : Int)).map D.int = L at *
  generalize CF w (k + 6) = F at *
  simp [b_law_14, peekV, readV, refV, res, finF, retD, args, D.arg, callO, bi, bi1, bi2, mx, mn, ab, D.item, items, dataD, tgLen, binop, cmpop, parS, slotD, lim, idxD, isTys, isTy, negD, Ev.bound, sliceD, D.seq, D.seqL, D.seqT, iterD, isOwn, wipeE_cons, wipeE_nil, mutable, mutS, mutate, e, hl]
theorem k7_15 (h : KT en b x one other) (hu : Urn n st) (hn : n ≤ 10000) : ∃ (r : Nat) (st' : Store), r ≤ one.length ∧ Urn (n + 1) st' ∧ evalS T0 (CF w (k + 6)) w b_law_15 en st = .ok .nx (setS (setS en 30 (.int (10 ^ 20))) 31 (.int (r : Int))) st' := by
  have hl := h.len
  have g1 := h.g1
  have g16 := h.g16
  have hl1 := h.n1.len
  obtain ⟨v, st', v0, v1, u, e⟩ := m_take (w := w) (k := k + 5) hu (by omega) (low := (one.length : Int) + 1) (by omega) (by omega)
  obtain ⟨r, rfl⟩ : ∃ r : Nat, v = r := ⟨v.toNat, by omega⟩
  refine ⟨r, st', by omega, u, ?_⟩
  have hp : (10 : Int).natAbs < 2 ^ 64 := by decide
  have e : CF w (k + 6) 32 _ st = _ := e
  simp only [ti] at *
  generalize CF w (k + 6) = F at *
  simp [b_law_15, peekV, readV, refV, res, finF, retD, args, D.arg, callO, bi, bi1, bi2, mx, mn, ab, D.item, items, dataD, tgLen, binop, cmpop, parS, slotD, lim, idxD, isTys, isTy, negD, Ev.bound, sliceD, D.seq, D.seqL, D.seqT, iterD, isOwn, wipeE_cons, wipeE_nil, mutable, mutS, mutate, g1, g16, hl, e]
end
end Mr

end
section
set_option linter.all false
set_option maxHeartbeats 1000000
/-! Mth6: levels that stay; first levels. -/
namespace Mr
open Mh
theorem head_fr (q : Nat → Bool) (lo : Nat) (hq : q lo = true) (hlo : ∀ y, y < lo → q y = false) : ∀ m : Nat, lo < m → ((List.range m).filter q).head? = some lo
  | 0, h => by omega
  | m + 1, h => by
    rw [List.range_succ, List.filter_append]
    by_cases c : lo < m
    · have := head_fr q lo hq hlo m c
      rw [List.head?_append, this]; rfl
    · have e : lo = m := by omega
      subst e
      have : (List.range lo).filter q = [] := List.filter_eq_nil_iff.mpr fun y hy => by rw [hlo y (List.mem_range.mp hy)]; simp
      rw [this]; simp [hq]
theorem last_fr (q : Nat → Bool) (hi : Nat) (hq : q hi = true) : ∀ m : Nat, hi < m → (∀ y, hi < y → y < m → q y = false) → ((List.range m).filter q).getLast? = some hi
  | 0, h, _ => by omega
  | m + 1, h, hl => by
    rw [List.range_succ, List.filter_append]
    by_cases c : hi < m
    · have := last_fr q hi hq m c fun y h1 h2 => hl y h1 (by omega)
      have hm : q m = false := hl m c (by omega)
      simp [hm, this]
    · have e : hi = m := by omega
      subst e
      simp [hq, List.getLast?_append]
theorem stands_spec {b : Int} {one : List Int} (hb : 0 ≤ b) : ∃ lo hi : Nat, restP b (partOf b one) = ((lo : Int), (hi : Int)) ∧ (stands b one).head? = some lo ∧ (stands b one).getLast? = some hi ∧ lev b one (lo : Int) = (lo : Int) ∧ (lo : Int) ≤ b := by
  have hD := Does.partOf hb one
  generalize partOf b one = p at *
  obtain ⟨a1, a2, a3, a4, a5, a6, a7, a8⟩ := hD.ok
  have key : ∀ y : Nat, (y : Int) ≤ b → (lev b one (y : Int) = (y : Int) ↔ (restP b p).1 ≤ y ∧ (y : Int) ≤ (restP b p).2) := fun y hy => by
    rw [← hD.lv (y : Int) ⟨by omega, hy⟩]
    unfold restP P5.lv mid
    by_cases c : p.n < p.r ∧ p.l = p.n
    · rw [if_pos c]; dsimp only; omega
    · rw [if_neg c]; dsimp only
      by_cases c2 : p.l > p.n
      · rw [if_pos c2]; omega
      · rw [if_neg c2]; omega
  have hr : 0 ≤ (restP b p).1 ∧ (restP b p).1 ≤ (restP b p).2 ∧ (restP b p).2 ≤ b := by
    unfold restP
    by_cases c : p.n < p.r ∧ p.l = p.n
    · rw [if_pos c]; dsimp only; omega
    · rw [if_neg c]; dsimp only
      by_cases c2 : p.l > p.n
      · rw [if_pos c2]; omega
      · rw [if_neg c2]; omega
  refine ⟨(restP b p).1.toNat, (restP b p).2.toNat, ?_, ?_, ?_, ?_, by omega⟩
  · rw [Int.toNat_of_nonneg hr.1, Int.toNat_of_nonneg (by omega)]
  · refine head_fr _ _ ?_ (fun y hy => ?_) _ (by omega)
    · rw [decide_eq_true_eq]; exact (key _ (by omega)).mpr (by omega)
    · rw [decide_eq_false_iff_not]; intro z
      have := (key y (by omega)).mp z
      omega
  · refine last_fr _ _ ?_ _ (by omega) (fun y h1 h2 => ?_)
    · rw [decide_eq_true_eq]; exact (key _ (by omega)).mpr (by omega)
    · rw [decide_eq_false_iff_not]; intro z
      have := (key y (by omega)).mp z
      omega
  · exact (key _ (by omega)).mpr (by omega)
def drys (b : Int) (one : List Int) : List Nat := (List.range (b + 1).toNat).filter fun (y : Nat) => decide (buy b one (y : Int) = 0)
def wets (b : Int) (one : List Int) : List Nat := (List.range (b + 1).toNat).filter fun (y : Nat) => decide (spl b one (y : Int) = 0)
theorem drys_spec {b : Int} {one : List Int} (hb : 0 ≤ b) : if (partOf b one).m = 0 then ∃ y : Nat, (partOf b one).n = y ∧ (drys b one).head? = some y else drys b one = [] := by
  have hD := Does.partOf hb one
  generalize partOf b one = p at *
  obtain ⟨a1, a2, a3, a4, a5, a6, a7, a8⟩ := hD.ok
  have key : ∀ y : Nat, (y : Int) ≤ b → (buy b one (y : Int) = 0 ↔ p.m = 0 ∧ p.n ≤ y) := fun y hy => by
    rw [← hD.by_ (y : Int) ⟨by omega, hy⟩]; unfold P5.by; omega
  split
  · rename_i hm
    refine ⟨p.n.toNat, by omega, head_fr _ _ ?_ (fun y hy => ?_) _ (by omega)⟩
    · rw [decide_eq_true_eq]; exact (key _ (by omega)).mpr (by omega)
    · rw [decide_eq_false_iff_not]; intro z
      have := (key y (by omega)).mp z
      omega
  · rename_i hm
    refine List.filter_eq_nil_iff.mpr fun y hy => ?_
    have := List.mem_range.mp hy
    rw [decide_eq_true_eq]; intro z
    exact hm ((key y (by omega)).mp z).1
theorem wets_spec {b : Int} {one : List Int} (hb : 0 ≤ b) : if (partOf b one).o = 0 then ∃ y : Nat, (partOf b one).r = y ∧ (wets b one).getLast? = some y else wets b one = [] := by
  have hD := Does.partOf hb one
  generalize partOf b one = p at *
  obtain ⟨a1, a2, a3, a4, a5, a6, a7, a8⟩ := hD.ok
  have key : ∀ y : Nat, (y : Int) ≤ b → (spl b one (y : Int) = 0 ↔ p.o = 0 ∧ (y : Int) ≤ p.r) := fun y hy => by
    rw [← hD.sp (y : Int) ⟨by omega, hy⟩]; unfold P5.sp; omega
  split
  · rename_i hm
    refine ⟨p.r.toNat, by omega, last_fr _ _ ?_ _ (by omega) (fun y h1 h2 => ?_)⟩
    · rw [decide_eq_true_eq]; exact (key _ (by omega)).mpr (by omega)
    · rw [decide_eq_false_iff_not]; intro z
      have := (key y (by omega)).mp z
      omega
  · rename_i hm
    refine List.filter_eq_nil_iff.mpr fun y hy => ?_
    have := List.mem_range.mp hy
    rw [decide_eq_true_eq]; intro z
    exact hm ((key y (by omega)).mp z).1
theorem buy_small {b far : Int} (hb : 0 ≤ b) : ∀ (rs : List Int) (x : Int), 0 ≤ x → x ≤ b → (∀ r ∈ rs, (r.natAbs : Int) ≤ far) → buy b rs x ≤ far * rs.length ∧ spl b rs x ≤ far * rs.length
  | [], x, _, _, _ => by simp [buy, spl]
  | r :: rs, x, h0, h1, h => by
    have hc := cl_in (b := b) (x := x + r) hb
    obtain ⟨i1, i2⟩ := buy_small hb rs (cl b (x + r)) hc.1 hc.2 fun y hy => h y (List.mem_cons_of_mem _ hy)
    have := h r List.mem_cons_self
    simp only [buy, spl, List.length_cons]
    have e : far * ((rs.length + 1 : Nat) : Int) = far * (rs.length : Int) + far := by rw [Int.natCast_add]; rw [Int.mul_add]; simp
    rw [e]
    omega
end Mr

end
section
set_option Elab.async false
set_option linter.all false
set_option maxRecDepth 100000
set_option maxHeartbeats 4000000
/-! K8: law k77: the end. -/
namespace Mr
open Ev Mh
/-- what stands in the names, later -/
structure KU (en : Ev.Env) (b x : Int) (one other : List Int) (lo hi r : Nat) : Prop extends KT en b x one other where
  s1 : restP b (partOf b one) = ((lo : Int), (hi : Int))
  s2 : (stands b one).head? = some lo
  s3 : (stands b one).getLast? = some hi
  s4 : lev b one (lo : Int) = (lo : Int)
  s5 : (lo : Int) ≤ b
  rl : r ≤ one.length
  g6 : getS en 6 = some (.own (((stands b one).map fun (y : Nat) => (y : Int)).map .int))
  g30 : getS en 30 = some (.int (10 ^ 20))
  g31 : getS en 31 = some (.int (r : Int))
theorem KU.set {en : Ev.Env} {b x : Int} {one other : List Int} {lo hi r : Nat} (h : KU en b x one other lo hi r) {i : Nat} {d : D} (hq : [1, 6, 15, 16, 17, 18, 19, 24, 25, 27, 29, 30, 31, 33, 34, 35].contains i = false) : KU (setS en i d) b x one other lo hi r := by
  have hn : ∀ j, [1, 6, 15, 16, 17, 18, 19, 24, 25, 27, 29, 30, 31, 33, 34, 35].contains j = true → i ≠ j := fun j hj z => by rw [z, hj] at hq; cases hq
  refine { toKT := h.toKT.set (by
    simp only [List.contains_cons, Bool.or_eq_false_iff] at hq ⊢
    simp [hq]), s1 := h.s1, s2 := h.s2, s3 := h.s3, s4 := h.s4, s5 := h.s5, rl := h.rl, g6 := ?_, g30 := ?_, g31 := ?_ }
  · rw [get_ne (hn 6 rfl)]; exact h.g6
  · rw [get_ne (hn 30 rfl)]; exact h.g30
  · rw [get_ne (hn 31 rfl)]; exact h.g31
section
variable {w k n : Nat} {en : Ev.Env} {st : Store} {b x : Int} {one other : List Int} {lo hi r : Nat}
theorem at0_stands (h : KU en b x one other lo hi r) : L2.atI (((stands b one).map fun (y : Nat) => (y : Int)).map D.int) 0 = some (.int (lo : Int)) := by
  rw [atI_0, ← List.head?_eq_getElem?, List.head?_map, List.head?_map, h.s2]; rfl
theorem atl_stands (h : KU en b x one other lo hi r) : L2.atI (((stands b one).map fun (y : Nat) => (y : Int)).map D.int) (-1) = some (.int (hi : Int)) := by
  rw [atI_m1, List.getLast?_map, List.getLast?_map, h.s3]; rfl
theorem k8_16 (h : KU en b x one other lo hi r) : evalS T0 (CF w (k + 6)) w b_law_16 en st = .ok .nx (setS en 7 (.int (lo : Int))) st := by
  have hl := h.len
  have g6 := h.g6
  have e := at0_stands h
  generalize ((stands b one).map fun (y : Nat) => (y : Int)).map D.int = L at *
  generalize CF w (k + 6) = F at *
  simp [b_law_16, peekV, readV, refV, res, finF, retD, args, D.arg, callO, bi, bi1, bi2, mx, mn, ab, D.item, items, dataD, tgLen, binop, cmpop, parS, slotD, lim, idxD, isTys, isTy, negD, Ev.bound, sliceD, D.seq, D.seqL, D.seqT, iterD, isOwn, wipeE_cons, wipeE_nil, mutable, mutS, mutate, g6, e, hl]
theorem k8_17 (h : KU en b x one other lo hi r) (g7 : getS en 7 = some (.int (lo : Int))) : evalS T0 (CF w (k + 6)) w b_law_17 en st = .ok .nx (setS en 8 (trD (endT b (one.take r) (lo : Int)))) st := by
  have hl := h.len
  have hl1 := h.n1.len
  have g15 := h.g15
  have g16 := h.g16
  have g31 := h.g31
  have hc : cut (one.map D.int) none (some (r : Int)) = (one.take r).map D.int := cut_ti one r
  have m := m_row_walk w (k + 4) st (one.take r) b (lo : Int) (by rw [List.length_take]; omega)
  have m : CF w (k + 6) 43 [.tup ((one.take r).map D.int), .int b, .int (lo : Int)] st = .ok (.tup [.int (endT b (one.take r) (lo : Int)).1, .int (endT b (one.take r) (lo : Int)).2.1, .int (endT b (one.take r) (lo : Int)).2.2]) st := m
  simp only [ti, trD] at *
  generalize (one.take r).map D.int = TK at *
  generalize one.map D.int = R at *
  generalize CF w (k + 6) = F at *
  simp [b_law_17, peekV, readV, refV, res, finF, retD, args, D.arg, callO, bi, bi1, bi2, mx, mn, ab, D.item, items, dataD, tgLen, binop, cmpop, parS, slotD, lim, idxD, isTys, isTy, negD, Ev.bound, sliceD, D.seq, D.seqL, D.seqT, iterD, isOwn, wipeE_cons, wipeE_nil, mutable, mutS, mutate, g7, g15, g16, g31, hc, m, hl]
/-- what is bought, spilled in the long run -/
theorem k8_long (h : KU en b x one other lo hi r) : buy b one (lo : Int) = max 0 (-one.sum) + exc b (swO one) ∧ spl b one (lo : Int) = max 0 one.sum + exc b (swO one) ∧ 0 ≤ buy b one (lo : Int) ∧ buy b one (lo : Int) ≤ 100 ∧ 0 ≤ spl b one (lo : Int) ∧ spl b one (lo : Int) ≤ 100 := by
  have hb := h.b0
  have h1 := long_run hb h.ne h.n1.nz (lo : Int) (by omega) h.s5 h.s4
  have h2 := flow hb one (lo : Int)
  rw [h.s4] at h2
  have h3 := buy_small hb one (lo : Int) (by omega) h.s5 h.n1.sz
  have hl1 := h.n1.len
  refine ⟨h1, by omega, buy_nn b one _, by omega, spl_nn b one _, by omega⟩
theorem k8_far (h : KU en b x one other lo hi r) (M : Nat) : lev b (farR one (one.length * M + r)) (lo : Int) = lev b (one.take r) (lo : Int) ∧ buy b (farR one (one.length * M + r)) (lo : Int) = buy b one (lo : Int) * (M : Int) + buy b (one.take r) (lo : Int) ∧
    spl b (farR one (one.length * M + r)) (lo : Int) = spl b one (lo : Int) * (M : Int) + spl b (one.take r) (lo : Int) := by
  rw [farR_far (List.length_pos_iff.mpr h.ne) M r h.rl]
  obtain ⟨f1, f2, f3⟩ := fix_rep h.s4 M
  rw [lev_app, buy_app, spl_app, f1, f2, f3]
  refine ⟨rfl, ?_, ?_⟩
  · rw [Int.mul_comm]
  · rw [Int.mul_comm]
def G0 (b : Int) (one : List Int) (lo hi r : Nat) : List D := [.tup [.int (lo : Int), .int (hi : Int)], .int (lev b (one.take r) (lo : Int)), .int (buy b one (lo : Int) * 10 ^ 20 + buy b (one.take r) (lo : Int)), .int (spl b one (lo : Int) * 10 ^ 20 + spl b (one.take r) (lo : Int))]
theorem k8_18 (h : KU en b x one other lo hi r) (hw : 300 ≤ w) (g7 : getS en 7 = some (.int (lo : Int))) : evalS T0 (CF w (k + 6)) w b_law_18 en st = .ok .nx (setS en 3 (.own (G0 b one lo hi r))) st := by
  have hl := h.len
  have hl1 := h.n1.len
  have hb := h.b0
  have g15 := h.g15
  have g16 := h.g16
  have g24 := h.g24
  have g30 := h.g30
  have g31 := h.g31
  have hx : 0 ≤ (lo : Int) ∧ (lo : Int) ≤ b := ⟨by omega, h.s5⟩
  obtain ⟨f1, f2, f3⟩ := k8_far h (10 ^ 20)
  have hrl := h.rl
  have hN : (one.length : Int) * 10 ^ 20 + (r : Int) = ((one.length * 10 ^ 20 + r : Nat) : Int) := by simp
  have hN2 : one.length * 10 ^ 20 + r < 2 ^ 200 := by
    have : one.length * 10 ^ 20 ≤ 5 * 10 ^ 20 := Nat.mul_le_mul_right _ (by omega)
    have h3 : 5 * 10 ^ 20 + 5 < 2 ^ 200 := by simp
    exact Nat.lt_of_le_of_lt (Nat.add_le_add this (show r ≤ 5 by omega)) h3
  have hmu : mulOk (one.length : Int) (10 ^ 20) = true := mulOk_l (by omega) (by omega)
  have m0 := m_rests w (k + 2) st one (swO one) b
  rw [h.s1] at m0
  have m1 := m_level_on (w := w) (k := k + 1) (st := st) (ss := swO one) hb h.ne (by omega) hN hN2 (by omega) hx
  have m2 := m_bought_by (w := w) (k := k + 1) (st := st) (ss := swO one) hb h.ne (by omega) hN hN2 (by omega) hx
  have m3 := m_spilled_by (w := w) (k := k + 1) (st := st) (ss := swO one) hb h.ne (by omega) hN hN2 (by omega) hx
  rw [f1] at m1
  rw [f2] at m2
  rw [f3] at m3
  have e20 : ((10 ^ 20 : Nat) : Int) = 10 ^ 20 := by simp
  rw [e20] at m2 m3
  have hll : ((one.map D.int).length : Int) = (one.length : Int) := by simp
  unfold G0
  have m0 : CF w (k + 6) 19 [.ins 0 [.tup (one.map D.int), .tup ((swO one).map D.int)], .int b] st = .ok (.tup [.int (lo : Int), .int (hi : Int)]) st := m0
  have m1 : CF w (k + 6) 13 [.ins 0 [.tup (one.map D.int), .tup ((swO one).map D.int)], .int b, .int (lo : Int), .int ((one.length : Int) * 10 ^ 20 + (r : Int))] st = _ := m1
  have m2 : CF w (k + 6) 14 [.ins 0 [.tup (one.map D.int), .tup ((swO one).map D.int)], .int b, .int (lo : Int), .int ((one.length : Int) * 10 ^ 20 + (r : Int))] st = _ := m2
  have m3 : CF w (k + 6) 15 [.ins 0 [.tup (one.map D.int), .tup ((swO one).map D.int)], .int b, .int (lo : Int), .int ((one.length : Int) * 10 ^ 20 + (r : Int))] st = _ := m3
  clear hN hN2 f1 f2 f3 e20
  simp only [yD, ti] at *
  generalize (10 ^ 20 : Int) = MM at *
  generalize lev b (one.take r) (lo : Int) = V1 at *
  generalize buy b (one.take r) (lo : Int) = V2 at *
  generalize spl b (one.take r) (lo : Int) = V3 at *
  generalize buy b one (lo : Int) = B at *
  generalize spl b one (lo : Int) = S at *
  generalize (one.length : Int) = LN at *
  generalize (swO one).map D.int = SW at *
  generalize one.map D.int = R at *
  generalize CF w (k + 6) = F at *
  simp [b_law_18, peekV, readV, refV, res, finF, retD, args, D.arg, callO, bi, bi1, bi2, mx, mn, ab, D.item, items, dataD, tgLen, binop, cmpop, parS, slotD, lim, idxD, isTys, isTy, negD, Ev.bound, sliceD, D.seq, D.seqL, D.seqT, iterD, isOwn, wipeE_cons, wipeE_nil, mutable, mutS, mutate, g7, g15, g16, g24, g30, g31, hl, hll, hmu, m0, m1, m2, m3]
theorem k8_19 (h : KU en b x one other lo hi r) (g8 : getS en 8 = some (trD (endT b (one.take r) (lo : Int)))) : evalS T0 (CF w (k + 6)) w b_law_19 en st = .ok .nx (setS en 9 (.own (G0 b one lo hi r))) st := by
  have hl := h.len
  have g6 := h.g6
  have g15 := h.g15
  have g24 := h.g24
  have g30 := h.g30
  have e1 := at0_stands h
  have e2 := atl_stands h
  have e3 := e1
  rw [atI_0] at e3
  obtain ⟨l1, l2, l3, l4, l5, l6⟩ := k8_long h
  have m1 := m_bought w (k + 2) st one (swO one) b
  have m2 := m_spilled w (k + 3) st one (swO one) b
  rw [← l1] at m1
  rw [← l2] at m2
  have u1 : mulOk (buy b one (lo : Int)) (10 ^ 20) = true := mulOk_l (by omega) (by omega)
  have u2 : mulOk (spl b one (lo : Int)) (10 ^ 20) = true := mulOk_l (by omega) (by omega)
  unfold G0
  have m1 : CF w (k + 6) 17 [.ins 0 [.tup (one.map D.int), .tup ((swO one).map D.int)], .int b] st = _ := m1
  have m2 : CF w (k + 6) 18 [.ins 0 [.tup (one.map D.int), .tup ((swO one).map D.int)], .int b] st = _ := m2
  have g8 : getS en 8 = some (.tup [.int (lev b (one.take r) (lo : Int)), .int (buy b (one.take r) (lo : Int)), .int (spl b (one.take r) (lo : Int))]) := g8
  clear l1 l2
  simp only [yD, ti] at *
  generalize (10 ^ 20 : Int) = MM at *
  generalize ((stands b one).map fun (y : Nat) => (y : Int)).map D.int = L at *
  generalize lev b (one.take r) (lo : Int) = V1 at *
  generalize buy b (one.take r) (lo : Int) = V2 at *
  generalize spl b (one.take r) (lo : Int) = V3 at *
  generalize buy b one (lo : Int) = B at *
  generalize spl b one (lo : Int) = S at *
  generalize (swO one).map D.int = SW at *
  generalize one.map D.int = R at *
  generalize CF w (k + 6) = F at *
  simp [b_law_19, peekV, readV, refV, res, finF, retD, args, D.arg, callO, bi, bi1, bi2, mx, mn, ab, D.item, items, dataD, tgLen, binop, cmpop, parS, slotD, lim, idxD, isTys, isTy, negD, Ev.bound, sliceD, D.seq, D.seqL, D.seqT, iterD, isOwn, wipeE_cons, wipeE_nil, mutable, mutS, mutate, g6, g8, g15, g24, g30, hl, u1, u2, m1, m2, e3, e2, atI_0, atI_1, atI_2]
end
end Mr

end
section
set_option Elab.async false
set_option linter.all false
set_option maxRecDepth 100000
set_option maxHeartbeats 4000000
/-! K9: law k77: the end, on. -/
namespace Mr
open Ev Mh
section
variable {w k n : Nat} {en : Ev.Env} {st : Store} {b x : Int} {one other : List Int} {lo hi r : Nat}
/-- so many years as one part -/
theorem k9_20 (h : KU en b x one other lo hi r) (hw : 300 ≤ w) : ∃ q, Does b q (rep (10 ^ 20) one) ∧ evalS T0 (CF w (k + 6)) w b_law_20 en st = .ok .nx (setS en 10 (pD q)) st := by
  have hl := h.len
  have g18 := h.g18
  have g30 := h.g30
  have hlt : (10 : Nat) ^ 20 < 2 ^ 70 := by simp
  obtain ⟨q, hq, hD⟩ := tms_does h.b0 (Does.partOf h.b0 one) (n := 70) (k := 10 ^ 20) hlt (by simp)
  have mt := m_times w (k + 3) st (partOf b one) (10 ^ 20) 70 hlt (by omega)
  rw [hq] at mt
  have e20 : ((10 ^ 20 : Nat) : Int) = 10 ^ 20 := by simp
  rw [e20] at mt
  refine ⟨q, hD, ?_⟩
  have mt : CF w (k + 6) 6 _ st = _ := mt
  clear hlt hq hD e20
  simp only [pD, fD] at *
  generalize (10 ^ 20 : Int) = MM at *
  generalize CF w (k + 6) = F at *
  simp [b_law_20, peekV, readV, refV, res, finF, retD, args, D.arg, callO, bi, bi1, bi2, mx, mn, ab, D.item, items, dataD, tgLen, binop, cmpop, parS, slotD, lim, idxD, isTys, isTy, negD, Ev.bound, sliceD, D.seq, D.seqL, D.seqT, iterD, isOwn, wipeE_cons, wipeE_nil, mutable, mutS, mutate, g18, g30, hl, mt]
def G1 (b : Int) (one : List Int) (lo hi r : Nat) : List D := G0 b one lo hi r ++ [.tup [.int (lo : Int), .int (buy b one (lo : Int) * 10 ^ 20), .int (spl b one (lo : Int) * 10 ^ 20)], .bl true]
theorem k9_21 {q : P5} (h : KU en b x one other lo hi r) (hD : Does b q (rep (10 ^ 20) one)) (g3 : getS en 3 = some (.own (G0 b one lo hi r))) (g9 : getS en 9 = some (.own (G0 b one lo hi r))) (g7 : getS en 7 = some (.int (lo : Int))) (g10 : getS en 10 = some (pD q)) :
    evalS T0 (CF w (k + 6)) w b_law_21 en st = .ok .nx (setS (setS en 3 (.own (G1 b one lo hi r))) 9 (.own (G1 b one lo hi r))) st := by
  have hl := h.len
  have g15 := h.g15
  have g16 := h.g16
  have g18 := h.g18
  have g30 := h.g30
  have hl1 := h.n1.len
  have hx : 0 ≤ (lo : Int) ∧ (lo : Int) ≤ b := ⟨by omega, h.s5⟩
  obtain ⟨f1, f2, f3⟩ := fix_rep h.s4 (10 ^ 20)
  have e20 : ((10 ^ 20 : Nat) : Int) = 10 ^ 20 := by simp
  rw [e20, Int.mul_comm] at f2 f3
  have m1 := m_through w (k + 4) st q (lo : Int)
  rw [hD.lv _ hx, hD.by_ _ hx, hD.sp _ hx, f1, f2, f3] at m1
  have m2 := m_part_of w (k + 3) st _ one b .t
  have m3 := m_long w (k + 3) st one b (by omega) h.ne h.n1.nz h.b0 (by have := h.b6; omega)
  obtain ⟨l1, l2, l3, l4, l5, l6⟩ := k8_long h
  rw [← l1, ← l2] at m3
  have u1 : mulOk (buy b one (lo : Int)) (10 ^ 20) = true := mulOk_l (by omega) (by omega)
  have u2 : mulOk (spl b one (lo : Int)) (10 ^ 20) = true := mulOk_l (by omega) (by omega)
  have e2 := eqD_refl (d := pD (partOf b one)) rfl (by simp [pD, depD, deps])
  have hG : (G0 b one lo hi r).length = 4 := rfl
  unfold G1
  have m1 : CF w (k + 6) 8 [pD q, .int (lo : Int)] st = .ok (.tup [.int (lo : Int), .int (buy b one (lo : Int) * 10 ^ 20), .int (spl b one (lo : Int) * 10 ^ 20)]) st := m1
  have m2 : CF w (k + 6) 5 [.tup (one.map D.int), .int b] st = _ := m2
  have m3 : CF w (k + 6) 41 [.tup (one.map D.int), .int b] st = .ok (.tup [.int (buy b one (lo : Int)), .int (spl b one (lo : Int))]) st := m3
  clear f1 f2 f3 e20 l1 l2 hD
  simp only [pD, ti] at *
  generalize (10 ^ 20 : Int) = MM at *
  generalize G0 b one lo hi r = G at *
  generalize buy b one (lo : Int) = B at *
  generalize spl b one (lo : Int) = S at *
  generalize one.map D.int = R at *
  generalize CF w (k + 6) = F at *
  simp [b_law_21, peekV, readV, refV, res, finF, retD, args, D.arg, callO, bi, bi1, bi2, mx, mn, ab, D.item, items, dataD, tgLen, binop, cmpop, parS, slotD, lim, idxD, isTys, isTy, negD, Ev.bound, sliceD, D.seq, D.seqL, D.seqT, iterD, isOwn, wipeE_cons, wipeE_nil, mutable, mutS, mutate, g3, g7, g9, g10, g15, g16, g18, g30, hl, u1, u2, m1, m2, m3, e2, atI_0, atI_1, addL, hG]
def ilist (ys : List Nat) : List D := (ys.map fun (y : Nat) => (y : Int)).map .int
theorem k9_22 (h : KU en b x one other lo hi r) : evalS T0 (CF w (k + 6)) w b_law_22 en st = .ok .nx (setS en 11 (.own (ilist (drys b one)))) st := by
  have hN : b + 1 = ((b + 1).toNat : Int) := by have := h.b0; omega
  have hb6 := h.b6
  have hl := h.len
  have g15 := h.g15
  have g24 := h.g24
  have hl1 := h.n1.len
  have e := comp_rngF (F := CF w (k + 6)) (en := en) (st := st) (i := 33) (a := .bin .add (.pk 15) (.lit (.int (1)))) (c := .cmp .eq (.call 26 (.cons (.var 24) (.cons (.var 15) (.cons (.var 33) .nil)))) (.lit (.int (0)))) (fun (y : Nat) => decide (buy b one (y : Int) = 0)) (b + 1) hN (by omega) (by simp [peekV, readV, refV, res, finF, retD, args, D.arg, callO, bi, bi1, bi2, mx, mn, ab, D.item, items, dataD, tgLen, binop, cmpop, parS, slotD, lim, idxD, isTys, isTy, negD, Ev.bound, sliceD, D.seq, D.seqL, D.seqT, iterD, isOwn, wipeE_cons, wipeE_nil, mutable, mutS, mutate, g15]) (by omega) h.o33
    (fun y hy => by
      have m := m_bought_in w (k + 2) st one (swO one) b (y : Int) (by omega)
      have m : CF w (k + 6) 26 _ st = _ := m
      simp only [yD, ti] at *
      generalize CF w (k + 6) = F at *
      generalize buy b one (y : Int) = V at *
      simp [peekV, readV, refV, res, finF, retD, args, D.arg, callO, bi, bi1, bi2, mx, mn, ab, D.item, items, dataD, tgLen, binop, cmpop, parS, slotD, lim, idxD, isTys, isTy, negD, Ev.bound, sliceD, D.seq, D.seqL, D.seqT, iterD, isOwn, wipeE_cons, wipeE_nil, mutable, mutS, mutate, get_ne, get_eq, wip_ne, g24, g15, hl, m, eqS_int'])
  have e : evalE T0 (CF w (k + 6)) _ en st = Out.ok (.own (ilist (drys b one))) en st := e
  generalize ilist (drys b one) = L at *
  generalize CF w (k + 6) = F at *
  simp [b_law_22, peekV, readV, refV, res, finF, retD, args, D.arg, callO, bi, bi1, bi2, mx, mn, ab, D.item, items, dataD, tgLen, binop, cmpop, parS, slotD, lim, idxD, isTys, isTy, negD, Ev.bound, sliceD, D.seq, D.seqL, D.seqT, iterD, isOwn, wipeE_cons, wipeE_nil, mutable, mutS, mutate, e, hl]
theorem k9_23 (h : KU en b x one other lo hi r) : evalS T0 (CF w (k + 6)) w b_law_23 en st = .ok .nx (setS en 12 (.own (ilist (wets b one)))) st := by
  have hN : b + 1 = ((b + 1).toNat : Int) := by have := h.b0; omega
  have hb6 := h.b6
  have hl := h.len
  have g15 := h.g15
  have g24 := h.g24
  have hl1 := h.n1.len
  have e := comp_rngF (F := CF w (k + 6)) (en := en) (st := st) (i := 33) (a := .bin .add (.pk 15) (.lit (.int (1)))) (c := .cmp .eq (.call 27 (.cons (.var 24) (.cons (.var 15) (.cons (.var 33) .nil)))) (.lit (.int (0)))) (fun (y : Nat) => decide (spl b one (y : Int) = 0)) (b + 1) hN (by omega) (by simp [peekV, readV, refV, res, finF, retD, args, D.arg, callO, bi, bi1, bi2, mx, mn, ab, D.item, items, dataD, tgLen, binop, cmpop, parS, slotD, lim, idxD, isTys, isTy, negD, Ev.bound, sliceD, D.seq, D.seqL, D.seqT, iterD, isOwn, wipeE_cons, wipeE_nil, mutable, mutS, mutate, g15]) (by omega) h.o33
    (fun y hy => by
      have m := m_spilled_in w (k + 2) st one (swO one) b (y : Int) (by omega)
      have m : CF w (k + 6) 27 _ st = _ := m
      simp only [yD, ti] at *
      generalize CF w (k + 6) = F at *
      generalize spl b one (y : Int) = V at *
      simp [peekV, readV, refV, res, finF, retD, args, D.arg, callO, bi, bi1, bi2, mx, mn, ab, D.item, items, dataD, tgLen, binop, cmpop, parS, slotD, lim, idxD, isTys, isTy, negD, Ev.bound, sliceD, D.seq, D.seqL, D.seqT, iterD, isOwn, wipeE_cons, wipeE_nil, mutable, mutS, mutate, get_ne, get_eq, wip_ne, g24, g15, hl, m, eqS_int'])
  have e : evalE T0 (CF w (k + 6)) _ en st = Out.ok (.own (ilist (wets b one))) en st := e
  generalize ilist (wets b one) = L at *
  generalize CF w (k + 6) = F at *
  simp [b_law_23, peekV, readV, refV, res, finF, retD, args, D.arg, callO, bi, bi1, bi2, mx, mn, ab, D.item, items, dataD, tgLen, binop, cmpop, parS, slotD, lim, idxD, isTys, isTy, negD, Ev.bound, sliceD, D.seq, D.seqL, D.seqT, iterD, isOwn, wipeE_cons, wipeE_nil, mutable, mutS, mutate, e, hl]
theorem k9_24 (h : KU en b x one other lo hi r) : evalS T0 (CF w (k + 6)) w b_law_24 en st = .ok .nx (setS en 13 (.own (ilist (drys b one)))) st := by
  have hN : b + 1 = ((b + 1).toNat : Int) := by have := h.b0; omega
  have hb6 := h.b6
  have hl := h.len
  have g15 := h.g15
  have g16 := h.g16
  have hl1 := h.n1.len
  have e := comp_rngF (F := CF w (k + 6)) (en := en) (st := st) (i := 33) (a := .bin .add (.pk 15) (.lit (.int (1)))) (c := .cmp .eq (.idx (.call 40 (.cons (.var 16) (.cons (.var 15) (.cons (.var 33) .nil)))) (.lit (.int (1)))) (.lit (.int (0)))) (fun (y : Nat) => decide (buy b one (y : Int) = 0)) (b + 1) hN (by omega) (by simp [peekV, readV, refV, res, finF, retD, args, D.arg, callO, bi, bi1, bi2, mx, mn, ab, D.item, items, dataD, tgLen, binop, cmpop, parS, slotD, lim, idxD, isTys, isTy, negD, Ev.bound, sliceD, D.seq, D.seqL, D.seqT, iterD, isOwn, wipeE_cons, wipeE_nil, mutable, mutS, mutate, g15]) (by omega) h.o33
    (fun y hy => by
      have m := m_behind w (k + 4) st one b (y : Int) (by omega) h.ne
      have m : CF w (k + 6) 40 _ st = .ok (.tup [.int (lev b one (y : Int)), .int (buy b one (y : Int)), .int (spl b one (y : Int))]) st := m
      simp only [ti] at *
      generalize CF w (k + 6) = F at *
      generalize buy b one (y : Int) = V at *
      simp [peekV, readV, refV, res, finF, retD, args, D.arg, callO, bi, bi1, bi2, mx, mn, ab, D.item, items, dataD, tgLen, binop, cmpop, parS, slotD, lim, idxD, isTys, isTy, negD, Ev.bound, sliceD, D.seq, D.seqL, D.seqT, iterD, isOwn, wipeE_cons, wipeE_nil, mutable, mutS, mutate, get_ne, get_eq, wip_ne, g16, g15, hl, m, atI_1, eqS_int'])
  have e : evalE T0 (CF w (k + 6)) _ en st = Out.ok (.own (ilist (drys b one))) en st := e
  generalize ilist (drys b one) = L at *
  generalize CF w (k + 6) = F at *
  simp [b_law_24, peekV, readV, refV, res, finF, retD, args, D.arg, callO, bi, bi1, bi2, mx, mn, ab, D.item, items, dataD, tgLen, binop, cmpop, parS, slotD, lim, idxD, isTys, isTy, negD, Ev.bound, sliceD, D.seq, D.seqL, D.seqT, iterD, isOwn, wipeE_cons, wipeE_nil, mutable, mutS, mutate, e, hl]
theorem k9_25 (h : KU en b x one other lo hi r) : evalS T0 (CF w (k + 6)) w b_law_25 en st = .ok .nx (setS en 14 (.own (ilist (wets b one)))) st := by
  have hN : b + 1 = ((b + 1).toNat : Int) := by have := h.b0; omega
  have hb6 := h.b6
  have hl := h.len
  have g15 := h.g15
  have g16 := h.g16
  have hl1 := h.n1.len
  have e := comp_rngF (F := CF w (k + 6)) (en := en) (st := st) (i := 33) (a := .bin .add (.pk 15) (.lit (.int (1)))) (c := .cmp .eq (.idx (.call 40 (.cons (.var 16) (.cons (.var 15) (.cons (.var 33) .nil)))) (.lit (.int (2)))) (.lit (.int (0)))) (fun (y : Nat) => decide (spl b one (y : Int) = 0)) (b + 1) hN (by omega) (by simp [peekV, readV, refV, res, finF, retD, args, D.arg, callO, bi, bi1, bi2, mx, mn, ab, D.item, items, dataD, tgLen, binop, cmpop, parS, slotD, lim, idxD, isTys, isTy, negD, Ev.bound, sliceD, D.seq, D.seqL, D.seqT, iterD, isOwn, wipeE_cons, wipeE_nil, mutable, mutS, mutate, g15]) (by omega) h.o33
    (fun y hy => by
      have m := m_behind w (k + 4) st one b (y : Int) (by omega) h.ne
      have m : CF w (k + 6) 40 _ st = .ok (.tup [.int (lev b one (y : Int)), .int (buy b one (y : Int)), .int (spl b one (y : Int))]) st := m
      simp only [ti] at *
      generalize CF w (k + 6) = F at *
      generalize spl b one (y : Int) = V at *
      simp [peekV, readV, refV, res, finF, retD, args, D.arg, callO, bi, bi1, bi2, mx, mn, ab, D.item, items, dataD, tgLen, binop, cmpop, parS, slotD, lim, idxD, isTys, isTy, negD, Ev.bound, sliceD, D.seq, D.seqL, D.seqT, iterD, isOwn, wipeE_cons, wipeE_nil, mutable, mutS, mutate, get_ne, get_eq, wip_ne, g16, g15, hl, m, atI_2, eqS_int'])
  have e : evalE T0 (CF w (k + 6)) _ en st = Out.ok (.own (ilist (wets b one))) en st := e
  generalize ilist (wets b one) = L at *
  generalize CF w (k + 6) = F at *
  simp [b_law_25, peekV, readV, refV, res, finF, retD, args, D.arg, callO, bi, bi1, bi2, mx, mn, ab, D.item, items, dataD, tgLen, binop, cmpop, parS, slotD, lim, idxD, isTys, isTy, negD, Ev.bound, sliceD, D.seq, D.seqL, D.seqT, iterD, isOwn, wipeE_cons, wipeE_nil, mutable, mutS, mutate, e, hl]
def lfD (b : Int) (one : List Int) : D := if (partOf b one).m = 0 then .int (partOf b one).n else .non
def mfD (b : Int) (one : List Int) : D := if (partOf b one).o = 0 then .int (partOf b one).r else .non
def G2 (b x : Int) (one : List Int) (lo hi r : Nat) : List D := G1 b one lo hi r ++ [lfD b one, mfD b one, .lst (ilist (drys b one)), .lst (ilist (wets b one)), .int (lev b one x)]
theorem k9_26 (h : KU en b x one other lo hi r) (g3 : getS en 3 = some (.own (G1 b one lo hi r))) (g11 : getS en 11 = some (.own (ilist (drys b one)))) (g12 : getS en 12 = some (.own (ilist (wets b one)))) :
    evalS T0 (CF w (k + 6)) w b_law_26 en st = .ok .nx (setS (setS (setS en 11 (.lst (ilist (drys b one)))) 12 (.lst (ilist (wets b one)))) 3 (.own (G2 b x one lo hi r))) st := by
  have hl := h.len
  have g15 := h.g15
  have g24 := h.g24
  have g25 := h.g25
  have hl1 := h.n1.len
  have m1 := m_least_first w (k + 2) st one (swO one) b
  have m2 := m_most_first w (k + 2) st one (swO one) b
  have m3 := m_level_after w (k + 1) st one (swO one) b x (by omega) h.ne
  have hG : (G1 b one lo hi r).length = 6 := rfl
  have m1 : CF w (k + 6) 10 _ st = .ok (lfD b one) st := m1
  have m2 : CF w (k + 6) 11 _ st = .ok (mfD b one) st := m2
  have m3 : CF w (k + 6) 25 _ st = _ := m3
  have i1 : (∃ v, lfD b one = .int v) ∨ lfD b one = .non := by unfold lfD; split; exact .inl ⟨_, rfl⟩; exact .inr rfl
  have i2 : (∃ v, mfD b one = .int v) ∨ mfD b one = .non := by unfold mfD; split; exact .inl ⟨_, rfl⟩; exact .inr rfl
  unfold G2
  simp only [yD, ti] at *
  generalize G1 b one lo hi r = G at *
  generalize lfD b one = D1 at *
  generalize mfD b one = D2 at *
  generalize ilist (drys b one) = L1 at *
  generalize ilist (wets b one) = L2 at *
  generalize lev b one x = V at *
  generalize (swO one).map D.int = SW at *
  generalize one.map D.int = R at *
  generalize CF w (k + 6) = F at *
  rcases i1 with ⟨v1, rfl⟩ | rfl <;> rcases i2 with ⟨v2, rfl⟩ | rfl <;> simp [b_law_26, peekV, readV, refV, res, finF, retD, args, D.arg, callO, bi, bi1, bi2, mx, mn, ab, D.item, items, dataD, tgLen, binop, cmpop, parS, slotD, lim, idxD, isTys, isTy, negD, Ev.bound, sliceD, D.seq, D.seqL, D.seqT, iterD, isOwn, wipeE_cons, wipeE_nil, mutable, mutS, mutate, get_ne, get_eq, g3, g11, g12, g15, g24, g25, hl, m1, m2, m3, addL, hG]
theorem drys_first (hb : 0 ≤ b) : (if drys b one = [] then some D.non else ((ilist (drys b one))[0]?)) = some (lfD b one) := by
  have h := drys_spec (one := one) hb
  unfold lfD
  by_cases c : (partOf b one).m = 0
  · rw [if_pos c] at h ⊢
    obtain ⟨y, h1, h2⟩ := h
    have hne : drys b one ≠ [] := fun z => by rw [z] at h2; cases h2
    rw [if_neg hne, h1]
    unfold ilist
    rw [← List.head?_eq_getElem?, List.head?_map, List.head?_map, h2]; rfl
  · rw [if_neg c] at h ⊢
    rw [if_pos h]
theorem wets_last (hb : 0 ≤ b) : (if wets b one = [] then some D.non else ((ilist (wets b one)).getLast?)) = some (mfD b one) := by
  have h := wets_spec (one := one) hb
  unfold mfD
  by_cases c : (partOf b one).o = 0
  · rw [if_pos c] at h ⊢
    obtain ⟨y, h1, h2⟩ := h
    have hne : wets b one ≠ [] := fun z => by rw [z] at h2; cases h2
    rw [if_neg hne, h1]
    unfold ilist
    rw [List.getLast?_map, List.getLast?_map, h2]; rfl
  · rw [if_neg c] at h ⊢
    rw [if_pos h]
theorem ilist_nil (ys : List Nat) : eqD (.lst (ilist ys)) (.own []) = some (decide (ys = [])) ∧ eqD (.own (ilist ys)) (.own []) = some (decide (ys = [])) := by
  have h := intss_int (ys.map fun (y : Nat) => (y : Int))
  obtain ⟨h1, _, _, h2⟩ := eqD_nil h.1 (by rw [h.2]; omega)
  have e : (ilist ys).isEmpty = decide (ys = []) := by cases ys <;> simp [ilist]
  have h1 : eqD (.lst (ilist ys)) (.own []) = some (ilist ys).isEmpty := h1
  have h2 : eqD (.own (ilist ys)) (.own []) = some (ilist ys).isEmpty := h2
  rw [h1, h2, e]
  exact ⟨rfl, rfl⟩
theorem k9_27 (h : KU en b x one other lo hi r) (g9 : getS en 9 = some (.own (G1 b one lo hi r))) (g13 : getS en 13 = some (.own (ilist (drys b one)))) (g14 : getS en 14 = some (.own (ilist (wets b one)))) :
    ∃ en', evalS T0 (CF w (k + 6)) w b_law_27 en st = .ok .nx en' st ∧ getS en' 9 = some (.own (G2 b x one lo hi r)) ∧ getS en' 3 = getS en 3 ∧ en'.length = 36 := by
  have hl := h.len
  have g15 := h.g15
  have g16 := h.g16
  have g25 := h.g25
  have hl1 := h.n1.len
  have m := m_behind w (k + 4) st one b x (by omega) h.ne
  have m : CF w (k + 6) 40 _ st = .ok (.tup [.int (lev b one x), .int (buy b one x), .int (spl b one x)]) st := m
  have hG : (G1 b one lo hi r).length = 6 := rfl
  have d1 := drys_first (one := one) h.b0
  have d2 := wets_last (one := one) h.b0
  have n1 := ilist_nil (drys b one)
  have n2 := ilist_nil (wets b one)
  have i1 : (∃ v, lfD b one = .int v) ∨ lfD b one = .non := by unfold lfD; split; exact .inl ⟨_, rfl⟩; exact .inr rfl
  have i2 : (∃ v, mfD b one = .int v) ∨ mfD b one = .non := by unfold mfD; split; exact .inl ⟨_, rfl⟩; exact .inr rfl
  refine ⟨setS (setS (setS en 13 (.lst (ilist (drys b one)))) 14 (.lst (ilist (wets b one)))) 9 (.own (G2 b x one lo hi r)), ?_, get_eq (by rw [lenS, lenS]; omega), by rw [get_ne (by decide), get_ne (by decide), get_ne (by decide)], by simp only [lenS]; exact hl⟩
  unfold G2
  simp only [ti] at *
  generalize G1 b one lo hi r = G at *
  generalize lfD b one = D1 at *
  generalize mfD b one = D2 at *
  generalize ilist (drys b one) = L1 at *
  generalize ilist (wets b one) = L2 at *
  generalize lev b one x = V at *
  generalize one.map D.int = R at *
  generalize CF w (k + 6) = F at *
  obtain ⟨n1, n1'⟩ := n1
  obtain ⟨n2, n2'⟩ := n2
  by_cases c1 : drys b one = [] <;> by_cases c2 : wets b one = []
  · have c1 := eq_true c1
    have c2 := eq_true c2
    simp only [c1, c2, decide_true, if_true] at n1 n2 d1 d2
    cases d1; cases d2
    simp [b_law_27, peekV, readV, refV, res, finF, retD, args, D.arg, callO, bi, bi1, bi2, mx, mn, ab, D.item, items, dataD, tgLen, binop, cmpop, parS, slotD, lim, idxD, isTys, isTy, negD, Ev.bound, sliceD, D.seq, D.seqL, D.seqT, iterD, isOwn, wipeE_cons, wipeE_nil, mutable, mutS, mutate, get_ne, get_eq, g9, g13, g14, g15, g16, g25, hl, m, n1, n2, addL, hG, atI_0]
  · have c1 := eq_true c1
    have c2 := eq_false c2
    simp only [c1, c2, decide_true, decide_false, if_true, if_false] at n1 n2 d1 d2
    cases d1
    rcases i2 with ⟨v2, rfl⟩ | rfl <;> simp [b_law_27, peekV, readV, refV, res, finF, retD, args, D.arg, callO, bi, bi1, bi2, mx, mn, ab, D.item, items, dataD, tgLen, binop, cmpop, parS, slotD, lim, idxD, isTys, isTy, negD, Ev.bound, sliceD, D.seq, D.seqL, D.seqT, iterD, isOwn, wipeE_cons, wipeE_nil, mutable, mutS, mutate, get_ne, get_eq, g9, g13, g14, g15, g16, g25, hl, m, n1, n2, addL, hG, atI_0, atI_m1, d2]
  · have c1 := eq_false c1
    have c2 := eq_true c2
    simp only [c1, c2, decide_true, decide_false, if_true, if_false] at n1 n2 d1 d2
    cases d2
    rcases i1 with ⟨v1, rfl⟩ | rfl <;> simp [b_law_27, peekV, readV, refV, res, finF, retD, args, D.arg, callO, bi, bi1, bi2, mx, mn, ab, D.item, items, dataD, tgLen, binop, cmpop, parS, slotD, lim, idxD, isTys, isTy, negD, Ev.bound, sliceD, D.seq, D.seqL, D.seqT, iterD, isOwn, wipeE_cons, wipeE_nil, mutable, mutS, mutate, get_ne, get_eq, g9, g13, g14, g15, g16, g25, hl, m, n1, n2, addL, hG, atI_0, atI_m1, d1]
  · have c1 := eq_false c1
    have c2 := eq_false c2
    simp only [c1, c2, decide_true, decide_false, if_true, if_false] at n1 n2 d1 d2
    rcases i1 with ⟨v1, rfl⟩ | rfl <;> rcases i2 with ⟨v2, rfl⟩ | rfl <;> simp [b_law_27, peekV, readV, refV, res, finF, retD, args, D.arg, callO, bi, bi1, bi2, mx, mn, ab, D.item, items, dataD, tgLen, binop, cmpop, parS, slotD, lim, idxD, isTys, isTy, negD, Ev.bound, sliceD, D.seq, D.seqL, D.seqT, iterD, isOwn, wipeE_cons, wipeE_nil, mutable, mutS, mutate, get_ne, get_eq, g9, g13, g14, g15, g16, g25, hl, m, n1, n2, addL, hG, atI_0, atI_m1, d1, d2]
theorem G2_ints : intss (G2 b x one lo hi r) = true ∧ deps (G2 b x one lo hi r) ≤ 3 := by
  have h1 := intss_int ((drys b one).map fun (y : Nat) => (y : Int))
  have h2 := intss_int ((wets b one).map fun (y : Nat) => (y : Int))
  have h1 : intss (ilist (drys b one)) = true ∧ deps (ilist (drys b one)) = 0 := h1
  have h2 : intss (ilist (wets b one)) = true ∧ deps (ilist (wets b one)) = 0 := h2
  have i1 : (∃ v, lfD b one = .int v) ∨ lfD b one = .non := by unfold lfD; split; exact .inl ⟨_, rfl⟩; exact .inr rfl
  have i2 : (∃ v, mfD b one = .int v) ∨ mfD b one = .non := by unfold mfD; split; exact .inl ⟨_, rfl⟩; exact .inr rfl
  unfold G2 G1 G0
  constructor
  · rcases i1 with ⟨v1, e1⟩ | e1 <;> rcases i2 with ⟨v2, e2⟩ | e2 <;> simp [intss, intsD, e1, e2, h1.1, h2.1]
  · rcases i1 with ⟨v1, e1⟩ | e1 <;> rcases i2 with ⟨v2, e2⟩ | e2 <;> simp [deps, depD, e1, e2, h1.2, h2.2]
theorem k9_28 (hG : ∃ xs, intss xs = true ∧ deps xs ≤ 3 ∧ getS en 3 = some (.own xs) ∧ getS en 9 = some (.own xs)) (hl : en.length = 36) : ∃ en', evalS T0 (CF w (k + 6)) w b_law_28 en st = .ok (.rt (.bl true)) en' st := by
  obtain ⟨xs, h1, h2, g3, g9⟩ := hG
  have m4 := same_list w (k + 1) st h1 h2
  have m4 : CF w (k + 6) 35 _ st = _ := m4
  refine ⟨setS (setS en 3 (.lst xs)) 9 (.lst xs), ?_⟩
  generalize CF w (k + 6) = F at *
  simp [b_law_28, peekV, readV, refV, res, finF, retD, args, D.arg, callO, bi, bi1, bi2, mx, mn, ab, D.item, items, dataD, tgLen, binop, cmpop, parS, slotD, lim, idxD, isTys, isTy, negD, Ev.bound, sliceD, D.seq, D.seqL, D.seqT, iterD, isOwn, wipeE_cons, wipeE_nil, mutable, mutS, mutate, get_ne, get_eq, g3, g9, hl, m4]
end
end Mr

end
section
set_option Elab.async false
set_option linter.all false
set_option maxRecDepth 100000
set_option maxHeartbeats 4000000
/-! KA: law k77, whole. -/
namespace Mr
open Ev Mh
section
variable {w k n : Nat} {en : Ev.Env} {st : Store} {b x : Int} {one other : List Int}
theorem ka_0 {ns : List Int} (hl : en.length = 36) (g0 : getS en 0 = some (.frz (ns.map .int))) : ∃ a b : Int, evalS T0 (CF w (k + 6)) w b_law_0 en st = .ok .nx (setS en 1 (.own [.int a, .int b, .int 0])) st := by
  obtain ⟨c, m1⟩ := m_cells w (k + 5) st ns
  obtain ⟨a, b, m2⟩ := m_box w (k + 5) st c
  refine ⟨a, b, ?_⟩
  have m1 : CF w (k + 6) 33 _ st = _ := m1
  have m2 : CF w (k + 6) 31 _ st = _ := m2
  generalize ns.map D.int = N at *
  generalize CF w (k + 6) = F at *
  simp [b_law_0, peekV, readV, refV, res, finF, retD, args, D.arg, callO, bi, bi1, bi2, mx, mn, ab, D.item, items, dataD, tgLen, binop, cmpop, parS, slotD, lim, idxD, isTys, isTy, negD, Ev.bound, sliceD, D.seq, D.seqL, D.seqT, iterD, isOwn, wipeE_cons, wipeE_nil, mutable, mutS, mutate, g0, hl, m1, m2]
theorem ka_1 (hl : en.length = 36) {a c : Int} (g1 : getS en 1 = some (.own [.int a, .int c, .int 0])) : ∃ (b : Int) (one other : List Int) (st' : Store), 0 ≤ b ∧ b ≤ 6 ∧ Runs 5 4 one ∧ Runs 4 4 other ∧ Urn 23 st' ∧
    evalS T0 (CF w (k + 6)) w b_law_1 en [] = .ok .nx (setS (setS (setS (setS en 1 (.cell 0)) 15 (.int b)) 16 (ti one)) 17 (ti other)) st' := by
  have hu : Urn 0 [[.int a, .int c, .int 0]] := ⟨a, c, 0, rfl, by omega, by omega⟩
  obtain ⟨b, st1, b0, b1, u1, e1⟩ := m_take (w := w) (k := k + 5) hu (by omega) (low := 7) (by omega) (by omega)
  obtain ⟨one, st2, r1, u2, e2⟩ := m_row (w := w) (k := k + 3) (most := 5) u1 (by omega) (by omega) (by omega)
  obtain ⟨other, st3, r2, u3, e3⟩ := m_row (w := w) (k := k + 3) (most := 4) u2 (by omega) (by omega) (by omega)
  refine ⟨b, one, other, st3, b0, by omega, r1, r2, u3.mono (by simp), ?_⟩
  have e1 : CF w (k + 6) 32 _ _ = _ := e1
  have e2 : CF w (k + 6) 45 _ _ = _ := e2
  have e3 : CF w (k + 6) 45 _ _ = _ := e3
  simp only [ti] at *
  generalize one.map D.int = R1 at *
  generalize other.map D.int = R2 at *
  generalize CF w (k + 6) = F at *
  simp [b_law_1, peekV, readV, refV, res, finF, retD, args, D.arg, callO, bi, bi1, bi2, mx, mn, ab, D.item, items, dataD, tgLen, binop, cmpop, parS, slotD, lim, idxD, isTys, isTy, negD, Ev.bound, sliceD, D.seq, D.seqL, D.seqT, iterD, isOwn, wipeE_cons, wipeE_nil, mutable, mutS, mutate, get_ne, get_eq, g1, hl, e1, e2, e3]
theorem ka_2 (hl : en.length = 36) (hu : Urn n st) (hn : n ≤ 1000) (g1 : getS en 1 = some (.cell 0)) (g15 : getS en 15 = some (.int b)) (g16 : getS en 16 = some (ti one)) (g17 : getS en 17 = some (ti other)) : ∃ st', Urn (n + 1) st' ∧
    evalS T0 (CF w (k + 6)) w b_law_2 en st = .ok .nx (setS (setS en 18 (pD (partOf b one))) 19 (pD (partOf b other))) st' := by
  obtain ⟨d, st', hd, u, ms⟩ := m_soft (w := w) (k := k + 3) (xs := one) hu (by omega)
  have m1 := m_part_of w (k + 3) st' _ one b .t
  have m2 := m_part_of w (k + 3) st' _ one b .l
  have m3 := m_part_of w (k + 3) st' _ other b .t
  refine ⟨st', u, ?_⟩
  have ms : CF w (k + 6) 37 _ _ = _ := ms
  simp only [ti, li, pD] at *
  generalize one.map D.int = R1 at *
  generalize other.map D.int = R2 at *
  generalize CF w (k + 6) = F at *
  rcases hd with rfl | rfl
  · simp [b_law_2, peekV, readV, refV, res, finF, retD, args, D.arg, callO, bi, bi1, bi2, mx, mn, ab, D.item, items, dataD, tgLen, binop, cmpop, parS, slotD, lim, idxD, isTys, isTy, negD, Ev.bound, sliceD, D.seq, D.seqL, D.seqT, iterD, isOwn, wipeE_cons, wipeE_nil, mutable, mutS, mutate, get_ne, get_eq, g1, g15, g16, g17, hl, ms, m2, m3]
  · simp [b_law_2, peekV, readV, refV, res, finF, retD, args, D.arg, callO, bi, bi1, bi2, mx, mn, ab, D.item, items, dataD, tgLen, binop, cmpop, parS, slotD, lim, idxD, isTys, isTy, negD, Ev.bound, sliceD, D.seq, D.seqL, D.seqT, iterD, isOwn, wipeE_cons, wipeE_nil, mutable, mutS, mutate, get_ne, get_eq, g1, g15, g16, g17, hl, ms, m1, m3]
end
theorem seq_nx {F : Fn} {w : Nat} {a b : S} {en en' : Ev.Env} {st st' : Store} {o : Out Flow} (h : evalS T0 F w a en st = .ok .nx en' st') (h2 : evalS T0 F w b en' st' = o) : evalS T0 F w (.seq a b) en st = o := by
  rw [xs_seq, h]; exact h2
theorem seq_rt {F : Fn} {w : Nat} {a b : S} {en en' : Ev.Env} {st st' : Store} {d : D} (h : evalS T0 F w a en st = .ok (.rt d) en' st') : evalS T0 F w (.seq a b) en st = .ok (.rt d) en' st' := by
  rw [xs_seq, h]; rfl
theorem law_true (ns : List Int) : ∃ st, callF T0 PT 300 20 46 [.frz (ns.map D.int)] [] = .ok (.bl true) st := by
  have hbody : ∃ en st, evalS T0 (CF 300 19) 300 b_law ([D.frz (ns.map D.int)].map some ++ List.replicate (36 - 1) none) [] = .ok (.rt (.bl true)) en st := by
    generalize hen : ([D.frz (ns.map D.int)].map some ++ List.replicate (36 - 1) none : Ev.Env) = en
    have hl : en.length = 36 := by rw [← hen]; simp
    have g0 : getS en 0 = some (.frz (ns.map .int)) := by rw [← hen]; rfl
    have o27 : isOwn en 27 = false := by rw [← hen]; rfl
    have o29 : isOwn en 29 = false := by rw [← hen]; rfl
    have o33 : isOwn en 33 = false := by rw [← hen]; rfl
    have o34 : isOwn en 34 = false := by rw [← hen]; rfl
    have o35 : isOwn en 35 = false := by rw [← hen]; rfl
    obtain ⟨a, c, s0⟩ := ka_0 (w := 300) (k := 13) (st := []) hl g0
    obtain ⟨b, one, other, st1, b0, b6, r1, r2, u1, s1⟩ := ka_1 (w := 300) (k := 13) (en := setS en 1 (.own [.int a, .int c, .int 0])) (by rw [lenS]; exact hl) (get_eq (by omega))
    have hl2 : (setS (setS (setS (setS (setS en 1 (.own [.int a, .int c, .int 0])) 1 (.cell 0)) 15 (.int b)) 16 (ti one)) 17 (ti other)).length = 36 := by simp only [lenS]; exact hl
    have f1 : getS (setS (setS (setS (setS (setS en 1 (.own [.int a, .int c, .int 0])) 1 (.cell 0)) 15 (.int b)) 16 (ti one)) 17 (ti other)) 1 = some (.cell 0) := by
      rw [get_ne (by decide), get_ne (by decide), get_ne (by decide), get_eq (by simp only [lenS]; omega)]
    have f15 : getS (setS (setS (setS (setS (setS en 1 (.own [.int a, .int c, .int 0])) 1 (.cell 0)) 15 (.int b)) 16 (ti one)) 17 (ti other)) 15 = some (.int b) := by
      rw [get_ne (by decide), get_ne (by decide), get_eq (by simp only [lenS]; omega)]
    have f16 : getS (setS (setS (setS (setS (setS en 1 (.own [.int a, .int c, .int 0])) 1 (.cell 0)) 15 (.int b)) 16 (ti one)) 17 (ti other)) 16 = some (ti one) := by
      rw [get_ne (by decide), get_eq (by simp only [lenS]; omega)]
    have f17 : getS (setS (setS (setS (setS (setS en 1 (.own [.int a, .int c, .int 0])) 1 (.cell 0)) 15 (.int b)) 16 (ti one)) 17 (ti other)) 17 = some (ti other) := by
      rw [get_eq (by simp only [lenS]; omega)]
    have p27 : isOwn (setS (setS (setS (setS (setS en 1 (.own [.int a, .int c, .int 0])) 1 (.cell 0)) 15 (.int b)) 16 (ti one)) 17 (ti other)) 27 = false := by simp [own_set_ne, o27]
    have p29 : isOwn (setS (setS (setS (setS (setS en 1 (.own [.int a, .int c, .int 0])) 1 (.cell 0)) 15 (.int b)) 16 (ti one)) 17 (ti other)) 29 = false := by simp [own_set_ne, o29]
    have p33 : isOwn (setS (setS (setS (setS (setS en 1 (.own [.int a, .int c, .int 0])) 1 (.cell 0)) 15 (.int b)) 16 (ti one)) 17 (ti other)) 33 = false := by simp [own_set_ne, o33]
    have p34 : isOwn (setS (setS (setS (setS (setS en 1 (.own [.int a, .int c, .int 0])) 1 (.cell 0)) 15 (.int b)) 16 (ti one)) 17 (ti other)) 34 = false := by simp [own_set_ne, o34]
    have p35 : isOwn (setS (setS (setS (setS (setS en 1 (.own [.int a, .int c, .int 0])) 1 (.cell 0)) 15 (.int b)) 16 (ti one)) 17 (ti other)) 35 = false := by simp [own_set_ne, o35]
    generalize (setS (setS (setS (setS (setS en 1 (.own [.int a, .int c, .int 0])) 1 (.cell 0)) 15 (.int b)) 16 (ti one)) 17 (ti other)) = e1 at *
    obtain ⟨st2, u2, s2⟩ := ka_2 (w := 300) (k := 13) hl2 u1 (by omega) f1 f15 f16 f17
    have h3 : KS (setS (setS e1 18 (pD (partOf b one))) 19 (pD (partOf b other))) b one other := {
      len := by simp only [lenS]; exact hl2
      b0 := b0
      b6 := b6
      n1 := r1
      n2 := r2
      g1 := by rw [get_ne (by decide), get_ne (by decide)]; exact f1
      g15 := by rw [get_ne (by decide), get_ne (by decide)]; exact f15
      g16 := by rw [get_ne (by decide), get_ne (by decide)]; exact f16
      g17 := by rw [get_ne (by decide), get_ne (by decide)]; exact f17
      g18 := by rw [get_ne (by decide), get_eq (by omega)]
      g19 := by rw [get_eq (by rw [lenS]; omega)]
      o27 := by simp [own_set_ne, p27]
      o29 := by simp [own_set_ne, p29]
      o33 := by simp [own_set_ne, p33]
      o34 := by simp [own_set_ne, p34]
      o35 := by simp [own_set_ne, p35] }
    generalize setS (setS e1 18 (pD (partOf b one))) 19 (pD (partOf b other)) = e2 at *
    obtain ⟨e3, st3, s3, h4, u3⟩ := k3_all (w := 300) (k := 14) h3 u2 (by omega) (by omega)
    obtain ⟨e4, st4, s4, h5, u4⟩ := k4_all (w := 300) (k := 14) h4 u3 (by omega)
    have s5 := k5_5 (w := 300) (k := 14) (st := st4) h5
    have h6 : KS (setS e4 3 (.own [.bl false, .bl false, .lst [.bl false, .bl true, .bl true, .bl false], .bl false, pD (idP b)])) b one other := h5.set rfl
    have s6 := k5_6 (w := 300) (k := 14) (st := st4) h6 (get_eq (by rw [h5.len]; omega))
    have h7 : KS (setS (setS e4 3 (.own [.bl false, .bl false, .lst [.bl false, .bl true, .bl true, .bl false], .bl false, pD (idP b)])) 3 (.lst [.bl false, .bl false, .lst [.bl false, .bl true, .bl true, .bl false], .bl false, pD (idP b)])) b one other := h6.set rfl
    generalize setS (setS e4 3 (.own [.bl false, .bl false, .lst [.bl false, .bl true, .bl true, .bl false], .bl false, pD (idP b)])) 3 (.lst [.bl false, .bl false, .lst [.bl false, .bl true, .bl true, .bl false], .bl false, pD (idP b)]) = e6 at *
    have s7 := k5_7 (w := 300) (k := 14) (st := st4) h7
    unfold b_law
    by_cases hone : one = []
    · rw [if_pos hone] at s7
      exact ⟨_, _, seq_nx s0 (seq_nx s1 (seq_nx s2 (seq_nx s3 (seq_nx s4 (seq_nx s5 (seq_nx s6 (seq_rt s7)))))))⟩
    · rw [if_neg hone] at s7
      obtain ⟨x, e7, st5, s8, t1, u5⟩ := k5_8 (w := 300) (k := 14) h7 u4 (by omega) hone (by omega)
      obtain ⟨e8, s9, t2, g27, g28⟩ := k5_9 (w := 300) (k := 14) (st := st5) t1
      obtain ⟨e9, s10, t3, g28b⟩ := k6_10 (w := 300) (k := 14) (st := st5) t2 g27 g28
      obtain ⟨e10, s11, t4, g28c, g3, g9⟩ := k7_11 (w := 300) (k := 13) (st := st5) t3 g28b
      obtain ⟨e11, s12, t5, g3b, g9b⟩ := k7_12 (w := 300) (k := 13) (st := st5) t4 (by omega) g28c g3 g9
      obtain ⟨e12, s13, t6⟩ := k7_13 (w := 300) (k := 13) (st := st5) t5 g3b g9b
      have s14 := k7_14 (w := 300) (k := 13) (st := st5) t6
      have t7 : KT (setS e12 6 (.own (((stands b one).map fun (y : Nat) => (y : Int)).map .int))) b x one other := t6.set rfl
      have g6 : getS (setS e12 6 (.own (((stands b one).map fun (y : Nat) => (y : Int)).map .int))) 6 = _ := get_eq (by rw [t6.len]; omega)
      generalize setS e12 6 (.own (((stands b one).map fun (y : Nat) => (y : Int)).map .int)) = e13 at *
      obtain ⟨r, st6, hr, u6, s15⟩ := k7_15 (w := 300) (k := 13) t7 u5 (by omega)
      obtain ⟨lo, hi, q1, q2, q3, q4, q5⟩ := stands_spec (one := one) b0
      have v0 : KU (setS (setS e13 30 (.int (10 ^ 20))) 31 (.int (r : Int))) b x one other lo hi r := {
        toKT := (t7.set rfl).set rfl
        s1 := q1
        s2 := q2
        s3 := q3
        s4 := q4
        s5 := q5
        rl := hr
        g6 := by rw [get_ne (by decide), get_ne (by decide)]; exact g6
        g30 := by rw [get_ne (by decide), get_eq (by rw [t7.len]; omega)]
        g31 := by rw [get_eq (by rw [lenS, t7.len]; omega)] }
      generalize setS (setS e13 30 (.int (10 ^ 20))) 31 (.int (r : Int)) = e14 at *
      have s16 := k8_16 (w := 300) (k := 13) (st := st6) v0
      have v1 : KU (setS e14 7 (.int (lo : Int))) b x one other lo hi r := v0.set rfl
      have g7 : getS (setS e14 7 (.int (lo : Int))) 7 = some (.int (lo : Int)) := get_eq (by rw [v0.len]; omega)
      generalize setS e14 7 (.int (lo : Int)) = e15 at *
      have s17 := k8_17 (w := 300) (k := 13) (st := st6) v1 g7
      have v2 : KU (setS e15 8 (trD (endT b (one.take r) (lo : Int)))) b x one other lo hi r := v1.set rfl
      have g8 : getS (setS e15 8 (trD (endT b (one.take r) (lo : Int)))) 8 = some (trD (endT b (one.take r) (lo : Int))) := get_eq (by rw [v1.len]; omega)
      have g7b : getS (setS e15 8 (trD (endT b (one.take r) (lo : Int)))) 7 = some (.int (lo : Int)) := by rw [get_ne (by decide)]; exact g7
      generalize setS e15 8 (trD (endT b (one.take r) (lo : Int))) = e16 at *
      have s18 := k8_18 (w := 300) (k := 13) (st := st6) v2 (by omega) g7b
      have v3 : KU (setS e16 3 (.own (G0 b one lo hi r))) b x one other lo hi r := v2.set rfl
      have g8b : getS (setS e16 3 (.own (G0 b one lo hi r))) 8 = some (trD (endT b (one.take r) (lo : Int))) := by rw [get_ne (by decide)]; exact g8
      have g7c : getS (setS e16 3 (.own (G0 b one lo hi r))) 7 = some (.int (lo : Int)) := by rw [get_ne (by decide)]; exact g7b
      have g3c : getS (setS e16 3 (.own (G0 b one lo hi r))) 3 = some (.own (G0 b one lo hi r)) := get_eq (by rw [v2.len]; omega)
      generalize setS e16 3 (.own (G0 b one lo hi r)) = e17 at *
      have s19 := k8_19 (w := 300) (k := 13) (st := st6) v3 g8b
      have v4 : KU (setS e17 9 (.own (G0 b one lo hi r))) b x one other lo hi r := v3.set rfl
      have g7d : getS (setS e17 9 (.own (G0 b one lo hi r))) 7 = some (.int (lo : Int)) := by rw [get_ne (by decide)]; exact g7c
      have g3d : getS (setS e17 9 (.own (G0 b one lo hi r))) 3 = some (.own (G0 b one lo hi r)) := by rw [get_ne (by decide)]; exact g3c
      have g9d : getS (setS e17 9 (.own (G0 b one lo hi r))) 9 = some (.own (G0 b one lo hi r)) := get_eq (by rw [v3.len]; omega)
      generalize setS e17 9 (.own (G0 b one lo hi r)) = e18 at *
      obtain ⟨q, hD, s20⟩ := k9_20 (w := 300) (k := 13) (st := st6) v4 (by omega)
      have v5 : KU (setS e18 10 (pD q)) b x one other lo hi r := v4.set rfl
      have s21 := k9_21 (w := 300) (k := 13) (st := st6) v5 hD (by rw [get_ne (by decide)]; exact g3d) (by rw [get_ne (by decide)]; exact g9d) (by rw [get_ne (by decide)]; exact g7d) (get_eq (by rw [v4.len]; omega))
      have v6 : KU (setS (setS (setS e18 10 (pD q)) 3 (.own (G1 b one lo hi r))) 9 (.own (G1 b one lo hi r))) b x one other lo hi r := (v5.set rfl).set rfl
      have g3e : getS (setS (setS (setS e18 10 (pD q)) 3 (.own (G1 b one lo hi r))) 9 (.own (G1 b one lo hi r))) 3 = some (.own (G1 b one lo hi r)) := by rw [get_ne (by decide), get_eq (by rw [v5.len]; omega)]
      have g9e : getS (setS (setS (setS e18 10 (pD q)) 3 (.own (G1 b one lo hi r))) 9 (.own (G1 b one lo hi r))) 9 = some (.own (G1 b one lo hi r)) := get_eq (by rw [lenS, v5.len]; omega)
      generalize setS (setS (setS e18 10 (pD q)) 3 (.own (G1 b one lo hi r))) 9 (.own (G1 b one lo hi r)) = e19 at *
      have s22 := k9_22 (w := 300) (k := 13) (st := st6) v6
      have v7 : KU (setS e19 11 (.own (ilist (drys b one)))) b x one other lo hi r := v6.set rfl
      have s23 := k9_23 (w := 300) (k := 13) (st := st6) v7
      have v8 : KU (setS (setS e19 11 (.own (ilist (drys b one)))) 12 (.own (ilist (wets b one)))) b x one other lo hi r := v7.set rfl
      have s24 := k9_24 (w := 300) (k := 13) (st := st6) v8
      have v9 : KU (setS (setS (setS e19 11 (.own (ilist (drys b one)))) 12 (.own (ilist (wets b one)))) 13 (.own (ilist (drys b one)))) b x one other lo hi r := v8.set rfl
      have s25 := k9_25 (w := 300) (k := 13) (st := st6) v9
      have v10 : KU (setS (setS (setS (setS e19 11 (.own (ilist (drys b one)))) 12 (.own (ilist (wets b one)))) 13 (.own (ilist (drys b one)))) 14 (.own (ilist (wets b one)))) b x one other lo hi r := v9.set rfl
      have s26 := k9_26 (w := 300) (k := 13) (st := st6) v10 (by rw [get_ne (by decide), get_ne (by decide), get_ne (by decide), get_ne (by decide)]; exact g3e) (by rw [get_ne (by decide), get_ne (by decide), get_ne (by decide), get_eq (by rw [v6.len]; omega)]) (by rw [get_ne (by decide), get_ne (by decide), get_eq (by rw [v7.len]; omega)])
      have v11 : KU (setS (setS (setS (setS (setS (setS (setS e19 11 (.own (ilist (drys b one)))) 12 (.own (ilist (wets b one)))) 13 (.own (ilist (drys b one)))) 14 (.own (ilist (wets b one)))) 11 (.lst (ilist (drys b one)))) 12 (.lst (ilist (wets b one)))) 3 (.own (G2 b x one lo hi r))) b x one other lo hi r := ((v10.set rfl).set rfl).set rfl
      have k9 : getS (setS (setS (setS (setS (setS (setS (setS e19 11 (.own (ilist (drys b one)))) 12 (.own (ilist (wets b one)))) 13 (.own (ilist (drys b one)))) 14 (.own (ilist (wets b one)))) 11 (.lst (ilist (drys b one)))) 12 (.lst (ilist (wets b one)))) 3 (.own (G2 b x one lo hi r))) 9 = some (.own (G1 b one lo hi r)) := by
        rw [get_ne (by decide), get_ne (by decide), get_ne (by decide), get_ne (by decide), get_ne (by decide), get_ne (by decide), get_ne (by decide)]; exact g9e
      have k13 : getS (setS (setS (setS (setS (setS (setS (setS e19 11 (.own (ilist (drys b one)))) 12 (.own (ilist (wets b one)))) 13 (.own (ilist (drys b one)))) 14 (.own (ilist (wets b one)))) 11 (.lst (ilist (drys b one)))) 12 (.lst (ilist (wets b one)))) 3 (.own (G2 b x one lo hi r))) 13 = some (.own (ilist (drys b one))) := by
        rw [get_ne (by decide), get_ne (by decide), get_ne (by decide), get_ne (by decide), get_eq (by rw [v8.len]; omega)]
      have k14 : getS (setS (setS (setS (setS (setS (setS (setS e19 11 (.own (ilist (drys b one)))) 12 (.own (ilist (wets b one)))) 13 (.own (ilist (drys b one)))) 14 (.own (ilist (wets b one)))) 11 (.lst (ilist (drys b one)))) 12 (.lst (ilist (wets b one)))) 3 (.own (G2 b x one lo hi r))) 14 = some (.own (ilist (wets b one))) := by
        rw [get_ne (by decide), get_ne (by decide), get_ne (by decide), get_eq (by rw [v9.len]; omega)]
      have k3 : getS (setS (setS (setS (setS (setS (setS (setS e19 11 (.own (ilist (drys b one)))) 12 (.own (ilist (wets b one)))) 13 (.own (ilist (drys b one)))) 14 (.own (ilist (wets b one)))) 11 (.lst (ilist (drys b one)))) 12 (.lst (ilist (wets b one)))) 3 (.own (G2 b x one lo hi r))) 3 = some (.own (G2 b x one lo hi r)) := get_eq (by rw [lenS, lenS, v10.len]; omega)
      obtain ⟨e20, s27, j9, j3, hl20⟩ := k9_27 (w := 300) (k := 13) (st := st6) v11 k9 k13 k14
      obtain ⟨e21, s28⟩ := k9_28 (w := 300) (k := 13) (en := e20) (st := st6) ⟨_, G2_ints.1, G2_ints.2, j3.trans k3, j9⟩ hl20
      exact ⟨_, _, seq_nx s0 (seq_nx s1 (seq_nx s2 (seq_nx s3 (seq_nx s4 (seq_nx s5 (seq_nx s6 (seq_nx s7 (seq_nx s8 (seq_nx s9 (seq_nx s10 (seq_nx s11 (seq_nx s12 (seq_nx s13 (seq_nx s14 (seq_nx s15 (seq_nx s16 (seq_nx s17 (seq_nx s18 (seq_nx s19 (seq_nx s20 (seq_nx s21 (seq_nx s22 (seq_nx s23 (seq_nx s24 (seq_nx s25 (seq_nx s26 (seq_nx s27 (seq_rt s28))))))))))))))))))))))))))))⟩
  obtain ⟨en, st, e⟩ := hbody
  refine ⟨[], ?_⟩
  rw [callF_def p_law rfl]
  have e : evalS T0 (callF T0 PT 300 19) 300 b_law _ [] = _ := e
  rw [e]
  rfl
end Mr

end
section
set_option maxRecDepth 100000
theorem pt_eq : Lw.ptL = Mr.tbL := by kernel_rfl
theorem pt_eq' : Lw.Pt = Mr.PT := by
  funext g
  show Lw.ptL[g]? = Mr.tbL[g]?
  rw [pt_eq]
end
set_option maxRecDepth 100000 in
set_option maxHeartbeats 8000000 in
theorem PySem.Challenge.cw_allbutts_k77_across_parts_walks_and_far_holds : PySem.Challenge.rw_allbutts_k77_across_parts_walks_and_far.Holds := by
  refine law_holds fun ns _ => ?_
  rw [pt_eq']
  exact Mr.law_true ns
