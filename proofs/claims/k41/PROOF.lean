import PyProof.Rows.All
import Wide.All
import OpenK.AllK
import Wide.FinOn
import HandS.Strs
import HandS.Exc
import HandS.ExcIs
import HandS.IsInst
import HandS.ForMost
import HandS.ExcOwn
import HandS.WordsExc
import HandS.TupAny
import HandS.Flow
import HandS.Dict
import PyProof.P3Eq
import HandS.RaiseMore
import HandS.HeadHook3
import HandS.CallRecv
import HandS.Style
import PyProof.DictCopy
import PySem.Challenge.RW_thinghall_k41_whole_looked_at
set_option Elab.async false
set_option linter.all false
set_option maxRecDepth 100000
set_option maxHeartbeats 4000000
/-! len(set(xs)) of a tuple or list of any texts -/
namespace ML
open PySem PySem.Spec PyProof.Rows
def metS (a : List Str) (x : Str) : List Str := if a.any (· == x) = true then a else a ++ [x]
/-- each text once, where it is first met -/
def met (xs : List Str) : List Str := xs.foldl metS []
theorem met_snoc (xs : List Str) (x : Str) : met (xs ++ [x]) = metS (met xs) x := by simp [met, List.foldl_append]
theorem metS_any (a : List Str) (x k : Str) : (metS a x).any (· == k) = (a.any (· == k) || decide (k = x)) := by
  unfold metS
  split
  · rename_i h
    by_cases e : k = x
    · rw [e, h]; rfl
    · rw [decide_eq_false e, Bool.or_false]
  · rw [List.any_append]
    congr 1
    by_cases e : k = x
    · simp [e]
    · have z : (x == k) = false := beq_eq_false_iff_ne.mpr fun z => e z.symm
      simp [e, z]
theorem metS_len (a : List Str) (x : Str) : (metS a x).length = if a.any (· == x) = true then a.length else a.length + 1 := by
  unfold metS
  split
  · rfl
  · simp
theorem met_le : ∀ xs : List Str, (met xs).length ≤ xs.length := by
  intro xs
  have gen : ∀ (xs a : List Str), (xs.foldl metS a).length ≤ a.length + xs.length := by
    intro xs
    induction xs with
    | nil => intro a; exact Nat.le_refl _
    | cons x xs ih =>
      intro a
      refine Nat.le_trans (ih (metS a x)) ?_
      rw [metS_len]
      simp only [List.length_cons]
      split <;> omega
  have := gen xs []
  simpa [met] using this
theorem take_snoc {xs : List Str} {i : Nat} (h : i < xs.length) : xs.take (i + 1) = xs.take i ++ [xs.getD i Str.empty] := by
  rw [List.take_succ, List.getElem?_eq_getElem h]
  simp [List.getD, List.getElem?_eq_getElem h]
/-- a set with nothing in it -/
abbrev set0 (led : Bool) : Obj := { cls := .type "set", dict := none, data := .set #[] 0 (.fresh 0 0 led) }
section
variable {prog : Program} {w : World} {A : Around} {R : Result → Shared → Prop}
  {I : Addr} {fp wr : List Addr} {G : Array GenState → Array GenState → Prop} {n : Nat} {P : Nat → Value → Prop} {St : Nat → Shared → Prop}
theorem turnsS (W : WalksS prog w A.in1 I fp wr G n P St) (B : Addr) (nf : B ∉ fp) (xs : List Str) (el : xs.length = n) (room : n + 1 < scanBound)
    (vl : ∀ i v, P i v → ∃ t, v = .str (xs.getD i Str.empty) t) : ∀ (k i : Nat) (s : Shared), n - i = k → i ≤ n → St i s →
      s.heap.SetOf (PySem.strKind prog w) B (fun z => (met (xs.take i)).any (· == z)) (met (xs.take i)).length →
      (∀ s', Moved (B :: wr) G s s' → s'.heap.SetOf (PySem.strKind prog w) B (fun z => (met xs).any (· == z)) (met xs).length → R (.ok (.ret .none)) s') →
      codeAny (model prog w) A (.builtin "set.update.loop" ⟨[.ref B, .ref I], []⟩) R s := by
  have nw : B ∉ wr := fun z => nf (W.sub _ z)
  have inc : ∀ b ∈ wr, b ∈ B :: wr := fun _ z => .tail _ z
  intro k
  induction k with
  | zero =>
    intro i s ek hi st sO fin
    have ei : i = xs.length := by omega
    refine codeAny_builtin PyProof.Rows.F.entry_set_update_loop ?_
    rw [Around.under_plainId PyProof.Rows.F.plain_set_update_loop _]
    show wpAny _ A.in1 (pyNext (.ref I) >>= _) _ _ s
    refine wpAny_bind (W.done s _ _ (by rw [ei, el] at st; exact st) fun s' mv => ?_)
    show wpAny _ A.in1 (ret Value.none) _ _ s'
    refine wpAny_pure (fin s' (mv.mono inc) ?_)
    obtain ⟨o, es, ep, tb, ho, more⟩ := sO
    rw [ei, List.take_length] at more
    exact ⟨o, es, ep, tb, mv.heap B _ nw ho, more⟩
  | succ k ih =>
    intro i s ek hi st sO fin
    have lt : i < n := by omega
    refine codeAny_builtin PyProof.Rows.F.entry_set_update_loop ?_
    rw [Around.under_plainId PyProof.Rows.F.plain_set_update_loop _]
    show wpAny _ A.in1 (pyNext (.ref I) >>= _) _ _ s
    refine wpAny_bind (W.item i s _ _ lt st fun v s' pv st' mv => ?_)
    obtain ⟨tk, ev⟩ := vl i v pv
    subst ev
    have sO' : s'.heap.SetOf (PySem.strKind prog w) B (fun z => (met (xs.take i)).any (· == z)) (met (xs.take i)).length := by
      obtain ⟨o, es, ep, tb, ho, more⟩ := sO
      exact ⟨o, es, ep, tb, mv.heap B _ nw ho, more⟩
    generalize ex : xs.getD i Str.empty = x at *
    show wpAny _ A.in1 (holding [Value.str x tk] (setAdd B (.str x tk)) >>= _) _ _ s'
    refine wpAny_bind (wpAny_holding ?_)
    unfold setAdd
    refine wpAny_holding (wpAny_bind ((PySem.strKind prog w).pyHash (k := x) (strKind_is _ _ _ _) ?_))
    have fit : (met (xs.take i)).length + 1 < scanBound := by
      have q := met_le (xs.take i)
      rw [List.length_take] at q
      omega
    refine wpAny_setAddHashed_of (knd := PySem.strKind prog w) (s := { s' with toks := s'.toks + 1 }) (strKind_is _ _ _ _) rfl sO' fit fun h2 same sO2 => ?_
    have eq : met (xs.take (i + 1)) = metS (met (xs.take i)) x := by rw [take_snoc (by omega), met_snoc, ex]
    have sO3 : h2.SetOf (PySem.strKind prog w) B (fun z => (met (xs.take (i + 1))).any (· == z)) (met (xs.take (i + 1))).length :=
      SetOf_congr sO2 (fun z => by rw [eq, metS_any]) (by rw [eq, metS_len])
    refine wpAny_pure ⟨plainId_quiet PyProof.Rows.F.plain_set_update_loop _, ih (i + 1) _ (by omega) lt (W.frame _ s' _ _ st' (Nat.le_succ _) fun b hb o e => ?_) sO3 fun s2 mv2 sO4 => ?_⟩
    · rw [same.2 b fun z => nf (z ▸ hb)]
      exact e
    · refine fin s2 (Moved.trans W.gtrans ((mv.mono inc).then_heap (Nat.le_succ _) fun b o hb e => ?_) mv2) sO4
      rw [same.2 b fun z => hb (z ▸ .head _)]
      exact e
end
section
variable {prog : Program} {w : World} {A : Around} {E : Value → Shared → Prop} {s : Shared}
theorem setOfTuple {l : Addr} {its : Array Value} {xs : List Str} {Q : Value → Shared → Prop} (calm : A.handled = none) (tl : s.heap.IsTuple l its) (txt : StrsAre its.toList xs) (room : xs.length + 1 < scanBound)
    (q : ∀ (h2 : Heap) (tk : Nat), h2.SetOf (PySem.strKind prog w) s.heap.objs.size (fun z => (met xs).any (· == z)) (met xs).length →
      (∀ b o, b < s.heap.objs.size → s.heap.get? b = some o → h2.get? b = some o) → Q (.ref s.heap.objs.size) { s with heap := h2, toks := tk }) :
    wpAny (model prog w) A (call (.type "set") [.ref l]) Q E s := by
  obtain ⟨mroC, mroT, mro⟩ := PySem.F.called_set.mro
  have f1 := PySem.F.called_set.made
  have f2 := PySem.F.called_set.sub
  have f3 := PySem.F.called_set.notType
  have f4 := PySem.F.called_set.canCreate
  have f5 := PySem.F.typeCall_set_1 (.ref l)
  refine wpAny_call (codeAny_of_tree ?_)
  show wpAny _ _ (callAny (.type "set") _) _ _ _
  refine wpAny_pure ⟨Code.quiet_builtin _ (by decide +kernel), codeAny_builtin PySem.F.entry_type_call ?_⟩
  rw [Around.under_plain (weight_type_call_type "set" [.ref l] []) rfl]
  repeat any_goals first | assumption | wp_step
  refine codeAny_mono (code_set_new_1 (.ref l) (E := E) (Q₁ := fun v s1 => ∃ led : Bool, v = .ref s.heap.objs.size ∧ s1 = { s with heap := s.heap.push (set0 led) }) fun led => ⟨led, rfl, rfl⟩) fun r s1 hr => ?_
  cases r with
  | error e => exact hr
  | ok fl =>
    cases fl with
    | ret v =>
      obtain ⟨led, rfl, rfl⟩ := hr
      have at0 : (s.heap.push (set0 led)).get? s.heap.objs.size = some (set0 led) := Heap.get?_push_size _ rfl
      have ty : Shared.TypeIs { s with heap := s.heap.push (set0 led) } (.ref s.heap.objs.size) "set" := ⟨_, at0, rfl⟩
      have f6 := PySem.F.called_set.init.lookup
      have f7 := PySem.F.called_set.init.bind (.ref s.heap.objs.size)
      repeat any_goals first | assumption | wp_step
      refine codeAny_mono (codeAny_call_builtin (R := wants (fun r s2 => r = .none ∧ ∃ h2 tk, s2 = { s with heap := h2, toks := tk } ∧
        h2.SetOf (PySem.strKind prog w) s.heap.objs.size (fun z => (met xs).any (· == z)) (met xs).length ∧ ∀ b o, b < s.heap.objs.size → s.heap.get? b = some o → h2.get? b = some o) E)
        PySem.F.called_set.init.plain PySem.F.entry_set_init (check_set_init_1 ty ?_)) fun r2 s2 hr2 => ?_
      · obtain ⟨⟨c0, d0, b0, sl0⟩, g0, gc, gn, gd⟩ := tl
        cases gc
        cases gd
        have g1 : (s.heap.push (set0 led)).get? l = some { cls := .type "tuple", dict := d0, data := .seq its gn, slots := sl0 } := Heap.get?_push_of_some _ g0
        have f8 := PySem.F.sub_tuple_set
        have f9 := PySem.F.sub_tuple_frozenset
        have f10 : (Value.type "tuple" == Value.type "dict") = false := by decide
        have tl1 : (s.heap.push (set0 led)).IsTuple l its := ⟨_, g1, rfl, gn, rfl⟩
        unfold Builtin.«set.__init__» noKeywords Builtin.Frozenset.updateFrom
        generalize ePI : pyIter = PI
        wp_walk
        cases ePI
        refine wpAny_pyIter_tuple tl1 (wpAny_bind (wpAny_runValue ?_))
        have ll : l < s.heap.objs.size := Heap.lt_size g0
        have calm3 : A.in1.in1.in1.handled = none := by simp [calm]
        have ln : l ≠ (s.heap.push (set0 led)).objs.size := by rw [Heap.size_push]; exact Nat.ne_of_lt (Nat.lt_succ_of_lt ll)
        have bn : s.heap.objs.size ∉ [(s.heap.push (set0 led)).objs.size, l] := by
          rw [Heap.size_push]
          intro z
          rcases List.mem_cons.mp z with z | z
          · exact absurd z (Nat.ne_of_lt (Nat.lt_succ_self _))
          · exact absurd (List.mem_singleton.mp z) (Nat.ne_of_gt ll)
        have lx : xs.length = its.size := by rw [← StrsAre.len_eq txt, Array.length_toList]
        refine turnsS ((Walks.tuple calm3 _ l ln its).toS) s.heap.objs.size bn xs lx (by omega) (fun i v hv => SS.strs_at txt i v (by rw [Array.getElem?_toList]; exact hv)) (its.size - 0) 0 _ (by omega) (Nat.zero_le _) ⟨⟨_, Heap.get?_push_size _ rfl, rfl, rfl⟩, tl1.push _⟩ ?z1 ?z2
        case z1 =>
          refine SetOf_congr ((setObjOf_fresh (knd := PySem.strKind prog w) led).setOf (Heap.get?_push_of_some _ at0) ?_) (fun _ => rfl) rfl
          unfold scanBound
          omega
        case z2 =>
          rintro ⟨h2, g2, d2, k2, o2⟩ mv sO
          cases (show g2 = s.gens from mv.gens)
          cases (show d2 = s.drawn from mv.drawn)
          cases (show o2 = s.os from mv.os)
          show wpAny _ _ _ _ _ _
          refine wpAny_pure ?_
          show wpAny _ _ (ret Value.none) _ _ _
          refine wpAny_pure ⟨rfl, h2, k2, rfl, sO, fun b o hb e => mv.heap b o ?_ (Heap.get?_push_of_some _ (Heap.get?_push_of_some _ e))⟩
          rw [Heap.size_push]
          intro z
          rcases List.mem_cons.mp z with z | z
          · exact absurd z (Nat.ne_of_lt hb)
          · exact absurd (List.mem_singleton.mp z) (Nat.ne_of_lt (Nat.lt_succ_of_lt hb))
      · cases r2 with
        | error e => exact hr2
        | ok fl2 =>
          cases fl2 with
          | ret r =>
            obtain ⟨rfl, h2, tk, rfl, sO, kp⟩ := hr2
            repeat any_goals first | assumption | wp_step
            exact q _ _ sO kp
          | _ => exact hr2.elim
    | _ => exact hr.elim
end
open L2
/-- len(set(xs)), xs a tuple of texts -/
def tLset (K : PySem.W.Frag) (ta : TE) : TE := fun σ H Q => ta σ H fun x H1 => ∃ (l : Addr) (xs : List Str), x = .ref l ∧ SqT K H1 l (xs.map V.str) ∧ xs.length ≤ 1000 ∧ Q (.int (met xs).length) H1
theorem pe_lset {X : Cx} {a : Expr} {ta : TE} {p p2 q pos : Pos} (calm : X.calm = true) (g1 : Gl X "len") (m1 : X.mg "len" = none) (g2 : Gl X "set") (m2 : X.mg "set" = none) (ha : PE X a ta)
    (na : starEach [a] X.env = (false, eval a X.env) :: starEach [] X.env) : PE X (.Call (.Name "len" p) [.Call (.Name "set" p2) [a] [] q] [] pos) (tLset X.K ta) := by
  refine ⟨fun pins s σ H Q I h => Call_ (ld_blt I g1 m1 boot_len ?_)⟩
  refine PyProof.Rows.callWith_builtin1 (PyProof.Rows.args_cons ?_ rfl) rfl rfl
  refine Call_ (ld_blt I g2 m2 boot_set ?_)
  refine PyProof.Rows.callWith_type1 (PyProof.Rows.args_cons (thn (ha.run pins s σ H _ I h) fun v s1 ⟨x, H1, I1, r1, q1⟩ => PyProof.Rows.args_nil ?_) na) na rfl
  obtain ⟨l, xs, rfl, sq, hl, q1⟩ := q1
  cases r1
  obtain ⟨its, r, pl, hz⟩ := I1.tuple sq
  refine setOfTuple (I1.ok.hd calm) pl (by simpa using strsAre_of r) (by unfold scanBound; omega) fun h2 tk sO kp => PyProof.Rows.args_nil ?_
  obtain ⟨o, es, ep, t, ho, hex, hd, _, _, _, hf, hn⟩ := sO
  have I2 : Inv X pins σ H1 { s1 with heap := h2, toks := tk } := I1.kept fun b o e => kp b o (Heap.lt_size e) e
  have := met_le xs
  exact call_len_set ho hex hd hf (by rw [hn]; omega) ⟨.int (met xs).length, H1, I2.tok _, ⟨_, by rw [hn]⟩, q1⟩
end ML

/-! len(set(xs)) of a list of texts -/
namespace ML
open PySem PySem.Spec PyProof.Rows
section
variable {prog : Program} {w : World} {A : Around} {E : Value → Shared → Prop} {s : Shared}
theorem setOfList {l : Addr} {its : Array Value} {xs : List Str} {Q : Value → Shared → Prop} (calm : A.handled = none) (tl : s.heap.IsList l its) (txt : StrsAre its.toList xs) (room : xs.length + 1 < scanBound)
    (q : ∀ (h2 : Heap) (tk : Nat), h2.SetOf (PySem.strKind prog w) s.heap.objs.size (fun z => (met xs).any (· == z)) (met xs).length →
      (∀ b o, b < s.heap.objs.size → s.heap.get? b = some o → h2.get? b = some o) → Q (.ref s.heap.objs.size) { s with heap := h2, toks := tk }) :
    wpAny (model prog w) A (call (.type "set") [.ref l]) Q E s := by
  obtain ⟨mroC, mroT, mro⟩ := PySem.F.called_set.mro
  have f1 := PySem.F.called_set.made
  have f2 := PySem.F.called_set.sub
  have f3 := PySem.F.called_set.notType
  have f4 := PySem.F.called_set.canCreate
  have f5 := PySem.F.typeCall_set_1 (.ref l)
  refine wpAny_call (codeAny_of_tree ?_)
  show wpAny _ _ (callAny (.type "set") _) _ _ _
  refine wpAny_pure ⟨Code.quiet_builtin _ (by decide +kernel), codeAny_builtin PySem.F.entry_type_call ?_⟩
  rw [Around.under_plain (weight_type_call_type "set" [.ref l] []) rfl]
  repeat any_goals first | assumption | wp_step
  refine codeAny_mono (code_set_new_1 (.ref l) (E := E) (Q₁ := fun v s1 => ∃ led : Bool, v = .ref s.heap.objs.size ∧ s1 = { s with heap := s.heap.push (set0 led) }) fun led => ⟨led, rfl, rfl⟩) fun r s1 hr => ?_
  cases r with
  | error e => exact hr
  | ok fl =>
    cases fl with
    | ret v =>
      obtain ⟨led, rfl, rfl⟩ := hr
      have at0 : (s.heap.push (set0 led)).get? s.heap.objs.size = some (set0 led) := Heap.get?_push_size _ rfl
      have ty : Shared.TypeIs { s with heap := s.heap.push (set0 led) } (.ref s.heap.objs.size) "set" := ⟨_, at0, rfl⟩
      have f6 := PySem.F.called_set.init.lookup
      have f7 := PySem.F.called_set.init.bind (.ref s.heap.objs.size)
      repeat any_goals first | assumption | wp_step
      refine codeAny_mono (codeAny_call_builtin (R := wants (fun r s2 => r = .none ∧ ∃ h2 tk, s2 = { s with heap := h2, toks := tk } ∧
        h2.SetOf (PySem.strKind prog w) s.heap.objs.size (fun z => (met xs).any (· == z)) (met xs).length ∧ ∀ b o, b < s.heap.objs.size → s.heap.get? b = some o → h2.get? b = some o) E)
        PySem.F.called_set.init.plain PySem.F.entry_set_init (check_set_init_1 ty ?_)) fun r2 s2 hr2 => ?_
      · obtain ⟨⟨c0, d0, b0, sl0⟩, g0, gc, gn, gd⟩ := tl
        cases gc
        cases gd
        have g1 : (s.heap.push (set0 led)).get? l = some { cls := .type "list", dict := d0, data := .seq its gn, slots := sl0 } := Heap.get?_push_of_some _ g0
        have f8 := PySem.F.sub_list_set
        have f9 := PySem.F.sub_list_frozenset
        have f10 : (Value.type "list" == Value.type "dict") = false := by decide
        have tl1 : (s.heap.push (set0 led)).IsList l its := ⟨_, g1, rfl, gn, rfl⟩
        unfold Builtin.«set.__init__» noKeywords Builtin.Frozenset.updateFrom
        generalize ePI : pyIter = PI
        wp_walk
        cases ePI
        refine wpAny_pyIter_list tl1 (wpAny_bind (wpAny_runValue ?_))
        have ll : l < s.heap.objs.size := Heap.lt_size g0
        have calm3 : A.in1.in1.in1.handled = none := by simp [calm]
        have ln : l ≠ (s.heap.push (set0 led)).objs.size := by rw [Heap.size_push]; exact Nat.ne_of_lt (Nat.lt_succ_of_lt ll)
        have bn : s.heap.objs.size ∉ [(s.heap.push (set0 led)).objs.size, l] := by
          rw [Heap.size_push]
          intro z
          rcases List.mem_cons.mp z with z | z
          · exact absurd z (Nat.ne_of_lt (Nat.lt_succ_self _))
          · exact absurd (List.mem_singleton.mp z) (Nat.ne_of_gt ll)
        have lx : xs.length = its.size := by rw [← StrsAre.len_eq txt, Array.length_toList]
        refine turnsS ((Walks.list calm3 _ l ln its).toS) s.heap.objs.size bn xs lx (by omega) (fun i v hv => SS.strs_at txt i v (by rw [Array.getElem?_toList]; exact hv)) (its.size - 0) 0 _ (by omega) (Nat.zero_le _) ⟨⟨_, Heap.get?_push_size _ rfl, rfl, rfl⟩, tl1.push _⟩ ?z1 ?z2
        case z1 =>
          refine SetOf_congr ((setObjOf_fresh (knd := PySem.strKind prog w) led).setOf (Heap.get?_push_of_some _ at0) ?_) (fun _ => rfl) rfl
          unfold scanBound
          omega
        case z2 =>
          rintro ⟨h2, g2, d2, k2, o2⟩ mv sO
          cases (show g2 = s.gens from mv.gens)
          cases (show d2 = s.drawn from mv.drawn)
          cases (show o2 = s.os from mv.os)
          show wpAny _ _ _ _ _ _
          refine wpAny_pure ?_
          show wpAny _ _ (ret Value.none) _ _ _
          refine wpAny_pure ⟨rfl, h2, k2, rfl, sO, fun b o hb e => mv.heap b o ?_ (Heap.get?_push_of_some _ (Heap.get?_push_of_some _ e))⟩
          rw [Heap.size_push]
          intro z
          rcases List.mem_cons.mp z with z | z
          · exact absurd z (Nat.ne_of_lt hb)
          · exact absurd (List.mem_singleton.mp z) (Nat.ne_of_lt (Nat.lt_succ_of_lt hb))
      · cases r2 with
        | error e => exact hr2
        | ok fl2 =>
          cases fl2 with
          | ret r =>
            obtain ⟨rfl, h2, tk, rfl, sO, kp⟩ := hr2
            repeat any_goals first | assumption | wp_step
            exact q _ _ sO kp
          | _ => exact hr2.elim
    | _ => exact hr.elim
end
open L2
/-- len(set(xs)), xs a list or a tuple of texts -/
def tLsetA (K : PySem.W.Frag) (ta : TE) : TE := fun σ H Q => ta σ H fun x H1 => ∃ (l : Addr) (xs : List Str), x = .ref l ∧ (SqT K H1 l (xs.map V.str) ∨ SqL K H1 l (xs.map V.str)) ∧ xs.length ≤ 1000 ∧ Q (.int (met xs).length) H1
theorem pe_lsetA {X : Cx} {a : Expr} {ta : TE} {p p2 q pos : Pos} (calm : X.calm = true) (g1 : Gl X "len") (m1 : X.mg "len" = none) (g2 : Gl X "set") (m2 : X.mg "set" = none) (ha : PE X a ta)
    (na : starEach [a] X.env = (false, eval a X.env) :: starEach [] X.env) : PE X (.Call (.Name "len" p) [.Call (.Name "set" p2) [a] [] q] [] pos) (tLsetA X.K ta) := by
  refine ⟨fun pins s σ H Q I h => Call_ (ld_blt I g1 m1 boot_len ?_)⟩
  refine PyProof.Rows.callWith_builtin1 (PyProof.Rows.args_cons ?_ rfl) rfl rfl
  refine Call_ (ld_blt I g2 m2 boot_set ?_)
  refine PyProof.Rows.callWith_type1 (PyProof.Rows.args_cons (thn (ha.run pins s σ H _ I h) fun v s1 ⟨x, H1, I1, r1, q1⟩ => PyProof.Rows.args_nil ?_) na) na rfl
  obtain ⟨l, xs, rfl, sq, hl, q1⟩ := q1
  cases r1
  rcases sq with sq | sq
  · obtain ⟨its, r, pl, hz⟩ := I1.tuple sq
    refine setOfTuple (I1.ok.hd calm) pl (by simpa using strsAre_of r) (by unfold scanBound; omega) fun h2 tk sO kp => PyProof.Rows.args_nil ?_
    obtain ⟨o, es, ep, t, ho, hex, hd, _, _, _, hf, hn⟩ := sO
    have I2 : Inv X pins σ H1 { s1 with heap := h2, toks := tk } := I1.kept fun b o e => kp b o (Heap.lt_size e) e
    have := met_le xs
    exact call_len_set ho hex hd hf (by rw [hn]; omega) ⟨.int (met xs).length, H1, I2.tok _, ⟨_, by rw [hn]⟩, q1⟩
  · obtain ⟨its, r, pl, hz⟩ := I1.list sq
    refine setOfList (I1.ok.hd calm) pl.isList (by simpa using strsAre_of r) (by unfold scanBound; omega) fun h2 tk sO kp => PyProof.Rows.args_nil ?_
    obtain ⟨o, es, ep, t, ho, hex, hd, _, _, _, hf, hn⟩ := sO
    have I2 : Inv X pins σ H1 { s1 with heap := h2, toks := tk } := I1.kept fun b o e => kp b o (Heap.lt_size e) e
    have := met_le xs
    exact call_len_set ho hex hd hf (by rw [hn]; omega) ⟨.int (met xs).length, H1, I2.tok _, ⟨_, by rw [hn]⟩, q1⟩
end ML

/-! try .. except C as e: .. where the caught error is kept beyond the clause -/
namespace ML
open PySem PySem.Spec PyProof.Rows L2
def ExK (cls : Value) (d : Option Addr) (a : Addr) : HO := .ext fun h => ∃ (oe : Obj) (vs : Array Value), h.get? a = some oe ∧ Zc cls d oe ∧ oe.data = .fields vs
section
variable {X : Cx} {pins : List (Addr × Obj)} {σ : L2.St} {H : Hp} {s : Shared} {a : Addr} {oe : Obj} {vs : Array Value} {cls : Value} {d : Option Addr}
/-- an object beside the tracked ones comes to be tracked -/
theorem inv_take (I : Inv X ((a, oe) :: pins) σ H s) (hz : Zc cls d oe) (hd : oe.data = .fields vs) (h0 : X.s_0.heap.get? a = none) (hp : ∀ p ∈ X.pn ++ pins, p.1 ≠ a) : Inv X pins σ (upd H a (ExK cls d a)) s := by
  obtain ⟨p1, p2, p3, p4, p5⟩ := I.pin (a, oe) (List.mem_append_right _ (List.mem_cons_self ..))
  have ne : ∀ {b : Addr} {o : HO}, H b = some o → b ≠ a := fun {b o} q z => by rw [z] at q; rw [show H a = none from p2] at q; cases q
  refine ⟨I.ok, I.os, I.bare, ?_, I.loc, I.cell, ?_, fun x c q => ?_, fun p hm => ?_, fun b o q => ?_, I.len⟩
  · have U := I.base
    exact ⟨U.keep, U.slot, fun b o q n hx => by rw [upd_ne (fun z => by rw [z] at q; rw [h0] at q; cases q)]; exact U.free b o q n hx, U.there,
      fun b xs q => by rw [upd_ne (ne (U.tups b xs q))]; exact U.tups b xs q, fun b o u q => by rw [upd_ne (ne (U.frzs b o u q))]; exact U.frzs b o u q,
      fun b ps q => by
        obtain ⟨m, e⟩ := U.tbls b ps q
        exact ⟨m, by rw [upd_ne (ne e)]; exact e⟩⟩
  · rw [upd_ne (Ne.symm p3)]
    exact I.free
  · rw [upd_ne (fun z => ?_)]
    · exact I.freeC x c q
    · obtain ⟨v, hv⟩ := I.cell x c q
      rw [z] at hv
      obtain ⟨o, e1, e2⟩ := hv
      rw [show s.heap.get? a = some oe from p1] at e1
      cases e1
      exact p5 _ (by first | exact e2 | exact e2.1 | exact e2.2)
  · have hm' : p ∈ X.pn ++ (a, oe) :: pins := by
      rcases List.mem_append.mp hm with h | h
      · exact List.mem_append_left _ h
      · exact List.mem_append_right _ (List.mem_cons_of_mem _ h)
    obtain ⟨q1, q2, q3⟩ := I.pin p hm'
    exact ⟨q1, by rw [upd_ne (hp p hm)]; exact q2, q3⟩
  · by_cases hb : b = a
    · subst hb
      rw [upd_same] at q
      cases q
      exact ⟨⟨oe, vs, p1, hz, hd⟩, ⟨oe, p1⟩, fun h1 h2 ⟨o, w, e, z1, z2⟩ k => ⟨o, w, k o e, z1, z2⟩⟩
    · rw [upd_ne hb] at q
      exact (I.hok b o q).stay (fun c u _ r => r) (fun c r => by rw [upd_ne (ne r)]; exact r) fun c xs r => by rw [upd_ne (ne r)]; exact r
end
/-- what the clause asks of an error of the body -/
def wKeep (K : PySem.W.Frag) (c : Value) (i : Nat) (ts : Addr → Value → Option Addr → TS) (Wout : WX) (D : Ends) : WX := fun cls d σ H =>
  ∃ b, PySem.W.exmOne K cls c = some b ∧
    (b = true → ∀ a, H a = none → ts a cls d { nx := fun σ' H' => D.nx (σ'.set i none) (upd H' a (ExK cls d a)), rt := fun v H' => D.rt v (upd H' a (ExK cls d a)), bk := fun σ' H' => D.bk (σ'.set i none) (upd H' a (ExK cls d a)), ct := fun σ' H' => D.ct (σ'.set i none) (upd H' a (ExK cls d a)) } (σ.set i (some (.ref a))) H) ∧
    (b = false → Wout cls d σ H)
section
variable {X : Cx} {x n : Str} {c : Value} {i : Nat} {body rest : List Stmt} {st : Stmt} {np pos pos' : Pos} {tb : WX → TS} {ts : Addr → Value → Option Addr → TS} {Wout : WX}
theorem ps_try_keep (hs : X.stack = X.env :: X.outer) (hf : X.env.frame = some X.env.locals) (hex : X.ex = []) (hN : X.N.Nodup) (hi : X.N[i]? = some n) (hln : X.env.kindOf n = some .local) (hc : Names X x c) (tk : Takes X Wout)
    (hb : ∀ (W : WX) (pn : List (Addr × Obj)) (xe : Value → Shared → Prop), Takes (X.tr pn xe) W → PassesOwn (model X.prog X.w) X.A X.env xe → PSs (X.tr pn xe) body (tb W))
    (hsu : ∀ (a : Addr) (oe : Obj) (cls : Value) (d : Option Addr) (pn : List (Addr × Obj)), Zc cls d oe → (∃ vs, oe.data = .fields vs) → PSs (X.suite a ((a, oe) :: pn)) (st :: rest) (ts a cls d)) :
    PS X (.Try body [.ExceptHandler (some (.Name x np)) (some n) (st :: rest) pos'] [] [] pos) (fun D σ H => tb (wKeep X.K c i ts Wout D) D σ H) := by
  refine ⟨fun pins s σ H D I h => wpAny_Try_except ?_⟩
  have ok := I.ok
  have fr : X.A.frames = some (X.env :: X.outer) := by rw [ok.frames, hs]
  refine wpAny_mono ((hb (wKeep X.K c i ts Wout D) (X.pn ++ pins) _ (fun u s' xx => ?caught) PassesOwn.looking).run [] s σ H D (I.toTry _) h) (fun f s1 sp => ?through) (fun e s1 he => he)
  case caught =>
    obtain ⟨a, B, sI, pins', σ1, H1, cls, d, rfl, J', nb, up, sky, na, os, ag, b, e1, yes, no⟩ := xx
    have J : Inv X pins σ1 H1 sI := J'.ofTry ok
    rw [show (X.tr (X.pn ++ pins) _).stack = X.env :: X.outer from hs] at sky
    show wpAny (model X.prog X.w) X.A (noteFrame (.ref a) X.env) _ _ _
    refine Sky.land Zc.steady fr hf sky fun h3 F3 up3 => ?_
    have J3 : Inv X pins σ1 H1 { s' with heap := h3 } := J.landed nb F3.1 (up.trans up3) os ag
    obtain ⟨o3, v3, g3, z3, d3⟩ := F3.there
    have nfr : a ∉ frs (X.env :: X.outer) := fun hm => by
      obtain ⟨_, o', e', hnf⟩ := F3.2.2.1.mem hm
      rw [g3] at e'
      cases e'
      exact hnf _ d3
    have nL : a ≠ X.env.locals := fun z => nfr (List.mem_filterMap.mpr ⟨X.env, List.mem_cons_self, by rw [hf, z]⟩)
    have nF : a ∉ X.fs := fun hm => by
      obtain ⟨e, he, q⟩ := List.mem_filterMap.mp hm
      exact nfr (List.mem_filterMap.mpr ⟨e, List.mem_cons_of_mem _ he, q⟩)
    have fresh : sI.heap.get? a = none := by
      cases q : sI.heap.get? a with
      | none => rfl
      | some o =>
        have z := nb a o q (by rw [show frs (X.tr (X.pn ++ pins) _).stack = frs (X.env :: X.outer) from by rw [show (X.tr (X.pn ++ pins) _).stack = X.env :: X.outer from hs]]; exact nfr)
        rw [F3.2.1] at z
        cases z
    have h0 : X.s_0.heap.get? a = none := by
      cases q : X.s_0.heap.get? a with
      | none => rfl
      | some o =>
        obtain ⟨o', z⟩ := J.base.there a o q (by rw [hex]; exact List.not_mem_nil)
        rw [fresh] at z
        cases z
    have hp : ∀ p ∈ X.pn ++ pins, p.1 ≠ a := fun p hm z => by
      have q := (J.pin p hm).1
      rw [z, fresh] at q
      cases q
    have S3 := J3.suite g3 d3 na nL nF
    refine wpAny_handleBy_cons (codeAny_handlers_test ?_) (by intro q; cases q)
    have LT : PySem.W.Looks (model X.prog X.w) h3 (typeOf (.ref a)) cls := fun A Q E s k q => wpAny_typeOf_ref (k _ _ g3) (by rw [z3.1]; exact q)
    have LM := PySem.W.exm_one (M := model X.prog X.w) J3.kIn LT e1
    have ask : ∀ {Q : Value → Shared → Prop} {E : Value → Shared → Prop}, Q c { s' with heap := h3 } → wpAny (model X.prog X.w) (X.A.mark (some (.ref a))) (eval (.Name x np) X.env) Q E { s' with heap := h3 } := fun {Q E} q => by
      obtain ⟨hg, hdb, hm | ⟨hm, hv, hnn⟩⟩ := hc
      · exact ld_glob (X := X.suite a ((a, o3) :: (X.pn ++ pins))) S3 hg hm q hdb
      · exact ld_blt (X := X.suite a ((a, o3) :: (X.pn ++ pins))) S3 hg hm hv q hnn hdb
    refine ask (LM.here ?_)
    cases b with
    | true =>
      refine codeAny_handlers_suite_as (HandSPX.lands_againZ F3 fun h4 F4 up4 => ?_)
      have J4 : Inv X pins σ1 H1 { s' with heap := h4 } := J.landed nb F4.1 ((up.trans up3).trans up4) os ag
      obtain ⟨o4, v4, g4, z4, d4⟩ := F4.there
      have S4 := J4.suite g4 d4 na nL nF
      refine store_ok (X := X.suite a ((a, o4) :: (X.pn ++ pins))) (v := .ref a) S4 hN hi (.inl hln) rfl (fun s5 S5 => ?_) (.inr hln)
      refine wpAny_mono ((hsu a o4 cls d (X.pn ++ pins) z4 ⟨_, d4⟩).run [] s5 _ H1 _ S5 (yes rfl a na)) (fun f s6 sp => ?_) (fun _ _ z => False.elim z)
      have goes : ∀ {σ6 : L2.St} {H6 : Hp} {Q : Shared → Prop}, Inv (X.suite a ((a, o4) :: (X.pn ++ pins))) [] σ6 H6 s6 → (∀ s7, Inv X pins (σ6.set i none) (upd H6 a (ExK cls d a)) s7 → Q s7) →
          wpAny (model X.prog X.w) X.A (do bindName X.env n .none; unbindBehindTheSuite X.env n pos') (fun _ s7 => Q s7) X.xe s6 := fun {σ6 H6 Q} S6 hq => by
        have I6 : Inv X ((a, o4) :: pins) σ6 H6 s6 := ⟨ok, S6.os, S6.bare, S6.base, S6.loc, S6.cell, S6.free, S6.freeC, fun p hm => S6.pin p (by
          rw [List.append_nil]
          rcases List.mem_append.mp hm with z | z
          · exact List.mem_cons_of_mem _ (List.mem_append_left _ z)
          · rcases List.mem_cons.mp z with z | z
            · rw [z]; exact List.mem_cons_self
            · exact List.mem_cons_of_mem _ (List.mem_append_right _ z)), S6.hok, S6.len⟩
        exact gone_ok I6 hN hi hln fun s7 J7 => hq s7 (inv_take J7 z4 d4 h0 hp)
      cases f with
      | next => obtain ⟨σ6, H6, S6, q6⟩ := sp; exact goes S6 fun s7 J7 => ⟨_, _, J7, q6⟩
      | brk => obtain ⟨σ6, H6, S6, q6⟩ := sp; exact goes S6 fun s7 J7 => ⟨_, _, J7, q6⟩
      | cont => obtain ⟨σ6, H6, S6, q6⟩ := sp; exact goes S6 fun s7 J7 => ⟨_, _, J7, q6⟩
      | ret u => obtain ⟨v6, σ6, H6, S6, r6, q6⟩ := sp; exact goes S6 fun s7 J7 => ⟨_, _, _, J7, r6, q6⟩
    | false =>
      show wpAny _ X.A (handleBy (.ref a) X.env []) _ _ _
      refine wpAny_handleBy_nil ?_
      obtain ⟨_, _, _, o5, v5, T, oT, ts', g5, _, d5, t5, _⟩ := id F3
      unfold PySem.passOn
      refine wpAny_bind (wpAny_field g5 d5 t5 ?_)
      rw [if_neg (show ¬ ((Value.ref T == Value.none) = true) from by simp)]
      have up_ : wpAny (model X.prog X.w) X.A (setFlight (.ref a) X.env.frame) (fun _ s4 => wpAny (model X.prog X.w) X.A (throw (.ref a) : Sem Flow) (SP X pins D) X.xe s4) X.xe { s' with heap := h3 } := by
        rw [hf]
        refine HandSPX.setFlight_upZ F3 fun h4 F4 up4 => wpAny_throw (tk _ _ ?_)
        exact ⟨a, B, sI, pins, σ1, H1, cls, d, rfl, J, nb, (up.trans up3).trans up4, .inr (.inr (by rw [hs]; exact F4)), na, os, ag, no rfl⟩
      first
        | exact wpAny_bind (wpAny_pure (wpAny_bind up_))
        | exact wpAny_bind up_
  case through =>
    cases f with
    | next => obtain ⟨σ', H', J', q⟩ := sp; exact wpAny_execs_nil ⟨σ', H', J'.ofTry ok, q⟩
    | brk => obtain ⟨σ', H', J', q⟩ := sp; exact ⟨σ', H', J'.ofTry ok, q⟩
    | cont => obtain ⟨σ', H', J', q⟩ := sp; exact ⟨σ', H', J'.ofTry ok, q⟩
    | ret u => obtain ⟨v, σ', H', J', r, q⟩ := sp; exact ⟨v, σ', H', J'.ofTry ok, r, q⟩
end
/-- isinstance(x, c), x a tracked error -/
def rIsX (K : PySem.W.Frag) : List V → Hp → VK → Prop := fun xs H Q => ∃ (a C : Addr) (c : V) (u : Value) (b : Bool), xs = [.ref a, c] ∧ ClsV c u ∧ H a = some (ExK (.ref C) none a) ∧ ExcC K C ∧ PySem.W.kitOne K (.ref C) u = some b ∧ Q (.bl b) H
theorem call_isX {X : Cx} : CallR X (.builtin "isinstance") (rIsX X.K) := by
  intro pins s σ H xs us Q I r h
  obtain ⟨a, C, c, u, b, rfl, k, ha, ec, e, q⟩ := h
  obtain ⟨u1, u2, rfl, r1, r2⟩ := vals2 r
  have e2 := k.eq r2
  subst e2
  cases (show u1 = Value.ref a from r1)
  obtain ⟨⟨oe, vs, g, hz, hd⟩, _⟩ := (show ObjOk X.prog X.w H s.heap a (ExK (.ref C) none a) from I.hok a _ ha)
  have J : PySem.W.InstAt s.heap a oe C none := by
    obtain ⟨oc, od, oda, osl⟩ := oe
    obtain ⟨h1, h2⟩ := hz
    dsimp only at h1 h2 hd
    subst h1 h2 hd
    exact ⟨g, rfl, rfl, trivial⟩
  exact PySem.W.kia_one (PySem.W.handS_kitx_exc ec.hg ec.hk ec.hs ec.hd ec.ha ec.hn ec.ht ec.hm) I.kIn J e (fun z => nomatch z) fun tk => ⟨.bl b, H, I.tok tk, rfl, q⟩
end ML

/-! The data that the programs work on, the store of what may change, and how both stand in HandS's heap. -/
namespace ML
open PySem L2

inductive D where
  | non | bl (b : Bool) | int (i : Int) | str (s : Str)
  | tup (xs : List D) | lst (xs : List D) | cst (xs : List D)
  | loc (n : Nat)
  | exn (c : Str)

/-- what may change -/
inductive Ob where
  | lst (xs : List D)
  | dct (kvs : List (Key × D))
  | ins (c : Str) (fs : List (Str × D))

structure Store where
  nx : Nat
  ob : Nat → Option Ob

/-- the world around: the written part, the addresses of the program's classes -/
structure Wd where
  K : PySem.W.Frag
  cl : Str → Option Addr

/-- what is frozen; where each place of the store lies -/
structure Gh where
  F : Hp
  ι : Nat → Addr
  nx : Nat

structure Gh.Le (g g' : Gh) : Prop where
  F : ∀ a o, g.F a = some o → g'.F a = some o
  nx : g.nx ≤ g'.nx
  ι : ∀ n, n < g.nx → g'.ι n = g.ι n
theorem Gh.Le.refl (g : Gh) : g.Le g := ⟨fun _ _ h => h, Nat.le_refl _, fun _ _ => rfl⟩
theorem Gh.Le.trans {a b c : Gh} (h : a.Le b) (k : b.Le c) : a.Le c :=
  ⟨fun x o q => k.F x o (h.F x o q), Nat.le_trans h.nx k.nx, fun n q => (k.ι n (Nat.lt_of_lt_of_le q h.nx)).trans (h.ι n q)⟩

/-- a caught error of the class at C -/
def ExH (C a : Addr) : HO := .ext fun h => ∃ (oe : Obj) (vs : Array Value), h.get? a = some oe ∧ Zc (.ref C) none oe ∧ oe.data = .fields vs

mutual
inductive Rl (w : Wd) (g : Gh) : D → V → Prop
  | non : Rl w g .non .non
  | bl (b : Bool) : Rl w g (.bl b) (.bl b)
  | int (i : Int) : Rl w g (.int i) (.int i)
  | str (x : Str) : Rl w g (.str x) (.str x)
  | tup {a : Addr} {xs : List V} {ds : List D} : SqT w.K g.F a xs → Rls w g ds xs → Rl w g (.tup ds) (.ref a)
  | lst {a : Addr} {xs : List V} {ds : List D} : g.F a = some (.lst xs) → Rls w g ds xs → Rl w g (.lst ds) (.ref a)
  | cst {a : Addr} {xs : List V} {ds : List D} : SqL w.K g.F a xs → Rls w g ds xs → Rl w g (.cst ds) (.ref a)
  | loc {n : Nat} : n < g.nx → Rl w g (.loc n) (.ref (g.ι n))
  | exn {c : Str} {C a : Addr} : w.cl c = some C → g.F a = some (ExH C a) → Rl w g (.exn c) (.ref a)
inductive Rls (w : Wd) (g : Gh) : List D → List V → Prop
  | nil : Rls w g [] []
  | cons {d : D} {v : V} {ds : List D} {vs : List V} : Rl w g d v → Rls w g ds vs → Rls w g (d :: ds) (v :: vs)
end

theorem sqT_le {K : PySem.W.Frag} {F F' : Hp} {a : Addr} {xs : List V} (h : ∀ a o, F a = some o → F' a = some o) (s : SqT K F a xs) : SqT K F' a xs := by
  rcases s with (s | ⟨o, s⟩) | s
  · exact .inl (.inl (h _ _ s))
  · exact .inl (.inr ⟨o, h _ _ s⟩)
  · exact .inr s
theorem sqL_le {K : PySem.W.Frag} {F F' : Hp} {a : Addr} {xs : List V} (h : ∀ a o, F a = some o → F' a = some o) (s : SqL K F a xs) : SqL K F' a xs := by
  rcases s with (s | ⟨o, s⟩) | s
  · exact .inl (.inl (h _ _ s))
  · exact .inl (.inr ⟨o, h _ _ s⟩)
  · exact .inr s

mutual
theorem Rl.mono {w : Wd} {g g' : Gh} (l : g.Le g') : ∀ {d : D} {v : V}, Rl w g d v → Rl w g' d v
  | _, _, .non => .non
  | _, _, .bl b => .bl b
  | _, _, .int i => .int i
  | _, _, .str x => .str x
  | _, _, .tup s r => .tup (sqT_le l.F s) (Rls.mono l r)
  | _, _, .lst s r => .lst (l.F _ _ s) (Rls.mono l r)
  | _, _, .cst s r => .cst (sqL_le l.F s) (Rls.mono l r)
  | _, _, .loc (n := n) h => by rw [← l.ι n h]; exact .loc (Nat.lt_of_lt_of_le h l.nx)
  | _, _, .exn h q => .exn h (l.F _ _ q)
theorem Rls.mono {w : Wd} {g g' : Gh} (l : g.Le g') : ∀ {ds : List D} {vs : List V}, Rls w g ds vs → Rls w g' ds vs
  | _, _, .nil => .nil
  | _, _, .cons r t => .cons (Rl.mono l r) (Rls.mono l t)
end
theorem Rls.length {w : Wd} {g : Gh} : ∀ {ds : List D} {vs : List V}, Rls w g ds vs → ds.length = vs.length
  | _, _, .nil => rfl
  | _, _, .cons _ t => by simp [Rls.length t]
theorem Rls.get {w : Wd} {g : Gh} : ∀ {ds : List D} {vs : List V} {i : Nat} {d : D}, Rls w g ds vs → ds[i]? = some d → ∃ v, vs[i]? = some v ∧ Rl w g d v
  | _, _, i, _, .nil, e => by simp at e
  | _, _, 0, _, .cons r _, e => by simp at e; subst e; exact ⟨_, rfl, r⟩
  | _, _, i + 1, d, .cons _ t, e => by
    obtain ⟨v, h1, h2⟩ := Rls.get (i := i) (d := d) t (by simpa using e)
    exact ⟨v, by simpa using h1, h2⟩
theorem Rls.getV {w : Wd} {g : Gh} : ∀ {ds : List D} {vs : List V} {i : Nat} {v : V}, Rls w g ds vs → vs[i]? = some v → ∃ d, ds[i]? = some d ∧ Rl w g d v
  | _, _, i, _, .nil, e => by simp at e
  | _, _, 0, _, .cons r _, e => by simp at e; subst e; exact ⟨_, rfl, r⟩
  | _, _, i + 1, d, .cons _ t, e => by
    obtain ⟨v, h1, h2⟩ := Rls.getV (i := i) (v := d) t (by simpa using e)
    exact ⟨v, by simpa using h1, h2⟩
theorem Rls.append {w : Wd} {g : Gh} : ∀ {ds es : List D} {vs us : List V}, Rls w g ds vs → Rls w g es us → Rls w g (ds ++ es) (vs ++ us)
  | _, _, _, _, .nil, s => s
  | _, _, _, _, .cons r t, s => .cons r (Rls.append t s)
theorem Rls.take {w : Wd} {g : Gh} : ∀ {ds : List D} {vs : List V} (n : Nat), Rls w g ds vs → Rls w g (ds.take n) (vs.take n)
  | _, _, 0, _ => .nil
  | _, _, _ + 1, .nil => .nil
  | _, _, n + 1, .cons r t => .cons r (Rls.take n t)
theorem Rls.drop {w : Wd} {g : Gh} : ∀ {ds : List D} {vs : List V} (n : Nat), Rls w g ds vs → Rls w g (ds.drop n) (vs.drop n)
  | _, _, 0, r => r
  | _, _, _ + 1, .nil => .nil
  | _, _, n + 1, .cons _ t => Rls.drop n t
theorem Rls.set {w : Wd} {g : Gh} {d : D} {v : V} (r : Rl w g d v) : ∀ {ds : List D} {vs : List V} (i : Nat), Rls w g ds vs → Rls w g (ds.set i d) (vs.set i v)
  | _, _, _, .nil => .nil
  | _, _, 0, .cons _ t => .cons r t
  | _, _, i + 1, .cons q t => .cons q (Rls.set r i t)
theorem Rls.reverse {w : Wd} {g : Gh} : ∀ {ds : List D} {vs : List V}, Rls w g ds vs → Rls w g ds.reverse vs.reverse
  | _, _, .nil => .nil
  | _, _, .cons r t => by
    rw [List.reverse_cons, List.reverse_cons]
    exact (Rls.reverse t).append (.cons r .nil)

def KRl (w : Wd) (g : Gh) : List (Key × D) → List (Key × V) → Prop := Paired fun p q => p.1 = q.1 ∧ Rl w g p.2 q.2
def FRl (w : Wd) (g : Gh) : List (Str × D) → List (Str × V) → Prop := Paired fun p q => p.1 = q.1 ∧ Rl w g p.2 q.2
theorem KRl.mono {w : Wd} {g g' : Gh} (l : g.Le g') {a : List (Key × D)} {b : List (Key × V)} (h : KRl w g a b) : KRl w g' a b := Paired.mapP h fun _ _ z => ⟨z.1, z.2.mono l⟩
theorem FRl.mono {w : Wd} {g g' : Gh} (l : g.Le g') {a : List (Str × D)} {b : List (Str × V)} (h : FRl w g a b) : FRl w g' a b := Paired.mapP h fun _ _ z => ⟨z.1, z.2.mono l⟩

def RlO (w : Wd) (g : Gh) : Ob → Option HO → Prop
  | .lst ds, h => ∃ xs, h = some (.lst xs) ∧ Rls w g ds xs
  | .dct kvs, h => ∃ ps, h = some (.dK ps) ∧ KRl w g kvs ps
  | .ins c fs, h => ∃ C dx ps, w.cl c = some C ∧ h = some (.ins C dx ps) ∧ FRl w g fs ps
theorem RlO.mono {w : Wd} {g g' : Gh} (l : g.Le g') {o : Ob} {h : Option HO} (r : RlO w g o h) : RlO w g' o h := by
  cases o with
  | lst ds => obtain ⟨xs, e, r⟩ := r; exact ⟨xs, e, r.mono l⟩
  | dct kvs => obtain ⟨xs, e, r⟩ := r; exact ⟨xs, e, r.mono l⟩
  | ins c fs => obtain ⟨C, dx, xs, e1, e, r⟩ := r; exact ⟨C, dx, xs, e1, e, r.mono l⟩

structure Ok (w : Wd) (g : Gh) (S : Store) (H : Hp) : Prop where
  sub : ∀ a o, g.F a = some o → H a = some o
  nx : S.nx = g.nx
  inj : ∀ m n, m < g.nx → n < g.nx → g.ι m = g.ι n → m = n
  use : ∀ n, n < g.nx → H (g.ι n) ≠ none
  lt : ∀ n o, S.ob n = some o → n < g.nx
  fr : ∀ n o, S.ob n = some o → g.F (g.ι n) = none
  ob : ∀ n o, S.ob n = some o → RlO w g o (H (g.ι n))

section
variable {w : Wd} {g : Gh} {S : Store} {H : Hp}
theorem Ok.none (k : Ok w g S H) {p : Addr} (h : H p = Option.none) : g.F p = Option.none := by
  cases e : g.F p with
  | none => rfl
  | some o => rw [k.sub p o e] at h; cases h
theorem Ok.sqL (k : Ok w g S H) {a : Addr} {xs : List V} (s : SqL w.K g.F a xs) : SqL w.K H a xs := sqL_le k.sub s
theorem Ok.sqT (k : Ok w g S H) {a : Addr} {xs : List V} (s : SqT w.K g.F a xs) : SqT w.K H a xs := sqT_le k.sub s

/-- one frozen thing more -/
def Gh.add (g : Gh) (p : Addr) (o : HO) : Gh := { g with F := upd g.F p o }
theorem Gh.add_le {p : Addr} {o : HO} (h : g.F p = Option.none) : g.Le (g.add p o) :=
  ⟨fun a u e => by show upd g.F p o a = some u; rw [upd_ne (ne_of_none e h)]; exact e, Nat.le_refl _, fun _ _ => rfl⟩
theorem Ok.addF (k : Ok w g S H) {p : Addr} {o : HO} (h : H p = Option.none) : Ok w (g.add p o) S (upd H p o) := by
  have hn := k.none h
  have ne : ∀ n, n < g.nx → g.ι n ≠ p := fun n q z => k.use n q (by rw [z]; exact h)
  refine ⟨fun a u e => ?_, k.nx, k.inj, fun n q => ?_, k.lt, fun n u e => ?_, fun n u e => ?_⟩
  · have e' : upd g.F p o a = some u := e
    by_cases c : a = p
    · subst c; rw [upd_same] at e' ⊢; exact e'
    · rw [upd_ne c] at e' ⊢; exact k.sub a u e'
  · show upd H p o (g.ι n) ≠ Option.none
    rw [upd_ne (ne n q)]; exact k.use n q
  · show upd g.F p o (g.ι n) = Option.none
    rw [upd_ne (ne n (k.lt n u e))]; exact k.fr n u e
  · show RlO w (g.add p o) u (upd H p o (g.ι n))
    rw [upd_ne (ne n (k.lt n u e))]; exact (k.ob n u e).mono (Gh.add_le hn)

/-- one place of the store more -/
def Gh.put (g : Gh) (p : Addr) : Gh := { g with ι := fun n => if n = g.nx then p else g.ι n, nx := g.nx + 1 }
def Store.new (S : Store) (o : Ob) : Store := ⟨S.nx + 1, fun n => if n = S.nx then some o else S.ob n⟩
def Store.set (S : Store) (m : Nat) (o : Ob) : Store := ⟨S.nx, fun n => if n = m then some o else S.ob n⟩
/-- the list at m is frozen: nothing writes it any more -/
def Store.del (S : Store) (m : Nat) : Store := ⟨S.nx, fun n => if n = m then Option.none else S.ob n⟩
theorem Gh.put_le {p : Addr} : g.Le (g.put p) :=
  ⟨fun _ _ e => e, Nat.le_succ _, fun n q => by show (if n = g.nx then p else g.ι n) = g.ι n; rw [if_neg (Nat.ne_of_lt q)]⟩
theorem Gh.put_ι {p : Addr} : (g.put p).ι g.nx = p := by show (if g.nx = g.nx then p else _) = p; rw [if_pos rfl]
theorem Ok.addS (k : Ok w g S H) {p : Addr} {o : Ob} {h : HO} {H' : Hp} (hp : H p = Option.none) (keep : ∀ a u, H a = some u → H' a = some u) (hh : H' p = some h) (r : RlO w (g.put p) o (some h)) : Ok w (g.put p) (S.new o) H' := by
  have ne : ∀ n, n < g.nx → g.ι n ≠ p := fun n q z => k.use n q (by rw [z]; exact hp)
  have ι1 : ∀ n, n < g.nx → (g.put p).ι n = g.ι n := Gh.put_le.ι
  have keepS : ∀ n, n < g.nx → ∃ u, H (g.ι n) = some u ∧ H' (g.ι n) = some u := fun n q => by
    cases e : H (g.ι n) with
    | none => exact absurd e (k.use n q)
    | some u => exact ⟨u, rfl, keep _ _ e⟩
  have cs : ∀ n, n < g.nx + 1 → n < g.nx ∨ n = g.nx := fun n q => by omega
  refine ⟨fun a u e => keep a u (k.sub a u e), by show S.nx + 1 = g.nx + 1; rw [k.nx], fun m n hm hn e => ?_, fun n hn => ?_, fun n u e => ?_, fun n u e => ?_, fun n u e => ?_⟩
  · rcases cs m hm with hm | rfl
    · rcases cs n hn with hn | rfl
      · rw [ι1 m hm, ι1 n hn] at e; exact k.inj m n hm hn e
      · rw [ι1 m hm, Gh.put_ι] at e; exact absurd e (ne m hm)
    · rcases cs n hn with hn | rfl
      · rw [ι1 n hn, Gh.put_ι] at e; exact absurd e.symm (ne n hn)
      · rfl
  · rcases cs n hn with hn | rfl
    · rw [ι1 n hn]
      obtain ⟨u, _, e⟩ := keepS n hn
      rw [e]; exact fun z => nomatch z
    · rw [Gh.put_ι, hh]; exact fun z => nomatch z
  · have e' : (if n = S.nx then some o else S.ob n) = some u := e
    by_cases c : n = S.nx
    · show n < g.nx + 1
      rw [c, k.nx]; exact Nat.lt_succ_self _
    · rw [if_neg c] at e'
      exact Nat.lt_succ_of_lt (k.lt n u e')
  · have e' : (if n = S.nx then some o else S.ob n) = some u := e
    show g.F ((g.put p).ι n) = Option.none
    by_cases c : n = S.nx
    · rw [c, k.nx, Gh.put_ι]; exact k.none hp
    · rw [if_neg c] at e'
      rw [ι1 n (k.lt n u e')]; exact k.fr n u e'
  · have e' : (if n = S.nx then some o else S.ob n) = some u := e
    by_cases c : n = S.nx
    · rw [if_pos c] at e'
      cases e'
      rw [c, k.nx, Gh.put_ι, hh]; exact r
    · rw [if_neg c] at e'
      have q := k.lt n u e'
      rw [ι1 n q]
      obtain ⟨v, e1, e2⟩ := keepS n q
      have z := (k.ob n u e').mono (Gh.put_le (p := p))
      rw [e1] at z; rw [e2]; exact z
/-- a place of the store is written -/
theorem Ok.setS (k : Ok w g S H) {m : Nat} {o o' : Ob} {h : HO} (e : S.ob m = some o) (r : RlO w g o' (some h)) : Ok w g (S.set m o') (upd H (g.ι m) h) := by
  have hm := k.lt m o e
  have nF := k.fr m o e
  refine ⟨fun a u q => ?_, k.nx, k.inj, fun n q => ?_, fun n u q => ?_, fun n u q => ?_, fun n u q => ?_⟩
  · rw [upd_ne (ne_of_none q nF)]; exact k.sub a u q
  · by_cases c : g.ι n = g.ι m
    · rw [c, upd_same]; exact fun z => nomatch z
    · rw [upd_ne c]; exact k.use n q
  · have q' : (if n = m then some o' else S.ob n) = some u := q
    by_cases c : n = m
    · rw [c]; exact hm
    · rw [if_neg c] at q'; exact k.lt n u q'
  · have q' : (if n = m then some o' else S.ob n) = some u := q
    by_cases c : n = m
    · rw [c]; exact nF
    · rw [if_neg c] at q'; exact k.fr n u q'
  · have q' : (if n = m then some o' else S.ob n) = some u := q
    by_cases c : n = m
    · rw [if_pos c] at q'; cases q'
      rw [c, upd_same]; exact r
    · rw [if_neg c] at q'
      have hn := k.lt n u q'
      rw [upd_ne (fun z => c (k.inj n m hn hm z))]
      exact k.ob n u q'
/-- a list of the store is frozen -/
theorem Ok.frz (k : Ok w g S H) {m : Nat} {o : Ob} {h : HO} (e : S.ob m = some o) (hh : H (g.ι m) = some h) : g.Le (g.add (g.ι m) h) ∧ Ok w (g.add (g.ι m) h) (S.del m) H := by
  have hm := k.lt m o e
  have le : g.Le (g.add (g.ι m) h) := Gh.add_le (k.fr m o e)
  refine ⟨le, fun a u q => ?_, k.nx, k.inj, k.use, fun n u q => ?_, fun n u q => ?_, fun n u q => ?_⟩
  · have q' : upd g.F (g.ι m) h a = some u := q
    by_cases c : a = g.ι m
    · rw [c, upd_same] at q'; cases q'; rw [c]; exact hh
    · rw [upd_ne c] at q'; exact k.sub a u q'
  all_goals
    have q' : (if n = m then Option.none else S.ob n) = some u := q
    have c : n ≠ m := fun c => by rw [if_pos c] at q'; cases q'
    rw [if_neg c] at q'
    have hn := k.lt n u q'
  · exact hn
  · show upd g.F (g.ι m) h (g.ι n) = Option.none
    rw [upd_ne (fun z => c (k.inj n m hn hm z))]; exact k.fr n u q'
  · exact (k.ob n u q').mono le
end

/-! ### computations -/
inductive Rs (α : Type) where
  | ok (a : α) (S : Store)
  | exc (c : Str) (S : Store)
  | bad
abbrev M (α : Type) : Type := Store → Rs α
def Rs.andThen {α β : Type} : Rs α → (α → M β) → Rs β
  | .ok a S, k => k a S
  | .exc c S, _ => .exc c S
  | .bad, _ => .bad
def M.bind {α β : Type} (m : M α) (k : α → M β) : M β := fun S => (m S).andThen k
def M.pure {α : Type} (a : α) : M α := fun S => .ok a S
def M.bad {α : Type} : M α := fun _ => .bad
def M.exc {α : Type} (c : Str) : M α := fun S => .exc c S

/-- what is wanted of an end -/
def Pg {α : Type} (w : Wd) (g : Gh) (E : Str → Hp → Prop) (R : α → Gh → Hp → Prop) : Rs α → Prop
  | .ok a S' => ∀ g' H', g.Le g' → Ok w g' S' H' → R a g' H'
  | .exc c S' => ∀ g' H', g.Le g' → Ok w g' S' H' → E c H'
  | .bad => False
theorem Pg.mono {α : Type} {w : Wd} {g g1 : Gh} {E : Str → Hp → Prop} {R : α → Gh → Hp → Prop} (l : g.Le g1) : ∀ {r : Rs α}, Pg w g E R r → Pg w g1 E R r
  | .ok _ _, h => fun g' H' l' => h g' H' (l.trans l')
  | .exc _ _, h => fun g' H' l' => h g' H' (l.trans l')
  | .bad, h => h
/-- .. of a value, a list of values, a truth -/
abbrev Pst (w : Wd) (g : Gh) (E : Str → Hp → Prop) (Q : VK) : Rs D → Prop := Pg w g E fun d g' H' => ∀ v, Rl w g' d v → Q v H'
abbrev PstA (w : Wd) (g : Gh) (E : Str → Hp → Prop) (Q : List V → Hp → Prop) : Rs (List D) → Prop := Pg w g E fun d g' H' => ∀ v, Rls w g' d v → Q v H'
abbrev PstT (w : Wd) (g : Gh) (E : Str → Hp → Prop) (Q : Bool → Hp → Prop) : Rs Bool → Prop := Pg w g E fun d _ H' => Q d H'

/-! ### environments -/
abbrev Env := List (Option D)
structure REnv (w : Wd) (g : Gh) (env : Env) (σ : L2.St) : Prop where
  len : env.length = σ.length
  get : ∀ (i : Nat) (d : D), env[i]? = some (some d) → ∃ v : V, σ[i]? = some (some v) ∧ Rl w g d v
theorem REnv.mono {w : Wd} {g g' : Gh} {env : Env} {σ : L2.St} (l : g.Le g') (r : REnv w g env σ) : REnv w g' env σ :=
  ⟨r.len, fun i d e => let ⟨v, h1, h2⟩ := r.get i d e; ⟨v, h1, h2.mono l⟩⟩
theorem REnv.set {w : Wd} {g : Gh} {env : Env} {σ : L2.St} {d : D} {v : V} (r : REnv w g env σ) (i : Nat) (h : Rl w g d v) : REnv w g (env.set i (some d)) (σ.set i (some v)) := by
  refine ⟨by simp [r.len], fun j e q => ?_⟩
  by_cases c : i = j
  · subst c
    rw [List.getElem?_set] at q ⊢
    rw [if_pos rfl] at q ⊢
    split at q
    · rename_i hlt
      cases q
      rw [if_pos (by rw [← r.len]; exact hlt)]
      exact ⟨v, rfl, h⟩
    · cases q
  · rw [List.getElem?_set_ne c] at q ⊢
    exact r.get j e q
end ML

/-! What the built-in operations do with data. -/
namespace ML
open PySem PySem.Spec PyProof.Rows L2

/-! ### lists as they are read and made -/
/-- what an operation gives: a value, a new list, a new tuple -/
inductive PR where
  | val (d : D)
  | newl (xs : List D)
  | newt (xs : List D)
/-- a new list is a value (m = false), or a place of the store -/
def fin (m : Bool) : PR → M D
  | .val d => M.pure d
  | .newl xs => if m then fun S => .ok (.loc S.nx) (S.new (.lst xs)) else M.pure (.lst xs)
  | .newt xs => M.pure (.tup xs)
def finO (m : Bool) : Option PR → M D
  | some r => fin m r
  | none => M.bad

section
variable {w : Wd} {g : Gh} {S : Store} {H : Hp} {E : Str → Hp → Prop} {Q : VK} {m : Bool} {d : D} {v : V} {ds : List D} {vs : List V}
theorem fin_val (p : Pst w g E Q (fin m (.val d) S)) (k : Ok w g S H) (r : Rl w g d v) : Q v H := p g H (Gh.Le.refl g) k v r
theorem rl_add {p : Addr} (k : Ok w g S H) (hp : H p = none) (r : Rls w g ds vs) : Rl w (g.add p (.lst vs)) (.lst ds) (.ref p) :=
  .lst upd_same (r.mono (Gh.add_le (k.none hp)))
theorem rl_addT {p : Addr} (k : Ok w g S H) (hp : H p = none) (r : Rls w g ds vs) : Rl w (g.add p (.tup vs)) (.tup ds) (.ref p) :=
  .tup (.inl (.inl upd_same)) (r.mono (Gh.add_le (k.none hp)))
theorem fin_newl (p : Pst w g E Q (fin m (.newl ds) S)) (k : Ok w g S H) (r : Rls w g ds vs) : ∀ a, H a = none → Q (.ref a) (upd H a (.lst vs)) := by
  intro a ha
  cases m with
  | false =>
    have p' : Pst w g E Q (.ok (.lst ds) S) := p
    exact p' _ _ (Gh.add_le (k.none ha)) (k.addF ha) _ (rl_add k ha r)
  | true =>
    have p' : Pst w g E Q (.ok (.loc S.nx) (S.new (.lst ds))) := p
    have e : (g.put a).ι g.nx = a := Gh.put_ι
    refine p' (g.put a) _ Gh.put_le (k.addS ha (fun b u q => by rw [upd_ne (ne_of_none q ha)]; exact q) upd_same ⟨vs, rfl, r.mono Gh.put_le⟩) _ ?_
    have z : Rl w (g.put a) (.loc g.nx) (.ref ((g.put a).ι g.nx)) := .loc (Nat.lt_succ_self _)
    rw [e] at z
    rw [k.nx]
    exact z
theorem fin_newt (p : Pst w g E Q (fin m (.newt ds) S)) (k : Ok w g S H) (r : Rls w g ds vs) : ∀ a, H a = none → Q (.ref a) (upd H a (.tup vs)) := by
  intro a ha
  have p' : Pst w g E Q (.ok (.tup ds) S) := p
  exact p' _ _ (Gh.add_le (k.none ha)) (k.addF ha) _ (rl_addT k ha r)
end

/-- the lists of the store -/
def obLst : Option Ob → Option (List D)
  | some (.lst xs) => some xs
  | _ => none
/-- a list that may be written, or was -/
def lstT (S : Store) : D → Option (List D)
  | .lst xs => some xs
  | .loc n => obLst (S.ob n)
  | _ => none
def lstOf (S : Store) : D → Option (List D)
  | .cst xs => some xs
  | d => lstT S d
def seqOf (S : Store) : D → Option (List D)
  | .tup xs => some xs
  | d => lstOf S d
section
variable {w : Wd} {g : Gh} {S : Store} {H : Hp} {d : D} {v : V} {ds : List D}
theorem obLst_some {o : Option Ob} (e : obLst o = some ds) : o = some (.lst ds) := by
  cases o with
  | none => cases e
  | some o =>
    cases o with
    | lst xs => cases e; rfl
    | dct _ => cases e
    | ins _ _ => cases e
theorem lstT_ok (k : Ok w g S H) (r : Rl w g d v) (e : lstT S d = some ds) : ∃ a vs, v = .ref a ∧ H a = some (.lst vs) ∧ Rls w g ds vs := by
  cases r with
  | lst s rs => cases e; exact ⟨_, _, rfl, k.sub _ _ s, rs⟩
  | @loc n hn =>
    obtain ⟨vs, h1, h2⟩ := k.ob n _ (obLst_some e)
    exact ⟨_, vs, rfl, h1, h2⟩
  | _ => cases e
theorem lstOf_ok (k : Ok w g S H) (r : Rl w g d v) (e : lstOf S d = some ds) : ∃ a vs, v = .ref a ∧ SqL w.K H a vs ∧ Rls w g ds vs := by
  have gen : lstT S d = some ds → ∃ a vs, v = .ref a ∧ SqL w.K H a vs ∧ Rls w g ds vs := fun e => by
    obtain ⟨a, vs, h1, h2, h3⟩ := lstT_ok k r e
    exact ⟨a, vs, h1, .inl (.inl h2), h3⟩
  cases r with
  | cst s rs => cases e; exact ⟨_, _, rfl, k.sqL s, rs⟩
  | _ => exact gen e
theorem seqOf_ok (k : Ok w g S H) (r : Rl w g d v) (e : seqOf S d = some ds) : ∃ a vs, v = .ref a ∧ (SqL w.K H a vs ∨ SqT w.K H a vs) ∧ Rls w g ds vs := by
  have gen : lstOf S d = some ds → ∃ a vs, v = .ref a ∧ (SqL w.K H a vs ∨ SqT w.K H a vs) ∧ Rls w g ds vs := fun e => by
    obtain ⟨a, vs, h1, h2, h3⟩ := lstOf_ok k r e
    exact ⟨a, vs, h1, .inl h2, h3⟩
  cases r with
  | tup s rs => cases e; exact ⟨_, _, rfl, .inr (k.sqT s), rs⟩
  | _ => exact gen e
end

/-! ### list + list, for any list that is read -/
section
variable {X : Cx}
theorem add_plain {prog : Program} {w : World} {A : Around} {s : Shared} {E : Value → Shared → Prop} {l b : Addr} {us ws : Array Value} {Q : Value → Shared → Prop} (ha : PlainL s.heap l us) (hb : PlainL s.heap b ws)
    (h : Q (.ref s.heap.objs.size) { s with heap := s.heap.push { cls := .type "list", data := .seq (us ++ ws) } }) (hz : us.size + ws.size ≤ sizeLine) : wpAny (model prog w) A (binaryOp .Add (.ref l) (.ref b)) Q E s := by
  obtain ⟨⟨cls, dd, data, sl⟩, n, ho, hc, hdd, hd⟩ := ha
  obtain ⟨⟨cls2, dd2, data2, sl2⟩, n2, ho2, hc2, hdd2, hd2⟩ := hb
  simp only at hc hd hc2 hd2
  subst hc hd hc2 hd2
  exact concat_meets ⟨_, ho, rfl⟩ ⟨_, ho2, rfl⟩ noFill_list_add seq_list_add PySem.F.slot_list_add PySem.F.entry_list_add (PySem.F.args_list_add_2 _ _) (list_addW l b us ws n n2 dd dd2 sl sl2 hz) ⟨ho, ho2, h⟩
def rCatL (K : PySem.W.Frag) : R2 := fun x y H Q => ∃ l b xs zs, x = .ref l ∧ y = .ref b ∧ SqL K H l xs ∧ SqL K H b zs ∧ xs.length + zs.length ≤ sizeLine ∧ ∀ p, H p = none → Q (.ref p) (upd H p (.lst (xs ++ zs)))
theorem op_catL : OpR X (binaryOp .Add) (rCatL X.K) := by
  intro pins s σ H x y v u Q I rx ry h
  obtain ⟨l, b, xs, zs, rfl, rfl, hH, hB, hz, q⟩ := h
  cases rx
  cases ry
  obtain ⟨its, r, pl, z⟩ := I.list hH
  obtain ⟨its2, r2, pl2, z2⟩ := I.list hB
  refine add_plain pl pl2 ?_ (by rw [List.size_toArray, List.size_toArray, ← r.length, ← r2.length]; exact hz)
  have ea : its.toArray ++ its2.toArray = (its ++ its2).toArray := by simp
  rw [ea]
  exact ⟨.ref _, _, I.lnew (t' := s.toks) (r.append r2) (by rw [List.length_append]; omega), rfl, q _ I.fresh⟩
end

/-! ### two-place operations -/
def nMax : Nat := 16000000
theorem nMax_le {n : Nat} (h : n ≤ nMax) : n ≤ sizeLine := Nat.le_trans h (by decide)
theorem nMax_lt {n : Nat} (h : n < nMax) : n < sizeLine := Nat.lt_of_lt_of_le h (by decide)
def guardP (b : Bool) (r : PR) : Option PR := if b = true then some r else none
theorem guardP_some {b : Bool} {r r' : PR} (h : guardP b r = some r') : b = true ∧ r = r' := by
  unfold guardP at h
  split at h
  · exact ⟨by assumption, Option.some.inj h⟩
  · cases h
def addP (S : Store) : D → D → Option PR
  | .int i, .int j => some (.val (.int (i + j)))
  | .str a, .str b => guardP (decide (a.length + b.length ≤ nMax)) (.val (.str (a ++ b)))
  | .tup xs, .tup ys => guardP (decide (xs.length + ys.length ≤ nMax)) (.newt (xs ++ ys))
  | d, e => match lstOf S d, lstOf S e with
    | some xs, some ys => guardP (decide (xs.length + ys.length ≤ nMax)) (.newl (xs ++ ys))
    | _, _ => none
def mulP (S : Store) : D → D → Option PR
  | .int i, .int j => guardP (decide (-(2 ^ 64) < i ∧ i < 2 ^ 64) || decide (-(2 ^ 64) < j ∧ j < 2 ^ 64)) (.val (.int (i * j)))
  | d, .int k => match lstT S d with
    | some xs => guardP (decide (0 ≤ k) && decide (k < 1000) && decide (xs.length * k.toNat ≤ nMax)) (.newl (List.replicate k.toNat xs).flatten)
    | none => none
  | _, _ => none
def binP (S : Store) : Operator → D → D → Option PR
  | .Add, d, e => addP S d e
  | .Sub, .int i, .int j => some (.val (.int (i - j)))
  | .Mult, d, e => mulP S d e
  | .FloorDiv, .int i, .int j => guardP (decide (0 < j) && decide (j < 1073741824)) (.val (.int (i / j)))
  | .Mod, .int i, .int j => guardP (decide (0 < j)) (.val (.int (i % j)))
  | .Pow, .int i, .int j => guardP (decide (0 ≤ j) && decide (j ≤ 1000000) && decide (i.natAbs < 2 ^ 64)) (.val (.int (i ^ j.toNat)))
  | _, _, _ => none

/-- the reading of such an operation -/
def r2 (w : Wd) (m : Bool) (f : Store → D → D → Option PR) : R2 := fun x y H Q => ∃ g S d e, Ok w g S H ∧ Rl w g d x ∧ Rl w g e y ∧ Pst w g (fun _ _ => False) Q (finO m (f S d e) S)
theorem r2_mono {w : Wd} {m : Bool} {f : Store → D → D → Option PR} {x y : V} {H : Hp} {Q : VK} (h : r2 w m f x y H Q) :
    ∃ g S d e r, Ok w g S H ∧ Rl w g d x ∧ Rl w g e y ∧ f S d e = some r ∧ Pst w g (fun _ _ => False) Q (fin m r S) := by
  obtain ⟨g, S, d, e, k, r1, r2, p⟩ := h
  cases q : f S d e with
  | none => rw [q] at p; exact p.elim
  | some r => rw [q] at p; exact ⟨g, S, d, e, r, k, r1, r2, q, p⟩

theorem newt_all {w : Wd} {g : Gh} {S : Store} {H : Hp} {E : Str → Hp → Prop} {Q : VK} {m : Bool} {d : D} {v : V} {ds : List D} (p : Pst w g E Q (fin m (.newt ds) S)) (k : Ok w g S H) (r : Rl w g (.tup ds) v) : Q v H := by
  have p' : Pst w g E Q (.ok (.tup ds) S) := p
  exact p' _ _ (Gh.Le.refl g) k _ r
section
variable {X : Cx} {w : Wd} {m : Bool}
theorem rep_flat {w : Wd} {g : Gh} {ds : List D} {vs : List V} (r : Rls w g ds vs) : ∀ n, Rls w g (List.replicate n ds).flatten (List.replicate n vs).flatten
  | 0 => .nil
  | n + 1 => by
    rw [List.replicate_succ, List.replicate_succ, List.flatten_cons, List.flatten_cons]
    exact r.append (rep_flat r n)
theorem add_ok (hw : X.K = w.K) : OpR X (binaryOp .Add) (r2 w m addP) := by
  intro pins s σ H x y v u Q I rx ry h
  obtain ⟨g, S, d, e, r, k, r1, r2, q, p⟩ := r2_mono h
  have lists : ∀ {xs ys : List D}, lstOf S d = some xs → lstOf S e = some ys → guardP (decide (xs.length + ys.length ≤ nMax)) (.newl (xs ++ ys)) = some r → wpAny (model X.prog X.w) X.A (binaryOp .Add v u) (EP X pins σ Q) X.xe s := fun {xs ys} h1 h2 h3 => by
    obtain ⟨hb, rfl⟩ := guardP_some h3
    obtain ⟨a, vs, rfl, s1, q1⟩ := lstOf_ok k r1 h1
    obtain ⟨b, us, rfl, s2, q2⟩ := lstOf_ok k r2 h2
    exact op_catL pins s σ H _ _ v u Q I rx ry ⟨a, b, vs, us, rfl, rfl, by rw [hw]; exact s1, by rw [hw]; exact s2, by rw [← q1.length, ← q2.length]; exact nMax_le (of_decide_eq_true hb), fin_newl p k (q1.append q2)⟩
  have els : (match lstOf S d, lstOf S e with
    | some xs, some ys => guardP (decide (xs.length + ys.length ≤ nMax)) (PR.newl (xs ++ ys))
    | _, _ => none) = some r → wpAny (model X.prog X.w) X.A (binaryOp .Add v u) (EP X pins σ Q) X.xe s := fun q => by
    cases h1 : lstOf S d with
    | none => rw [h1] at q; cases q
    | some xs =>
      cases h2 : lstOf S e with
      | none => rw [h1, h2] at q; cases q
      | some ys => rw [h1, h2] at q; exact lists h1 h2 q
  cases r1 with
  | int i =>
    cases r2 with
    | int j => cases q; exact op_add pins s σ H _ _ v u Q I rx ry ⟨i, j, rfl, rfl, fin_val p k (.int _)⟩
    | _ => exact els q
  | str a =>
    cases r2 with
    | str b =>
      obtain ⟨hb, rfl⟩ := guardP_some q
      exact op_add_str pins s σ H _ _ v u Q I rx ry ⟨a, b, rfl, rfl, nMax_le (of_decide_eq_true hb), fin_val p k (.str _)⟩
    | _ => exact els q
  | @tup a vs xs s1 q1 =>
    cases r2 with
    | @tup b us ys s2 q2 =>
      obtain ⟨hb, rfl⟩ := guardP_some q
      refine op_catA pins s σ H _ _ v u Q I rx ry ⟨a, b, vs, us, rfl, rfl, by rw [hw]; exact k.sqT s1, by rw [hw]; exact k.sqT s2, by rw [← q1.length, ← q2.length]; exact nMax_le (of_decide_eq_true hb), fun e => ?_, fun _ e => ?_, fun _ _ => fin_newt p k (q1.append q2)⟩
      · subst e
        cases q1
        exact newt_all (d := .non) p k (.tup s2 q2)
      · subst e
        cases q2
        rw [List.append_nil] at p
        exact newt_all (d := .non) p k (.tup s1 q1)
    | _ => exact els q
  | _ => exact els q
theorem mul_ok (hw : X.K = w.K) : OpR X (binaryOp .Mult) (r2 w m mulP) := by
  intro pins s σ H x y v u Q I rx ry h
  obtain ⟨g, S, d, e, r, k, r1, r2, q, p⟩ := r2_mono h
  have lists : ∀ {j : Int}, y = .int j → (match lstT S d with
    | some xs => guardP (decide (0 ≤ j) && decide (j < 1000) && decide (xs.length * j.toNat ≤ nMax)) (PR.newl (List.replicate j.toNat xs).flatten)
    | none => none) = some r → wpAny (model X.prog X.w) X.A (binaryOp .Mult v u) (EP X pins σ Q) X.xe s := fun {j} e q => by
    subst e
    cases h1 : lstT S d with
    | none => rw [h1] at q; cases q
    | some xs =>
      rw [h1] at q
      obtain ⟨hb, rfl⟩ := guardP_some q
      simp only [Bool.and_eq_true, decide_eq_true_eq] at hb
      obtain ⟨a, vs, rfl, s1, q1⟩ := lstT_ok k r1 h1
      exact op_rep pins s σ H _ _ v u Q I rx ry ⟨a, j, vs, rfl, rfl, s1, by omega, by omega, by rw [← q1.length]; exact nMax_le hb.2, fin_newl p k (rep_flat q1 _)⟩
  cases r2 with
  | int j =>
    cases r1 with
    | int i =>
      obtain ⟨hb, rfl⟩ := guardP_some q
      rw [Bool.or_eq_true] at hb
      refine op_mul pins s σ H _ _ v u Q I rx ry ⟨i, j, rfl, rfl, ?_, fin_val p k (.int _)⟩
      rcases hb with hb | hb
      · exact .inl (of_decide_eq_true hb)
      · exact .inr (of_decide_eq_true hb)
    | _ => exact lists rfl q
  | _ => cases r1 <;> cases q
theorem bin_ok (hw : X.K = w.K) (op : Operator) : OpR X (binaryOp op) (r2 w m fun S => binP S op) := by
  cases op with
  | Add => exact add_ok hw
  | Mult => exact mul_ok hw
  | Sub =>
    intro pins s σ H x y v u Q I rx ry h
    obtain ⟨g, S, d, e, r, k, r1, r2, q, p⟩ := r2_mono h
    cases r1 with
    | int i =>
      cases r2 with
      | int j => cases q; exact op_sub pins s σ H _ _ v u Q I rx ry ⟨i, j, rfl, rfl, fin_val p k (.int _)⟩
      | _ => cases q
    | _ => cases q
  | FloorDiv =>
    intro pins s σ H x y v u Q I rx ry h
    obtain ⟨g, S, d, e, r, k, r1, r2, q, p⟩ := r2_mono h
    cases r1 with
    | int i =>
      cases r2 with
      | int j =>
        obtain ⟨hb, rfl⟩ := guardP_some q
        simp only [Bool.and_eq_true, decide_eq_true_eq] at hb
        exact op_fdiv pins s σ H _ _ v u Q I rx ry ⟨i, j, rfl, rfl, hb, fin_val p k (.int _)⟩
      | _ => cases q
    | _ => cases q
  | Mod =>
    intro pins s σ H x y v u Q I rx ry h
    obtain ⟨g, S, d, e, r, k, r1, r2, q, p⟩ := r2_mono h
    cases r1 with
    | int i =>
      cases r2 with
      | int j =>
        obtain ⟨hb, rfl⟩ := guardP_some q
        exact op_mod pins s σ H _ _ v u Q I rx ry ⟨i, j, rfl, rfl, of_decide_eq_true hb, fin_val p k (.int _)⟩
      | _ => cases q
    | _ => cases q
  | Pow =>
    intro pins s σ H x y v u Q I rx ry h
    obtain ⟨g, S, d, e, r, k, r1, r2, q, p⟩ := r2_mono h
    cases r1 with
    | int i =>
      cases r2 with
      | int j =>
        obtain ⟨hb, rfl⟩ := guardP_some q
        simp only [Bool.and_eq_true, decide_eq_true_eq] at hb
        exact op_pow pins s σ H _ _ v u Q I rx ry ⟨i, j, rfl, rfl, ⟨hb.1.1, hb.1.2, hb.2⟩, fin_val p k (.int _)⟩
      | _ => cases q
    | _ => cases q
  | _ =>
    intro pins s σ H x y v u Q I rx ry h
    obtain ⟨g, S, d, e, r, k, r1, r2, q, p⟩ := r2_mono h
    cases r1 <;> cases q
end
end ML

/-! Comparisons, places, slices, truth, calls of built-ins. -/
namespace ML
open PySem PySem.Spec PyProof.Rows L2

/-! ### data as the model compares it -/
mutual
def py : D → Option PyData
  | .non => some .none
  | .bl b => some (.bool b)
  | .int i => some (.int i)
  | .str s => some (.str s)
  | .tup xs => (pys xs).map .tuple
  | .lst xs => (pys xs).map .list
  | .cst xs => (pys xs).map .list
  | .loc _ => none
  | .exn _ => none
def pys : List D → Option (List PyData)
  | [] => some []
  | x :: xs => (py x).bind fun a => (pys xs).map (a :: ·)
end
def pyS (S : Store) : D → Option PyData
  | .loc n => (obLst (S.ob n)).bind fun xs => (pys xs).map .list
  | d => py d
section
variable {w : Wd} {g : Gh} {S : Store} {H : Hp}
mutual
theorem py_ok (k : Ok w g S H) : ∀ {d : D} {v : V} {p : PyData}, Rl w g d v → py d = some p → Dp w.K H v p
  | _, _, _, .non, e => by cases e; exact .non
  | _, _, _, .bl b, e => by cases e; exact .bl b
  | _, _, _, .int i, e => by cases e; exact .int i
  | _, _, _, .str x, e => by cases e; exact .str x
  | _, _, p, .tup (ds := ds) s r, e => by
    cases q : pys ds with
    | none => simp [py, q] at e
    | some ps => simp [py, q] at e; subst e; exact .tup (k.sqT s) (pys_ok k r q)
  | _, _, p, .lst (ds := ds) s r, e => by
    cases q : pys ds with
    | none => simp [py, q] at e
    | some ps => simp [py, q] at e; subst e; exact .lst (.inl (.inl (k.sub _ _ s))) (pys_ok k r q)
  | _, _, p, .cst (ds := ds) s r, e => by
    cases q : pys ds with
    | none => simp [py, q] at e
    | some ps => simp [py, q] at e; subst e; exact .lst (k.sqL s) (pys_ok k r q)
  | _, _, _, .loc _, e => by simp [py] at e
  | _, _, _, .exn _ _, e => by simp [py] at e
theorem pys_ok (k : Ok w g S H) : ∀ {ds : List D} {vs : List V} {ps : List PyData}, Rls w g ds vs → pys ds = some ps → DpAll w.K H vs ps
  | _, _, _, .nil, e => by simp [pys] at e; subst e; exact .nil
  | _, _, _, .cons (d := d) (ds := ds) r t, e => by
    cases q : py d with
    | none => simp [pys, q] at e
    | some a =>
      cases q2 : pys ds with
      | none => simp [pys, q, q2] at e
      | some as => simp [pys, q, q2] at e; subst e; exact .cons (py_ok k r q) (pys_ok k t q2)
end
theorem pyS_ok (k : Ok w g S H) {d : D} {v : V} {p : PyData} (r : Rl w g d v) (e : pyS S d = some p) : Dp w.K H v p := by
  have gen : py d = some p → Dp w.K H v p := fun e => py_ok k r e
  cases r with
  | @loc n hn =>
    have e' : ((obLst (S.ob n)).bind fun xs => (pys xs).map .list) = some p := e
    cases q : obLst (S.ob n) with
    | none => rw [q] at e'; cases e'
    | some xs =>
      rw [q] at e'
      obtain ⟨vs, h1, h2⟩ := k.ob n _ (obLst_some q)
      cases q2 : pys xs with
      | none => simp [q2] at e'
      | some ps => simp [q2] at e'; subst e'; exact .lst (.inl (.inl h1)) (pys_ok k h2 q2)
  | _ => exact gen e
end

/-! ### comparisons -/
/-- flat things, compared by == -/
def flat : D → Option V
  | .non => some .non
  | .bl b => some (.bl b)
  | .int i => some (.int i)
  | .str s => some (.str s)
  | _ => none
theorem flat_ok {w : Wd} {g : Gh} {d : D} {v u : V} (r : Rl w g d v) (e : flat d = some u) : v = u := by
  cases r <;> cases e <;> rfl
def eqP (S : Store) (d e : D) : Option Bool :=
  match flat d, flat e with
  | some x, some y => if scal x y = true then some (decide (x = y)) else none
  | _, _ => match pyS S d, pyS S e with
    | some a, some b => if (SeqAt.shaped a && SeqAt.shaped b) = true then some (PyData.eqv a b) else none
    | _, _ => none
def flats : List D → Option (List V)
  | [] => some []
  | x :: xs => (flat x).bind fun a => (flats xs).map (a :: ·)
theorem flats_ok {w : Wd} {g : Gh} : ∀ {ds : List D} {vs us : List V}, Rls w g ds vs → flats ds = some us → vs = us
  | _, _, _, .nil, e => by simp [flats] at e; exact e.symm
  | _, _, _, .cons (d := d) (ds := ds) r t, e => by
    cases q : flat d with
    | none => simp [flats, q] at e
    | some a =>
      cases q2 : flats ds with
      | none => simp [flats, q, q2] at e
      | some as => simp [flats, q, q2] at e; subst e; rw [flat_ok r q, flats_ok t q2]
theorem flat_flatV {d : D} {u : V} (e : flat d = some u) : flatV u = true := by
  cases d <;> cases e <;> rfl
theorem flats_flatV : ∀ {ds : List D} {us : List V}, flats ds = some us → us.all flatV = true
  | [], _, e => by simp [flats] at e; subst e; rfl
  | d :: ds, _, e => by
    cases q : flat d with
    | none => simp [flats, q] at e
    | some a =>
      cases q2 : flats ds with
      | none => simp [flats, q, q2] at e
      | some as => simp [flats, q, q2] at e; subst e; rw [List.all_cons, flat_flatV q, flats_flatV q2]; rfl
/-- x in y -/
def subIn (a b : Str) : Bool := !(Builtin.Str.occurrences b a 0 b.length 1).isEmpty
/-- x in a row of things, compared by what they hold -/
def inD (S : Store) (d e : D) : Option Bool := match py d, (seqOf S e).bind pys with
  | some a, some ps => if (SeqAt.shaped a && decide (PyData.depth a ≤ 60) && ps.all SeqAt.shaped) = true then some (ps.any fun p => PyData.eqv p a) else none
  | _, _ => none
def keyOf : D → Option Key
  | .int i => some (.inl i)
  | .str s => some (.inr s)
  | _ => none
def lookK (kvs : List (Key × D)) (k : Key) : Option D := (kvs.find? fun p => decide (p.1 = k)).map (·.2)
def obDct : Option Ob → Option (List (Key × D))
  | some (.dct kvs) => some kvs
  | _ => none
/-- x in a dict -/
def inM (S : Store) : D → D → Option Bool
  | d, .loc n => (obDct (S.ob n)).bind fun kvs => (keyOf d).map fun k => (lookK kvs k).isSome
  | _, _ => none
def inP (S : Store) (d e : D) : Option Bool :=
  match d, e with
  | .str a, .str b => some (subIn a b)
  | d, e => match flat d, (seqOf S e).bind flats with
    | some x, some xs => some (inV x xs)
    | _, _ => match inM S d e with
      | some b => some b
      | none => inD S d e
def bV (b : Option Bool) : Option PR := b.map fun b => .val (.bl b)
def isNon : D → Bool
  | .non => true
  | _ => false
def cmpP (S : Store) : CmpOp → D → D → Option Bool
  | .Eq, d, e => eqP S d e
  | .NotEq, d, e => (eqP S d e).map (!·)
  | .Lt, .int i, .int j => some (decide (i < j))
  | .LtE, .int i, .int j => some (decide (i ≤ j))
  | .Gt, .int i, .int j => some (decide (j < i))
  | .GtE, .int i, .int j => some (decide (j ≤ i))
  | .In, d, e => inP S d e
  | .NotIn, d, e => (inP S d e).map (!·)
  | .Is, d, .non => some (isNon d)
  | .IsNot, d, .non => some (!isNon d)
  | _, _, _ => none
theorem isNon_ok {w : Wd} {g : Gh} {d : D} {v : V} (r : Rl w g d v) : decide (v = .non) = isNon d := by
  cases r <;> rfl
section
variable {X : Cx} {w : Wd} {m : Bool}
theorem eq_ok {pins : List (Addr × Obj)} {s : Shared} {σ : L2.St} {H : Hp} {x y : V} {v u : Value} {Q : VK} {g : Gh} {S : Store} {d e : D} {b : Bool} (hw : X.K = w.K) (hu : X.A.units + 64 < cLine) (I : Inv X pins σ H s) (rx : RelV x v) (ry : RelV y u)
    (k : Ok w g S H) (r1 : Rl w g d x) (r2 : Rl w g e y) (q : eqP S d e = some b) :
    (Q (.bl b) H → wpAny (model X.prog X.w) X.A (compareOp .Eq v u) (EP X pins σ Q) X.xe s) ∧ (Q (.bl (!b)) H → wpAny (model X.prog X.w) X.A (compareOp .NotEq v u) (EP X pins σ Q) X.xe s) := by
  have deep : (match pyS S d, pyS S e with
    | some a, some b => if (SeqAt.shaped a && SeqAt.shaped b) = true then some (PyData.eqv a b) else none
    | _, _ => none) = some b → (Q (.bl b) H → wpAny (model X.prog X.w) X.A (compareOp .Eq v u) (EP X pins σ Q) X.xe s) ∧ (Q (.bl (!b)) H → wpAny (model X.prog X.w) X.A (compareOp .NotEq v u) (EP X pins σ Q) X.xe s) := fun q => by
    cases h1 : pyS S d with
    | none => rw [h1] at q; cases q
    | some a =>
      cases h2 : pyS S e with
      | none => rw [h1, h2] at q; cases q
      | some c =>
        rw [h1, h2] at q
        simp only at q
        split at q
        · rename_i hs
          rw [Bool.and_eq_true] at hs
          cases q
          have D1 := pyS_ok k r1 h1
          have D2 := pyS_ok k r2 h2
          rw [← hw] at D1 D2
          exact ⟨fun z => op_eqD hu pins s σ H x y v u Q I rx ry ⟨a, c, D1, D2, hs.1, hs.2, z⟩, fun z => op_neD hu pins s σ H x y v u Q I rx ry ⟨a, c, D1, D2, hs.1, hs.2, z⟩⟩
        · cases q
  unfold eqP at q
  cases h1 : flat d with
  | none => rw [h1] at q; exact deep q
  | some x' =>
    cases h2 : flat e with
    | none => rw [h1, h2] at q; exact deep q
    | some y' =>
      rw [h1, h2] at q
      simp only at q
      split at q
      · rename_i hs
        cases q
        obtain rfl := flat_ok r1 h1
        obtain rfl := flat_ok r2 h2
        exact ⟨fun z => op_eq pins s σ H _ _ v u Q I rx ry ⟨hs, z⟩, fun z => op_ne pins s σ H _ _ v u Q I rx ry ⟨hs, z⟩⟩
      · cases q
theorem krl_some {g : Gh} {k : Key} {d : D} : ∀ {kvs : List (Key × D)} {ps : List (Key × V)}, KRl w g kvs ps → lookK kvs k = some d → ∃ v, valV ps k = some v ∧ Rl w g d v
  | _, _, .nil, e => by cases e
  | (a, x) :: fs, (b, y) :: ps, .cons r t, e => by
    obtain ⟨r1, r2⟩ := r
    have r1 : a = b := r1
    subst r1
    by_cases c : a = k
    · have e1 : lookK ((a, x) :: fs) k = some x := by simp [lookK, List.find?_cons, c]
      rw [e1] at e
      cases e
      exact ⟨y, valV_pos c, r2⟩
    · have e1 : lookK ((a, x) :: fs) k = lookK fs k := by simp [lookK, List.find?_cons, c]
      rw [e1] at e
      obtain ⟨v, h1, h2⟩ := krl_some t e
      exact ⟨v, by rw [valV_neg c]; exact h1, h2⟩
theorem krl_none {g : Gh} {k : Key} : ∀ {kvs : List (Key × D)} {ps : List (Key × V)}, KRl w g kvs ps → lookK kvs k = none → valV ps k = none
  | _, _, .nil, _ => rfl
  | (a, x) :: fs, (b, y) :: ps, .cons r t, e => by
    obtain ⟨r1, r2⟩ := r
    have r1 : a = b := r1
    subst r1
    by_cases c : a = k
    · have e1 : lookK ((a, x) :: fs) k = some x := by simp [lookK, List.find?_cons, c]
      rw [e1] at e
      cases e
    · have e1 : lookK ((a, x) :: fs) k = lookK fs k := by simp [lookK, List.find?_cons, c]
      rw [e1] at e
      rw [valV_neg c]; exact krl_none t e
theorem key_ok {g : Gh} {e : D} {k : Key} {y : V} (r : Rl w g e y) (h : keyOf e = some k) : y = kV k := by
  cases r with
  | int i => cases h; rfl
  | str s => cases h; rfl
  | _ => cases h
theorem readsEach {h : Heap} : ∀ {us : List Value} {ps : List PyData} {as : List Addr}, ReadsAll h us ps as → Paired (fun u p => ∃ as, Reads h u p as) us ps
  | _, _, _, .nil => .nil
  | _, _, _, .cons r t => .cons ⟨_, r⟩ (readsEach t)
open Classical in
noncomputable def eqR (h : Heap) (a : PyData) (u : Value) : Bool := if ∃ p as, PyData.canLay0 p = true ∧ Reads h u p as ∧ PyData.eqv p a = true then true else false
theorem eqR_of {h : Heap} {a p : PyData} {u : Value} {as : List Addr} (r : Reads h u p as) (hp : PyData.canLay0 p = true) : eqR h a u = PyData.eqv p a := by
  unfold eqR
  cases q : PyData.eqv p a with
  | true => rw [if_pos ⟨p, as, hp, r, q⟩]
  | false =>
    rw [if_neg]
    rintro ⟨p', as', hp', r', q'⟩
    rw [SeqAt.Reads.unique p p' u as as' hp r r'] at q
    rw [q] at q'
    cases q'
theorem any_eqR {h : Heap} {a : PyData} : ∀ {us : List Value} {ps : List PyData}, Paired (fun u p => ∃ as, Reads h u p as) us ps → ps.all SeqAt.shaped = true → us.any (eqR h a) = ps.any fun p => PyData.eqv p a
  | _, _, .nil, _ => rfl
  | _, _, .cons r t, hs => by
    rw [List.all_cons, Bool.and_eq_true] at hs
    obtain ⟨as, r⟩ := r
    rw [List.any_cons, List.any_cons, eqR_of r (SeqAt.canLay_of_shaped hs.1), any_eqR t hs.2]
theorem eqR_at {A : Around} {s : Shared} {a : PyData} {v : Value} {bs : List Addr} (hv : Reads s.heap v a bs) (ha : SeqAt.shaped a = true) (hd : PyData.depth a ≤ 60) (hu : A.units + 64 < cLine) : ∀ {us : List Value} {ps : List PyData}, Paired (fun u p => ∃ as, Reads s.heap u p as) us ps → ps.all SeqAt.shaped = true →
    ∀ u ∈ us, SeqAt.EqAt A.in1 s u v (eqR s.heap a u)
  | _, _, .nil, _ => fun u hm => by cases hm
  | _, _, .cons (a := u0) (b := p0) r t, hs => fun u hm => by
    rw [List.all_cons, Bool.and_eq_true] at hs
    rcases List.mem_cons.mp hm with e | hm
    · subst e
      obtain ⟨as, r⟩ := r
      rw [eqR_of r (SeqAt.canLay_of_shaped hs.1)]
      refine SeqAt.eqAt_reads _ _ _ s _ v as bs r hv (SeqAt.canLay_of_shaped hs.1) (SeqAt.canLay_of_shaped ha) ?_
      have := Nat.min_le_right p0.depth a.depth
      show A.units + 1 + min p0.depth a.depth < cLine
      omega
    · exact eqR_at hv ha hd hu t hs.2 u hm
theorem in_ok {pins : List (Addr × Obj)} {s : Shared} {σ : L2.St} {H : Hp} {x y : V} {v u : Value} {Q : VK} {g : Gh} {S : Store} {d e : D} {b : Bool} (hw : X.K = w.K) (hu : X.A.units + 64 < cLine) (I : Inv X pins σ H s) (rx : RelV x v) (ry : RelV y u)
    (k : Ok w g S H) (r1 : Rl w g d x) (r2 : Rl w g e y) (q : inP S d e = some b) :
    (Q (.bl b) H → wpAny (model X.prog X.w) X.A (compareOp .In v u) (EP X pins σ Q) X.xe s) ∧ (Q (.bl (!b)) H → wpAny (model X.prog X.w) X.A (compareOp .NotIn v u) (EP X pins σ Q) X.xe s) := by
  have deep2 : inD S d e = some b → (Q (.bl b) H → wpAny (model X.prog X.w) X.A (compareOp .In v u) (EP X pins σ Q) X.xe s) ∧ (Q (.bl (!b)) H → wpAny (model X.prog X.w) X.A (compareOp .NotIn v u) (EP X pins σ Q) X.xe s) := fun q => by
    unfold inD at q
    cases h1 : py d with
    | none => rw [h1] at q; cases q
    | some a =>
      cases h2 : seqOf S e with
      | none => rw [h1, h2] at q; cases q
      | some ds =>
        cases h3 : pys ds with
        | none => rw [h1, h2] at q; simp [h3] at q
        | some ps =>
          rw [h1, h2, Option.bind_some, h3] at q
          simp only at q
          split at q
          · rename_i hs
            cases q
            simp only [Bool.and_eq_true, decide_eq_true_eq] at hs
            obtain ⟨⟨s1, s2⟩, s3⟩ := hs
            have D1 := py_ok k r1 h1
            rw [← hw] at D1
            obtain ⟨bs, rd1⟩ := Dp.reads I a x v D1 rx
            obtain ⟨ad, vs, rfl, sq, q1⟩ := seqOf_ok k r2 h2
            have D2 := pys_ok k q1 h3
            rw [← hw] at sq D2
            cases ry
            rcases sq with sq | sq
            · obtain ⟨its, r, pl, hz⟩ := I.list sq
              obtain ⟨as, rd2⟩ := Dp.readsAll I ps vs its D2 r
              have each := readsEach rd2
              have ea := any_eqR (a := a) each s3
              refine ⟨fun z => SeqAt.in_listAt (eqR s.heap a) pl.isList (fun w hw => eqR_at rd1 s1 s2 hu each s3 w (by simpa using hw)) ⟨.bl _, H, I, rfl, ?_⟩, fun z => SeqAt.notIn_listAt (eqR s.heap a) pl.isList (fun w hw => eqR_at rd1 s1 s2 hu each s3 w (by simpa using hw)) ⟨.bl _, H, I, rfl, ?_⟩⟩
              · rw [show its.toArray.any (eqR s.heap a) = its.any (eqR s.heap a) by simp, ea]; exact z
              · rw [show its.toArray.any (eqR s.heap a) = its.any (eqR s.heap a) by simp, ea]; exact z
            · obtain ⟨its, r, pl, hz⟩ := I.tuple sq
              obtain ⟨as, rd2⟩ := Dp.readsAll I ps vs its D2 r
              have each := readsEach rd2
              have ea := any_eqR (a := a) each s3
              refine ⟨fun z => SeqAt.in_tupleAt (eqR s.heap a) pl (fun w hw => eqR_at rd1 s1 s2 hu each s3 w (by simpa using hw)) ⟨.bl _, H, I, rfl, ?_⟩, fun z => SeqAt.notIn_tupleAt (eqR s.heap a) pl (fun w hw => eqR_at rd1 s1 s2 hu each s3 w (by simpa using hw)) ⟨.bl _, H, I, rfl, ?_⟩⟩
              · rw [show its.toArray.any (eqR s.heap a) = its.any (eqR s.heap a) by simp, ea]; exact z
              · rw [show its.toArray.any (eqR s.heap a) = its.any (eqR s.heap a) by simp, ea]; exact z
          · cases q
  have deep1 : (match inM S d e with
      | some b => some b
      | none => inD S d e) = some b → (Q (.bl b) H → wpAny (model X.prog X.w) X.A (compareOp .In v u) (EP X pins σ Q) X.xe s) ∧ (Q (.bl (!b)) H → wpAny (model X.prog X.w) X.A (compareOp .NotIn v u) (EP X pins σ Q) X.xe s) := fun q => by
    cases hM : inM S d e with
    | none => rw [hM] at q; exact deep2 q
    | some b' =>
      rw [hM] at q
      cases q
      cases r2 with
      | @loc m hm =>
        have hM' : ((obDct (S.ob m)).bind fun kvs => (keyOf d).map fun k => (lookK kvs k).isSome) = some b := by cases d <;> exact hM
        cases q1 : S.ob m with
        | none => rw [q1] at hM'; cases hM'
        | some ob =>
          cases ob with
          | dct kvs =>
            rw [q1] at hM'
            cases q2 : keyOf d with
            | none => rw [q2] at hM'; cases hM'
            | some ky =>
              rw [q2] at hM'
              have eb : (lookK kvs ky).isSome = b := Option.some.inj hM'
              obtain ⟨ps, e1, e2⟩ := k.ob m _ q1
              have ex := key_ok r1 q2
              subst ex
              have er : (valV ps ky).isSome = b := by
                rw [← eb]
                cases q3 : lookK kvs ky with
                | none => rw [krl_none e2 q3]; rfl
                | some z => obtain ⟨v', z1, _⟩ := krl_some e2 q3; rw [z1]; rfl
              cases ry
              exact ⟨fun z => d_in (by omega) I (DGet.k e1) rx fun s' I' => ⟨.bl b, H, I', by rw [er]; rfl, z⟩, fun z => d_notIn (by omega) I (DGet.k e1) rx fun s' I' => ⟨.bl (!b), H, I', by rw [er]; rfl, z⟩⟩
          | _ => rw [q1] at hM'; cases hM'
      | _ => cases d <;> cases hM
  have deep : (match flat d, (seqOf S e).bind flats with
    | some x, some xs => some (inV x xs)
    | _, _ => match inM S d e with
      | some b => some b
      | none => inD S d e) = some b → (Q (.bl b) H → wpAny (model X.prog X.w) X.A (compareOp .In v u) (EP X pins σ Q) X.xe s) ∧ (Q (.bl (!b)) H → wpAny (model X.prog X.w) X.A (compareOp .NotIn v u) (EP X pins σ Q) X.xe s) := fun q => by
    cases h1 : flat d with
    | none => rw [h1] at q; exact deep1 q
    | some x' =>
      cases h2 : seqOf S e with
      | none => rw [h1, h2] at q; exact deep1 q
      | some ds =>
        cases h3 : flats ds with
        | none => rw [h1, h2, Option.bind_some, h3] at q; exact deep1 q
        | some us =>
          rw [h1, h2, Option.bind_some, h3] at q
          simp only [Option.some.injEq] at q
          subst q
          obtain rfl := flat_ok r1 h1
          obtain ⟨a, vs, rfl, s1, q1⟩ := seqOf_ok k r2 h2
          obtain rfl := flats_ok q1 h3
          rw [← hw] at s1
          exact ⟨fun z => op_in_seq pins s σ H _ _ v u Q I rx ry ⟨a, vs, rfl, s1, flat_flatV h1, flats_flatV h3, z⟩, fun z => op_notIn_seq pins s σ H _ _ v u Q I rx ry ⟨a, vs, rfl, s1, flat_flatV h1, flats_flatV h3, z⟩⟩
  cases r1 with
  | str a =>
    cases r2 with
    | str c => cases q; exact ⟨fun z => op_in_str pins s σ H _ _ v u Q I rx ry ⟨a, c, rfl, rfl, z⟩, fun z => op_notin_str pins s σ H _ _ v u Q I rx ry ⟨a, c, rfl, rfl, z⟩⟩
    | _ => exact deep q
  | _ => exact deep q
theorem bV_some {b : Option Bool} {r : PR} (h : bV b = some r) : ∃ c, b = some c ∧ r = .val (.bl c) := by
  cases b with
  | none => cases h
  | some c => cases h; exact ⟨c, rfl, rfl⟩
theorem map_not {b : Option Bool} {c : Bool} (h : b.map (!·) = some c) : ∃ a, b = some a ∧ c = !a := by
  cases b with
  | none => cases h
  | some a => cases h; exact ⟨a, rfl, rfl⟩
theorem cmp_ok (hw : X.K = w.K) (hu : X.A.units + 64 < cLine) (op : CmpOp) : OpR X (compareOp op) (r2 w m fun S d e => bV (cmpP S op d e)) := by
  intro pins s σ H x y v u Q I rx ry h
  obtain ⟨g, S, d, e, r, k, r1, r2, q0, p⟩ := r2_mono h
  obtain ⟨b, q, er⟩ := bV_some q0
  rw [er] at p
  clear q0 er
  have z : Q (.bl b) H := fin_val p k (.bl b)
  cases op with
  | Eq => exact (eq_ok hw hu I rx ry k r1 r2 q).1 z
  | NotEq =>
    obtain ⟨c, q', e'⟩ := map_not q
    rw [e'] at z
    exact (eq_ok hw hu I rx ry k r1 r2 q').2 z
  | In => exact (in_ok hw hu I rx ry k r1 r2 q).1 z
  | NotIn =>
    obtain ⟨c, q', e'⟩ := map_not q
    rw [e'] at z
    exact (in_ok hw hu I rx ry k r1 r2 q').2 z
  | Lt =>
    cases r1 with
    | int i =>
      cases r2 with
      | int j => cases q; exact op_lt pins s σ H _ _ v u Q I rx ry ⟨i, j, rfl, rfl, z⟩
      | _ => cases q
    | _ => cases q
  | LtE =>
    cases r1 with
    | int i =>
      cases r2 with
      | int j => cases q; exact op_le pins s σ H _ _ v u Q I rx ry ⟨i, j, rfl, rfl, z⟩
      | _ => cases q
    | _ => cases q
  | Gt =>
    cases r1 with
    | int i =>
      cases r2 with
      | int j => cases q; exact op_gt pins s σ H _ _ v u Q I rx ry ⟨i, j, rfl, rfl, z⟩
      | _ => cases q
    | _ => cases q
  | GtE =>
    cases r1 with
    | int i =>
      cases r2 with
      | int j => cases q; exact op_ge pins s σ H _ _ v u Q I rx ry ⟨i, j, rfl, rfl, z⟩
      | _ => cases q
    | _ => cases q
  | Is =>
    cases r2 with
    | non =>
      have q' : some (isNon d) = some b := by cases d <;> exact q
      cases q'
      exact op_isN pins s σ H _ _ v u Q I rx ry ⟨rfl, by rw [isNon_ok r1]; exact z⟩
    | _ => cases d <;> cases q
  | IsNot =>
    cases r2 with
    | non =>
      have q' : some (!isNon d) = some b := by cases d <;> exact q
      cases q'
      exact op_notN pins s σ H _ _ v u Q I rx ry ⟨rfl, by rw [isNon_ok r1]; exact z⟩
    | _ => cases d <;> cases q
end

/-! ### places, slices -/
def oneStr (c : Nat) : Str := ⟨#[c]⟩
def ixP (S : Store) (d e : D) : Option D :=
  match d, e with
  | .str s, .int i => if s.length ≤ nMax then (atI s.cps.toList i).map fun c => .str (oneStr c) else none
  | d, .int i => (seqOf S d).bind fun xs => atI xs i
  | _, _ => none
theorem atI_rl {w : Wd} {g : Gh} {ds : List D} {vs : List V} {i : Int} {d : D} (r : Rls w g ds vs) (e : atI ds i = some d) : ∃ v, atI vs i = some v ∧ Rl w g d v := by
  unfold atI at e ⊢
  rw [← r.length]
  cases q : ixN ds.length i with
  | none => rw [q] at e; cases e
  | some j =>
    rw [q] at e
    exact r.get e
section
variable {X : Cx} {w : Wd} {m : Bool}
theorem ix_ok (hw : X.K = w.K) : IxR X (r2 w m fun S d e => (ixP S d e).map PR.val) := by
  intro value slice pins s σ H x y v u Q I rx ry h hs
  obtain ⟨g, S, d, e, r, k, r1, r2, q0, p⟩ := r2_mono h
  have q' : ∃ z, ixP S d e = some z ∧ r = .val z := by
    cases c : ixP S d e with
    | none => rw [c] at q0; cases q0
    | some z => rw [c] at q0; cases q0; exact ⟨z, rfl, rfl⟩
  obtain ⟨z, q, er⟩ := q'
  rw [er] at p
  clear q0 er
  have seq : ∀ {i : Int}, y = .int i → ((seqOf S d).bind fun xs => atI xs i) = some z → wpAny (model X.prog X.w) X.A (subscriptTail value slice v u) (EP X pins σ Q) X.xe s := fun {i} ei q => by
    subst ei
    cases h2 : seqOf S d with
    | none => rw [h2] at q; cases q
    | some ds =>
      rw [h2] at q
      obtain ⟨a, vs, rfl, s1, q1⟩ := seqOf_ok k r1 h2
      obtain ⟨z', e1, rz⟩ := atI_rl q1 q
      rw [← hw] at s1
      refine ix_seq value slice pins s σ H _ _ v u Q I rx ry ?_ hs
      rcases s1 with s1 | s1
      · exact .inl ⟨a, vs, i, z', rfl, rfl, s1, e1, fin_val p k rz⟩
      · exact .inr (.inl ⟨a, vs, i, z', rfl, rfl, s1, e1, fin_val p k rz⟩)
  cases r2 with
  | int i =>
    cases r1 with
    | str a =>
      have q1 : (if a.length ≤ nMax then (atI a.cps.toList i).map fun c => D.str (oneStr c) else none) = some z := q
      split at q1
      · rename_i hl
        cases h2 : atI a.cps.toList i with
        | none => rw [h2] at q1; cases q1
        | some c =>
          rw [h2] at q1
          cases q1
          exact ix_seq value slice pins s σ H _ _ v u Q I rx ry (.inr (.inr ⟨a, i, c, rfl, rfl, nMax_le hl, h2, fin_val p k (.str _)⟩)) hs
      · cases q1
    | _ => exact seq rfl q
  | _ => cases d <;> cases q
end
/-- d[lo:hi] -/
def cutD (xs : List D) (lo hi : Option Int) : List D := (xs.drop (HT.sIx xs.length 0 lo)).take (HT.sIx xs.length xs.length hi - HT.sIx xs.length 0 lo)
def slP (S : Store) (d : D) (lo hi : Option Int) : Option PR :=
  match d with
  | .str s => if s.length ≤ nMax then some (.val (.str (cutS s lo hi))) else none
  | .tup xs => some (.newt (cutD xs lo hi))
  | d => (lstOf S d).map fun xs => .newl (cutD xs lo hi)
theorem cut_rl {w : Wd} {g : Gh} {ds : List D} {vs : List V} {lo hi : Option Int} (r : Rls w g ds vs) : Rls w g (cutD ds lo hi) (cutV vs lo hi) := by
  unfold cutD cutV
  rw [r.length]
  exact (r.drop _).take _
def rSl (w : Wd) (m : Bool) : V → Option Int → Option Int → Hp → VK → Prop := fun x lo hi H Q => ∃ g S d, Ok w g S H ∧ Rl w g d x ∧ Pst w g (fun _ _ => False) Q (finO m (slP S d lo hi) S)
section
variable {X : Cx} {w : Wd} {m : Bool}
theorem sl_ok (hw : X.K = w.K) : SlR X (rSl w m) := by
  intro pins s σ H x v vl vu lo hi sl Q I rx hs pl pu h
  obtain ⟨g, S, d, k, r1, p⟩ := h
  have lists : ∀ {o : Option (List D)}, lstOf S d = o → Pst w g (fun _ _ => False) Q (finO m (o.map fun xs => PR.newl (cutD xs lo hi)) S) → ∃ T id, typeLookup (.type T) "__getitem__" = pure (some (.builtin id)) ∧ s.TypeIs v T ∧ wpAny (model X.prog X.w) X.A (getItem v (.ref sl)) (EP X pins σ Q) X.xe s := fun {o} e p => by
    cases o with
    | none => exact p.elim
    | some ds =>
      obtain ⟨a, vs, rfl, s1, q1⟩ := lstOf_ok k r1 e
      rw [← hw] at s1
      exact sl_list pins s σ H _ v vl vu lo hi sl Q I rx hs pl pu ⟨a, vs, rfl, s1, fin_newl p k (cut_rl q1)⟩
  cases r1 with
  | str a =>
    have p' : Pst w g (fun _ _ => False) Q (finO m (if a.length ≤ nMax then some (PR.val (.str (cutS a lo hi))) else none) S) := p
    split at p'
    · rename_i hl
      exact sl_str pins s σ H _ v vl vu lo hi sl Q I rx hs pl pu ⟨a, rfl, nMax_le hl, fin_val (m := m) p' k (.str _)⟩
    · exact p'.elim
  | @tup a vs ds s1 q1 =>
    have p' : Pst w g (fun _ _ => False) Q (fin m (.newt (cutD ds lo hi)) S) := p
    refine sl_tupA pins s σ H _ v vl vu lo hi sl Q I rx hs pl pu ⟨a, vs, rfl, by rw [hw]; exact k.sqT s1, fun c => ?_, fun _ => fin_newt p' k (cut_rl q1)⟩
    refine newt_all (d := .non) p' k ?_
    have e : cutD ds lo hi = ds := by
      unfold cutD
      rw [← q1.length] at c
      rw [c.1, c.2, List.drop_zero, Nat.sub_zero, List.take_length]
    rw [e]
    exact .tup s1 q1
  | _ => exact lists rfl p
end

/-! ### truth -/
def truP (S : Store) : D → Option Bool
  | .non => some false
  | .bl b => some b
  | .int i => some (i != 0)
  | .str s => if s.length ≤ nMax then some ((s.length : Int) != 0) else none
  | .loc n => match S.ob n with
    | some (.lst xs) => some (!xs.isEmpty)
    | some (.dct kvs) => some (!kvs.isEmpty)
    | _ => none
  | d => (seqOf S d).map fun xs => !xs.isEmpty
theorem rls_empty {w : Wd} {g : Gh} {ds : List D} {vs : List V} (r : Rls w g ds vs) : ds.isEmpty = vs.isEmpty := by cases r <;> rfl
theorem krl_empty {w : Wd} {g : Gh} {ds : List (Key × D)} {vs : List (Key × V)} (r : KRl w g ds vs) : ds.isEmpty = vs.isEmpty := by cases r <;> rfl
theorem tru_rl {w : Wd} {g : Gh} {S : Store} {H : Hp} {d : D} {v : V} {b : Bool} (k : Ok w g S H) (r : Rl w g d v) (e : truP S d = some b) : TruV w.K v H b := by
  cases r with
  | non => cases e; rfl
  | bl c => cases e; rfl
  | int i => cases e; rfl
  | str a =>
    have q1 : (if a.length ≤ nMax then some ((a.length : Int) != 0) else none) = some b := e
    split at q1
    · rename_i hl; cases q1; exact ⟨nMax_le hl, rfl⟩
    · cases q1
  | tup s q => cases e; exact .inr (.inl ⟨_, k.sqT s, by show (!List.isEmpty _) = _; rw [rls_empty q]⟩)
  | lst s q => cases e; exact .inl ⟨_, .inl (.inl (k.sub _ _ s)), by show (!List.isEmpty _) = _; rw [rls_empty q]⟩
  | cst s q => cases e; exact .inl ⟨_, k.sqL s, by show (!List.isEmpty _) = _; rw [rls_empty q]⟩
  | @loc n hn =>
    have e' : (match S.ob n with
      | some (.lst xs) => some (!xs.isEmpty)
      | some (.dct kvs) => some (!kvs.isEmpty)
      | _ => none) = some b := e
    cases q : S.ob n with
    | none => rw [q] at e'; cases e'
    | some o =>
      rw [q] at e'
      have z := k.ob n o q
      cases o with
      | lst xs => cases e'; obtain ⟨vs, h1, h2⟩ := z; exact .inl ⟨vs, .inl (.inl h1), by rw [rls_empty h2]⟩
      | dct xs => cases e'; obtain ⟨vs, h1, h2⟩ := z; exact .inr (.inr ⟨vs, h1, by rw [krl_empty h2]⟩)
      | ins _ _ => cases e'
  | exn _ _ => cases e
end ML

/-! Built-in functions and methods. -/
namespace ML
open PySem PySem.Spec PyProof.Rows L2

/-! ### built-in functions -/
inductive Bf where
  | len | all | any | list | tuple | str | abs | max | min
  deriving DecidableEq
def bools : List D → Option (List Bool)
  | [] => some []
  | .bl b :: xs => (bools xs).map (b :: ·)
  | _ => none
def lenP (S : Store) : D → Option Nat
  | .str s => if s.length ≤ nMax then some s.length else none
  | d => (seqOf S d).map (·.length)
def bfP (S : Store) : Bf → List D → Option PR
  | .len, [d] => (lenP S d).map fun (n : Nat) => .val (.int (n : Int))
  | .all, [d] => ((lstOf S d).bind bools).map fun bs => .val (.bl (bs.all id))
  | .any, [d] => ((lstOf S d).bind bools).map fun bs => .val (.bl (bs.any id))
  | .list, [d] => (seqOf S d).map .newl
  | .tuple, [d] => (lstOf S d).map .newt
  | .str, [.int i] => if i.natAbs < 2 ^ 1000 then some (.val (.str (toString i))) else none
  | .str, [.str s] => some (.val (.str s))
  | .abs, [.int i] => some (.val (.int (if i < 0 then -i else i)))
  | .max, [.int i, .int j] => some (.val (.int (if j > i then j else i)))
  | .min, [.int i, .int j] => some (.val (.int (if j < i then j else i)))
  | _, _ => none
/-- the value that a built-in's name holds -/
def Bf.val : Bf → Value
  | .len => .builtin "len"
  | .all => .builtin "all"
  | .any => .builtin "any"
  | .abs => .builtin "abs"
  | .max => .builtin "max"
  | .min => .builtin "min"
  | .list => .type "list"
  | .tuple => .type "tuple"
  | .str => .type "str"
def Bf.name : Bf → Str
  | .len => "len" | .all => "all" | .any => "any" | .abs => "abs" | .max => "max" | .min => "min" | .list => "list" | .tuple => "tuple" | .str => "str"
theorem Bf.boot (b : Bf) : bootBuiltins b.name = some b.val := by cases b <;> decide +kernel
def rC (w : Wd) (m : Bool) (f : Store → List D → Option PR) : List V → Hp → VK → Prop := fun vs H Q => ∃ g S ds, Ok w g S H ∧ Rls w g ds vs ∧ Pst w g (fun _ _ => False) Q (finO m (f S ds) S)
theorem rC_some {w : Wd} {m : Bool} {f : Store → List D → Option PR} {vs : List V} {H : Hp} {Q : VK} (h : rC w m f vs H Q) :
    ∃ g S ds r, Ok w g S H ∧ Rls w g ds vs ∧ f S ds = some r ∧ Pst w g (fun _ _ => False) Q (fin m r S) := by
  obtain ⟨g, S, d, k, r1, p⟩ := h
  cases q : f S d with
  | none => rw [q] at p; exact p.elim
  | some r => rw [q] at p; exact ⟨g, S, d, r, k, r1, q, p⟩
theorem map_some {α β : Type} {f : α → β} {o : Option α} {b : β} (h : o.map f = some b) : ∃ a, o = some a ∧ b = f a := by
  cases o with
  | none => cases h
  | some a => cases h; exact ⟨a, rfl, rfl⟩
theorem bind_some {α β : Type} {f : α → Option β} {o : Option α} {b : β} (h : o.bind f = some b) : ∃ a, o = some a ∧ f a = some b := by
  cases o with
  | none => cases h
  | some a => exact ⟨a, rfl, h⟩
theorem bools_ok {w : Wd} {g : Gh} : ∀ {ds : List D} {vs : List V} {bs : List Bool}, Rls w g ds vs → bools ds = some bs → vs = bs.map V.bl
  | _, _, _, .nil, e => by cases e; rfl
  | _, _, _, .cons (d := d) (ds := ds) r t, e => by
    cases r with
    | bl b =>
      obtain ⟨cs, h, e'⟩ := map_some (show (bools ds).map (b :: ·) = some _ from e)
      rw [e', bools_ok t h]; rfl
    | _ => cases e
theorem len_ok {w : Wd} {g : Gh} {S : Store} {H : Hp} {d : D} {v : V} {n : Nat} (k : Ok w g S H) (r : Rl w g d v) (e : lenP S d = some n) : LenV w.K v H n := by
  have seq : (seqOf S d).map (·.length) = some n → LenV w.K v H n := fun e => by
    obtain ⟨ds, h, e'⟩ := map_some e
    obtain ⟨a, vs, e1, s1, q1⟩ := seqOf_ok k r h
    rw [e1]
    rcases s1 with s1 | s1
    · exact .inl ⟨vs, s1, by rw [e', q1.length]⟩
    · exact .inr ⟨vs, s1, by rw [e', q1.length]⟩
  cases r with
  | str a =>
    have q1 : (if a.length ≤ nMax then some a.length else none) = some n := e
    split at q1
    · rename_i hl; cases q1; exact ⟨nMax_le hl, rfl⟩
    · cases q1
  | _ => exact seq e
theorem log2_ok {i : Int} (h : i.natAbs < 2 ^ 1000) : i.natAbs.log2 < 1920 := by
  by_cases c : i.natAbs = 0
  · rw [c]; decide
  · have := (Nat.log2_lt c).mpr h
    omega
section
variable {X : Cx} {w : Wd} {m : Bool}
theorem bf_ok (hw : X.K = w.K) (hc : X.calm = true) (b : Bf) : CallR X b.val (rC w m fun S => bfP S b) := by
  intro pins s σ H xs us Q I rx h
  obtain ⟨g, S, ds, r, k, rs, q, p⟩ := rC_some h
  cases b with
  | len =>
    cases rs with
    | nil => cases q
    | cons r1 t =>
      cases t with
      | cons _ _ => cases q
      | nil =>
        obtain ⟨n, q0, rfl⟩ := map_some q
        exact call_len pins s σ H _ us Q I rx ⟨_, n, rfl, by rw [hw]; exact len_ok k r1 q0, fin_val p k (.int _)⟩
  | all =>
    cases rs with
    | nil => cases q
    | cons r1 t =>
      cases t with
      | cons _ _ => cases q
      | nil =>
        obtain ⟨bs, q0, rfl⟩ := map_some q
        obtain ⟨es, q1, q2⟩ := bind_some q0
        obtain ⟨a, vs, rfl, s1, t1⟩ := lstOf_ok k r1 q1
        rw [bools_ok t1 q2, ← hw] at s1
        exact cr_all hc pins s σ H _ us Q I rx ⟨a, bs, rfl, s1, fin_val p k (.bl _)⟩
  | any =>
    cases rs with
    | nil => cases q
    | cons r1 t =>
      cases t with
      | cons _ _ => cases q
      | nil =>
        obtain ⟨bs, q0, rfl⟩ := map_some q
        obtain ⟨es, q1, q2⟩ := bind_some q0
        obtain ⟨a, vs, rfl, s1, t1⟩ := lstOf_ok k r1 q1
        rw [bools_ok t1 q2, ← hw] at s1
        exact cr_any hc pins s σ H _ us Q I rx ⟨a, bs, rfl, s1, fin_val p k (.bl _)⟩
  | list =>
    cases rs with
    | nil => cases q
    | cons r1 t =>
      cases t with
      | cons _ _ => cases q
      | nil =>
        obtain ⟨es, q1, rfl⟩ := map_some q
        obtain ⟨a, vs, rfl, s1, t1⟩ := seqOf_ok k r1 q1
        rw [← hw] at s1
        exact call_list_of pins s σ H _ us Q I rx ⟨a, vs, rfl, s1, fin_newl p k t1⟩
  | tuple =>
    cases rs with
    | nil => cases q
    | cons r1 t =>
      cases t with
      | cons _ _ => cases q
      | nil =>
        obtain ⟨es, q1, rfl⟩ := map_some q
        obtain ⟨a, vs, rfl, s1, t1⟩ := lstOf_ok k r1 q1
        rw [← hw] at s1
        exact call_tuple_of pins s σ H _ us Q I rx ⟨a, vs, rfl, .inl ⟨s1, fin_newt p k t1⟩⟩
  | str =>
    cases rs with
    | nil => cases q
    | cons r1 t =>
      cases t with
      | cons _ _ => cases r1 <;> cases q
      | nil =>
        cases r1 with
        | int i =>
          have q1 : (if i.natAbs < 2 ^ 1000 then some (PR.val (.str (toString i))) else none) = some r := q
          split at q1
          · rename_i hl
            cases q1
            exact call_str_int pins s σ H _ us Q I rx ⟨i, rfl, log2_ok hl, fin_val p k (.str _)⟩
          · cases q1
        | str a => cases q; exact SkE.call_str_str pins s σ H _ us Q I rx ⟨a, rfl, fin_val p k (.str _)⟩
        | _ => cases q
  | abs =>
    cases rs with
    | nil => cases q
    | cons r1 t =>
      cases t with
      | cons _ _ => cases r1 <;> cases q
      | nil =>
        cases r1 with
        | int i => cases q; exact call_abs pins s σ H _ us Q I rx ⟨i, rfl, fin_val p k (.int _)⟩
        | _ => cases q
  | max =>
    cases rs with
    | nil => cases q
    | cons r1 t =>
      cases t with
      | nil => cases r1 <;> cases q
      | cons r2 t =>
        cases t with
        | cons _ _ => cases r1 <;> cases r2 <;> cases q
        | nil =>
          cases r1 with
          | int i =>
            cases r2 with
            | int j => cases q; exact call_max2 hc pins s σ H _ us Q I rx ⟨i, j, rfl, fin_val p k (.int _)⟩
            | _ => cases q
          | _ => cases r2 <;> cases q
  | min =>
    cases rs with
    | nil => cases q
    | cons r1 t =>
      cases t with
      | nil => cases r1 <;> cases q
      | cons r2 t =>
        cases t with
        | cons _ _ => cases r1 <;> cases r2 <;> cases q
        | nil =>
          cases r1 with
          | int i =>
            cases r2 with
            | int j => cases q; exact call_min2 hc pins s σ H _ us Q I rx ⟨i, j, rfl, fin_val p k (.int _)⟩
            | _ => cases q
          | _ => cases r2 <;> cases q
end

/-! ### isinstance of a built-in class -/
def typD (S : Store) : D → Option String
  | .non => some "NoneType"
  | .bl _ => some "bool"
  | .int _ => some "int"
  | .str _ => some "str"
  | .tup _ => none
  | .lst _ => some "list"
  | .cst _ => none
  | .loc n => match S.ob n with
    | some (.lst _) => some "list"
    | some (.dct _) => some "dict"
    | _ => none
  | .exn _ => none
theorem typD_ok {w : Wd} {g : Gh} {S : Store} {H : Hp} {d : D} {v : V} {t : String} (k : Ok w g S H) (r : Rl w g d v) (e : typD S d = some t) : TyX w.K H v (.type t) := by
  cases r with
  | non => cases e; exact .base .non
  | bl b => cases e; exact .base (.bl b)
  | int i => cases e; exact .base (.int i)
  | str s => cases e; exact .base (.str s)
  | lst s q => cases e; exact .base (.lst (k.sub _ _ s))
  | @loc n hn =>
    have e' : (match S.ob n with
      | some (.lst _) => some "list"
      | some (.dct _) => some "dict"
      | _ => none) = some t := e
    cases q : S.ob n with
    | none => rw [q] at e'; cases e'
    | some o =>
      rw [q] at e'
      have z := k.ob n o q
      cases o with
      | lst xs => cases e'; obtain ⟨vs, h1, h2⟩ := z; exact .base (.lst h1)
      | dct xs => cases e'; obtain ⟨vs, h1, h2⟩ := z; exact .base (.dK h1)
      | ins _ _ => cases e'
  | _ => cases e
/-- isinstance, of built-in classes -/
def instB (t c : String) : Option Bool := kitB t c

/-! ### methods of built-in classes -/
inductive Mf where
  | append | extend | join | split | partition | endswith | startswith | index | count
  deriving DecidableEq
def Mf.ty : Mf → String
  | .append => "list" | .extend => "list" | .index => "list" | .count => "list"
  | .join => "str" | .split => "str" | .partition => "str" | .endswith => "str" | .startswith => "str"
def Mf.name : Mf → Str
  | .append => "append" | .extend => "extend" | .join => "join" | .split => "split" | .partition => "partition" | .endswith => "endswith" | .startswith => "startswith" | .index => "index" | .count => "count"
def Mf.id : Mf → String
  | .append => "list.append" | .extend => "list.extend" | .join => "str.join" | .split => "str.split" | .partition => "str.partition" | .endswith => "str.endswith" | .startswith => "str.startswith" | .index => "list.index" | .count => "list.count"
theorem Mf.plain (f : Mf) : PlainAttrs f.ty := by
  cases f
  all_goals first | exact PySem.F.plainAttrs_list | exact PySem.F.plainAttrs_str
theorem Mf.slot (f : Mf) : Slot f.ty f.name f.id := by
  cases f
  · exact PySem.F.slot_list_append
  · exact PySem.F.slot_list_extend
  · exact PySem.F.slot_str_join
  · exact PySem.F.slot_str_split
  · exact PySem.F.slot_str_partition
  · exact PySem.F.slot_str_endswith
  · exact PySem.F.slot_str_startswith
  · exact PySem.F.slot_list_index
  · exact PySem.F.slot_list_count
theorem Mf.type (f : Mf) : typeOf (.builtin f.id) = pure (.type "method_descriptor") := by
  cases f
  · exact PySem.F.type_list_append
  · exact PySem.F.type_list_extend
  · exact PySem.F.type_str_join
  · exact PySem.F.type_str_split
  · exact PySem.F.type_str_partition
  · exact PySem.F.type_str_endswith
  · exact PySem.F.type_str_startswith
  · exact PySem.F.type_list_index
  · exact PySem.F.type_list_count
def isTy (S : Store) (t : String) : D → Bool
  | .str _ => t == "str"
  | d => t == "list" && (lstOf S d).isSome
def txts : List D → Option (List Str)
  | [] => some []
  | .str s :: xs => (txts xs).map (s :: ·)
  | _ => none
theorem txts_ok {w : Wd} {g : Gh} : ∀ {ds : List D} {vs : List V} {bs : List Str}, Rls w g ds vs → txts ds = some bs → vs = bs.map V.str
  | _, _, _, .nil, e => by cases e; rfl
  | _, _, _, .cons (d := d) (ds := ds) r t, e => by
    cases r with
    | str b =>
      obtain ⟨cs, h, e'⟩ := map_some (show (txts ds).map (b :: ·) = some _ from e)
      rw [e', txts_ok t h]; rfl
    | _ => cases e
def cntV (x : V) (ys : List V) : Nat := ys.countP fun y => eqV y x
def ixOf (x : V) : List V → Option Nat
  | [] => none
  | y :: ys => if eqV y x = true then some 0 else (ixOf x ys).map (· + 1)
theorem ixOf_ok {x : V} : ∀ {ys : List V} {j : Nat}, ixOf x ys = some j → ∃ z, ys[j]? = some z ∧ eqV z x = true ∧ ∀ (m : Nat) (z' : V), m < j → ys[m]? = some z' → eqV z' x = false
  | [], _, h => by cases h
  | y :: ys, j, h => by
    unfold ixOf at h
    split at h
    · rename_i c
      cases h
      exact ⟨y, rfl, c, fun m z' q => absurd q (Nat.not_lt_zero _)⟩
    · rename_i c
      obtain ⟨i, h1, rfl⟩ := map_some h
      obtain ⟨z, a1, a2, a3⟩ := ixOf_ok h1
      refine ⟨z, by simpa using a1, a2, fun m z' q e => ?_⟩
      cases m with
      | zero =>
        have e' : y = z' := by simpa using e
        rw [← e']; exact Bool.eq_false_iff.mpr c
      | succ m => exact a3 m z' (by omega) (by simpa using e)
def appM (d x : D) : M D := fun S => match d with
  | .loc n => match S.ob n with
    | some (.lst xs) => if xs.length < nMax then .ok .non (S.set n (.lst (xs ++ [x]))) else .bad
    | _ => .bad
  | _ => .bad
def extM (d e : D) : M D := fun S => match d with
  | .loc n => match S.ob n with
    | some (.lst xs) => match lstT S e with
      | some ys => if xs.length + ys.length ≤ nMax then .ok .non (S.set n (.lst (xs ++ ys))) else .bad
      | none => .bad
    | _ => .bad
  | _ => .bad
def mfP (S : Store) : Mf → D → List D → Option PR
  | .join, .str a, [d] => ((seqOf S d).bind txts).bind fun ys => if (ys.map (·.length)).sum + ys.length * a.length ≤ nMax then some (.val (.str (Txt.join a ys))) else none
  | .split, .str a, [.str b] => if (b.length == 0) = false ∧ a.length + 2 ≤ nMax then some (.newl ((Txt.split a b).map .str)) else none
  | .partition, .str a, [.str b] => if (b.length == 0) = false ∧ a.length ≤ nMax then some (.newt [.str (Txt.partition a b).1, .str (Txt.partition a b).2.1, .str (Txt.partition a b).2.2]) else none
  | .endswith, .str a, [.str b] => some (.val (.bl (Txt.endswith a b)))
  | .startswith, .str a, [.str b] => some (.val (.bl (Txt.startswith a b)))
  | .index, d, [x] => (flat x).bind fun v => ((lstOf S d).bind flats).bind fun ys => (ixOf v ys).map fun (j : Nat) => .val (.int (j : Int))
  | .count, d, [x] => (flat x).bind fun v => ((lstOf S d).bind flats).bind fun ys => some (.val (.int (cntV v ys : Nat)))
  | _, _, _ => none
def mfM (m : Bool) (f : Mf) (d : D) (ds : List D) : M D := match f with
  | .append => match ds with
    | [x] => appM d x
    | _ => M.bad
  | .extend => match ds with
    | [x] => extM d x
    | _ => M.bad
  | f => fun S => finO m (mfP S f d ds) S
def rM (w : Wd) (f : D → List D → M D) : V → List V → Hp → VK → Prop := fun x xs H Q => ∃ g S d ds, Ok w g S H ∧ Rl w g d x ∧ Rls w g ds xs ∧ Pst w g (fun _ _ => False) Q (f d ds S)
theorem isTy_ok {w : Wd} {g : Gh} {S : Store} {H : Hp} {d : D} {v : V} {t : String} (k : Ok w g S H) (r : Rl w g d v) (e : isTy S t d = true) : tyV w.K t v H := by
  have gen : (t == "list" && (lstOf S d).isSome) = true → tyV w.K t v H := fun e => by
    rw [Bool.and_eq_true] at e
    obtain ⟨ds, h⟩ := Option.isSome_iff_exists.mp e.2
    obtain ⟨a, vs, e1, s1, q1⟩ := lstOf_ok k r h
    rw [e1]
    exact .inl ⟨eq_of_beq e.1, vs, s1⟩
  cases r with
  | str s => exact eq_of_beq e
  | _ => exact gen e
theorem rls_txts {w : Wd} {g : Gh} : ∀ ys : List Str, Rls w g (ys.map D.str) (ys.map V.str)
  | [] => .nil
  | y :: ys => .cons (.str y) (rls_txts ys)
def rCount (K : PySem.W.Frag) : V → List V → Hp → VK → Prop := fun x xs H Q => ∃ (a : Addr) (ys : List V) (y : V), x = V.ref a ∧ xs = [y] ∧ SqL K H a ys ∧ flatV y = true ∧ ys.all flatV = true ∧ Q (.int (cntV y ys : Nat)) H
theorem cnt_eq {y : V} : ∀ {ys : List V} {its : List Value}, Vals ys its → ys.all flatV = true → its.countP (eqU y) = cntV y ys
  | _, _, .nil, _ => rfl
  | z :: ys, u :: its, .cons r t, h => by
    rw [List.all_cons, Bool.and_eq_true] at h
    have i := cnt_eq (y := y) t h.2
    unfold cntV at i ⊢
    rw [List.countP_cons, List.countP_cons, i, eqU_of r h.1]
theorem mt_count {X : Cx} : MtR X "list.count" (rCount X.K) := by
  intro pins s σ H x xs v us Q I rx rxs h
  obtain ⟨a, ys, y, rfl, rfl, hs, fy, fys, q⟩ := h
  cases rx
  obtain ⟨uy, rfl, ry⟩ := rxs.one
  obtain ⟨its, rv, ⟨⟨cls, dd, data, sl⟩, n, ho, hc, hdn, hd⟩, hlen⟩ := I.list hs
  simp only at hc hd
  subst hc hd
  refine call_meets PySem.F.slot_list_count ⟨_, ho, rfl⟩ PySem.F.entry_list_count (PySem.F.args_list_count_2 _ _) (SeqAt.list_countAt a its.toArray n dd sl uy (eqU y)) ⟨ho, fun u' hu' => mem_eqAt ry fy rv fys u' (by simpa using hu'), ?_⟩
  refine ⟨.int (cntV y ys : Nat), H, I.tok _, ⟨s.toks, ?_⟩, q⟩
  show Value.int ((its.toArray.toList.countP (eqU y) : Nat) : Int) s.toks = Value.int ((cntV y ys : Nat) : Int) s.toks
  rw [show its.toArray.toList = its from rfl, cnt_eq rv fys]
section
variable {X : Cx} {w : Wd} {m : Bool}
theorem mf_ok (hw : X.K = w.K) (f : Mf) : MtR X f.id (rM w (mfM m f)) := by
  intro pins s σ H x xs v us Q I rx rs h
  obtain ⟨g, S, d, ds, k, r1, rd, p⟩ := h
  have some_of : ∀ {o : Option PR}, Pst w g (fun _ _ => False) Q (finO m o S) → ∃ r, o = some r ∧ Pst w g (fun _ _ => False) Q (fin m r S) := fun {o} p => by
    cases o with
    | none => exact p.elim
    | some r => exact ⟨r, rfl, p⟩
  cases f with
  | append =>
    cases rd with
    | nil => exact p.elim
    | cons r2 t =>
      cases t with
      | cons _ _ => exact p.elim
      | @nil =>
        rename_i y vy
        have p' : Pst w g (fun _ _ => False) Q (appM d y S) := p
        cases r1 with
        | @loc n hn =>
          have p2 : Pst w g (fun _ _ => False) Q (match S.ob n with
            | some (.lst xs) => if xs.length < nMax then .ok .non (S.set n (.lst (xs ++ [y]))) else .bad
            | _ => .bad) := p'
          cases q : S.ob n with
          | none => rw [q] at p2; exact p2.elim
          | some o =>
            rw [q] at p2
            cases o with
            | dct _ => exact p2.elim
            | ins _ _ => exact p2.elim
            | lst zs =>
              simp only at p2
              split at p2
              · rename_i hl
                obtain ⟨vs, h1, h2⟩ := k.ob n _ q
                refine mt_append pins s σ H _ _ v us Q I rx rs ⟨_, vs, vy, rfl, rfl, h1, by rw [← h2.length]; exact nMax_lt hl, ?_⟩
                exact p2 g _ (Gh.Le.refl g) (k.setS q ⟨_, rfl, h2.append (.cons r2 .nil)⟩) _ .non
              · exact p2.elim
        | _ => exact p'.elim
  | extend =>
    cases rd with
    | nil => exact p.elim
    | cons r2 t =>
      cases t with
      | cons _ _ => exact p.elim
      | @nil =>
        rename_i y vy
        have p' : Pst w g (fun _ _ => False) Q (extM d y S) := p
        cases r1 with
        | @loc n hn =>
          have p2 : Pst w g (fun _ _ => False) Q (match S.ob n with
            | some (.lst xs) => match lstT S y with
              | some ys => if xs.length + ys.length ≤ nMax then .ok .non (S.set n (.lst (xs ++ ys))) else .bad
              | none => .bad
            | _ => .bad) := p'
          cases q : S.ob n with
          | none => rw [q] at p2; exact p2.elim
          | some o =>
            rw [q] at p2
            cases o with
            | dct _ => exact p2.elim
            | ins _ _ => exact p2.elim
            | lst zs =>
              simp only at p2
              cases q2 : lstT S y with
              | none => rw [q2] at p2; exact p2.elim
              | some ys =>
                rw [q2] at p2
                simp only at p2
                split at p2
                · rename_i hl
                  obtain ⟨vs, h1, h2⟩ := k.ob n _ q
                  obtain ⟨b, ws, rfl, h3, h4⟩ := lstT_ok k r2 q2
                  refine mt_extend pins s σ H _ _ v us Q I rx rs ⟨_, b, vs, ws, rfl, rfl, h1, h3, by rw [← h2.length, ← h4.length]; exact nMax_le hl, ?_⟩
                  exact p2 g _ (Gh.Le.refl g) (k.setS q ⟨_, rfl, h2.append h4⟩) _ .non
                · exact p2.elim
        | _ => exact p'.elim
  | join =>
    obtain ⟨r, q, p⟩ := some_of p
    cases r1 with
    | str a =>
      cases rd with
      | nil => cases q
      | cons r2 t =>
        cases t with
        | cons _ _ => cases q
        | nil =>
          obtain ⟨ys, q1, q2⟩ := bind_some q
          obtain ⟨es, q3, q4⟩ := bind_some q1
          split at q2
          · rename_i hl
            cases q2
            obtain ⟨b, vs, rfl, s1, t1⟩ := seqOf_ok k r2 q3
            rw [txts_ok t1 q4, ← hw] at s1
            exact mt_join pins s σ H _ _ v us Q I rx rs ⟨a, b, ys, rfl, rfl, s1, Nat.le_trans hl (by decide), fin_val p k (.str _)⟩
          · cases q2
    | _ => cases q
  | split =>
    obtain ⟨r, q, p⟩ := some_of p
    cases r1 with
    | str a =>
      cases rd with
      | nil => cases q
      | cons r2 t =>
        cases t with
        | cons _ _ => cases r2 <;> cases q
        | nil =>
          cases r2 with
          | str b =>
            have q1 : (if (b.length == 0) = false ∧ a.length + 2 ≤ nMax then some (PR.newl ((Txt.split a b).map .str)) else none) = some r := q
            split at q1
            · rename_i hl
              cases q1
              exact mt_split pins s σ H _ _ v us Q I rx rs ⟨a, b, rfl, rfl, hl.1, nMax_le hl.2, fin_newl p k (rls_txts _)⟩
            · cases q1
          | _ => cases q
    | _ => cases q
  | partition =>
    obtain ⟨r, q, p⟩ := some_of p
    cases r1 with
    | str a =>
      cases rd with
      | nil => cases q
      | cons r2 t =>
        cases t with
        | cons _ _ => cases r2 <;> cases q
        | nil =>
          cases r2 with
          | str b =>
            have q1 : (if (b.length == 0) = false ∧ a.length ≤ nMax then some (PR.newt [.str (Txt.partition a b).1, .str (Txt.partition a b).2.1, .str (Txt.partition a b).2.2]) else none) = some r := q
            split at q1
            · rename_i hl
              cases q1
              exact mt_partition pins s σ H _ _ v us Q I rx rs ⟨a, b, rfl, rfl, hl.1, nMax_le hl.2, fin_newt p k (.cons (.str _) (.cons (.str _) (.cons (.str _) .nil)))⟩
            · cases q1
          | _ => cases q
    | _ => cases q
  | endswith =>
    obtain ⟨r, q, p⟩ := some_of p
    cases r1 with
    | str a =>
      cases rd with
      | nil => cases q
      | cons r2 t =>
        cases t with
        | cons _ _ => cases r2 <;> cases q
        | nil =>
          cases r2 with
          | str b => cases q; exact mt_endswith pins s σ H _ _ v us Q I rx rs ⟨a, b, rfl, rfl, fin_val p k (.bl _)⟩
          | _ => cases q
    | _ => cases q
  | startswith =>
    obtain ⟨r, q, p⟩ := some_of p
    cases r1 with
    | str a =>
      cases rd with
      | nil => cases q
      | cons r2 t =>
        cases t with
        | cons _ _ => cases r2 <;> cases q
        | nil =>
          cases r2 with
          | str b => cases q; exact mt_startswith pins s σ H _ _ v us Q I rx rs ⟨a, b, rfl, rfl, fin_val p k (.bl _)⟩
          | _ => cases q
    | _ => cases q
  | index =>
    obtain ⟨r, q, p⟩ := some_of p
    cases rd with
    | nil => cases d <;> cases q
    | cons r2 t =>
      cases t with
      | cons _ _ => cases d <;> cases q
      | @nil =>
        rename_i y vy
        have q' : ((flat y).bind fun v => ((lstOf S d).bind flats).bind fun ys => (ixOf v ys).map fun (j : Nat) => PR.val (.int (j : Int))) = some r := by cases d <;> exact q
        obtain ⟨u, q1, q2⟩ := bind_some q'
        obtain ⟨ys, q3, q4⟩ := bind_some q2
        obtain ⟨es, q5, q6⟩ := bind_some q3
        obtain ⟨j, q7, rfl⟩ := map_some q4
        obtain rfl := flat_ok r2 q1
        obtain ⟨b, vs, rfl, s1, t1⟩ := lstOf_ok k r1 q5
        obtain rfl := flats_ok t1 q6
        obtain ⟨z, z1, z2, z3⟩ := ixOf_ok q7
        rw [← hw] at s1
        exact mt_index pins s σ H _ _ v us Q I rx rs ⟨b, vs, _, j, z, rfl, rfl, s1, flat_flatV q1, flats_flatV q6, z1, z2, z3, fin_val p k (.int _)⟩
  | count =>
    obtain ⟨r, q, p⟩ := some_of p
    cases rd with
    | nil => cases d <;> cases q
    | cons r2 t =>
      cases t with
      | cons _ _ => cases d <;> cases q
      | @nil =>
        rename_i y vy
        have q' : ((flat y).bind fun v => ((lstOf S d).bind flats).bind fun ys => some (PR.val (.int (cntV v ys : Nat)))) = some r := by cases d <;> exact q
        obtain ⟨u, q1, q2⟩ := bind_some q'
        obtain ⟨ys, q3, q4⟩ := bind_some q2
        obtain ⟨es, q5, q6⟩ := bind_some q3
        cases q4
        obtain rfl := flat_ok r2 q1
        obtain ⟨b, vs, rfl, s1, t1⟩ := lstOf_ok k r1 q5
        obtain rfl := flats_ok t1 q6
        rw [← hw] at s1
        exact mt_count pins s σ H _ _ v us Q I rx rs ⟨b, vs, _, rfl, rfl, s1, flat_flatV q1, flats_flatV q6, fin_val p k (.int _)⟩
end
end ML

/-! The small language that a def's text is printed in, what it does, and when it is that text. -/
namespace ML
open PySem L2

inductive E where
  | var (i : Nat)
  | cI (i : Int) | cS (s : Str) | cB (b : Bool) | cN
  | glb (k : Nat)
  | bop (m : Bool) (op : Operator) (a b : E)
  | neg (a : E) | nt (a : E)
  | cmp (op : CmpOp) (a b : E) | chn (op op' : CmpOp) (a b c : E)
  | one (a : E) | con (o : BoolOp) (a b : E) | tru (a : E)
  | ite (c a b : E)
  | nil | cons (a b : E)
  | tup (es : E) | lst (m : Bool) (es : E)
  | idx (a i : E) | slc (m : Bool) (a lo hi : E) | off
  | blt (m : Bool) (f : Bf) (es : E) | met (m : Bool) (f : Mf) (o es : E) | call (k : Nat) (es : E)
  | isT (a : E) (t : String)
  | lc (m : Bool) (own : List (Str × Nat)) (i : Nat) (it c e : E)
  | rng (a : E) | rng2 (a b : E) | itr (e : E)
  | frz (e : E)
  | lset (a : E)
  | inW (x : Str) (kvs : List (Str × Key)) (a : E)
  | ixW (x : Str) (kvs : List (Str × Key)) (a : E)
  | isE (a : E) (x : Str) (tb : List (Str × Bool))
  | fld (a : E) (c f : Str)
  | mcl (k : Nat) (c m : Str) (o es : E)
  | mk (k : Nat) (c : Str) (es : E)
  | rev (m : Bool) (a : E) | cmn (m : Bool) (a b : E)
  | dnw | dgt (a i : E) | din (m : Bool) (i a : E) | dcp (a : E) | dg2 (a i x : E) | dpp (a i : E)
  | pop (a : E) | kv (k v r : E) | dlt (es : E)

/-- a key's value -/
def kD : Key → D
  | .inl i => .int i
  | .inr s => .str s
def lsetP (S : Store) (d : D) : Option PR := (seqOf S d).bind fun xs => (txts xs).bind fun ys => if ys.length ≤ 1000 then some (.val (.int (met ys).length)) else none
def inWP (kvs : List (Str × Key)) : D → Option Bool
  | .str s => some (kvs.lookup s).isSome
  | _ => none
def isEP (tb : List (Str × Bool)) : D → Option Bool
  | .exn c => tb.lookup c
  | _ => none
def ixWP (kvs : List (Str × Key)) : D → Option D
  | .str s => (kvs.lookup s).map kD
  | _ => none
/-! ### instances -/
def fldP (S : Store) (c f : Str) : D → Option D
  | .loc n => match S.ob n with
    | some (.ins c' fs) => if c' = c then fs.lookup f else none
    | _ => none
  | _ => none
/-- an instance of c that has no attribute m of its own -/
def insB (S : Store) (c m : Str) : D → Bool
  | .loc n => match S.ob n with
    | some (.ins c' fs) => decide (c' = c) && (fs.lookup m).isNone
    | _ => false
  | _ => false
def putD (f : Str) (v : D) : List (Str × D) → List (Str × D)
  | [] => [(f, v)]
  | (g, x) :: r => if g = f then (g, v) :: r else (g, x) :: putD f v r
def stfM (c f : Str) (o v : D) : M Unit := fun S => match o with
  | .loc n => match S.ob n with
    | some (.ins c' fs) => if c' = c ∧ fs.length < 1000 then .ok () (S.set n (.ins c (putD f v fs))) else .bad
    | _ => .bad
  | _ => .bad
def mkM (Γ : Nat → List D → M D) (k : Nat) (c : Str) (xs : List D) : M D := fun S => match Γ k (.loc S.nx :: xs) (S.new (.ins c [])) with
  | .ok .non S2 => .ok (.loc S.nx) S2
  | .ok _ _ => .bad
  | .exc e S2 => .exc e S2
  | .bad => .bad
/-! ### comparing what holds places of the store -/
def pys1 (S : Store) : List D → Option (List PyData)
  | [] => some []
  | x :: xs => (pyS S x).bind fun a => (pys1 S xs).map (a :: ·)
def py2 (S : Store) : D → Option PyData
  | .lst xs => (pys1 S xs).map .list
  | .tup xs => (pys1 S xs).map .tuple
  | d => pyS S d
def eqN (S : Store) (m : Bool) (d e : D) : Option Bool := match py2 S d, py2 S e with
  | some a, some b => if (SeqAt.shaped a && SeqAt.shaped b) = true then some (m != PyData.eqv a b) else none
  | _, _ => none
/-! ### dicts -/
def putKD (kvs : List (Key × D)) (k : Key) (v : D) : List (Key × D) :=
  if (kvs.any fun kv => decide (kv.1 = k)) = true then kvs.map (fun kv => if kv.1 = k then (kv.1, v) else kv) else kvs ++ [(k, v)]
def dropKD (kvs : List (Key × D)) (k : Key) : List (Key × D) := kvs.filter fun kv => decide (kv.1 ≠ k)
def dctOf (S : Store) : D → Option (List (Key × D))
  | .loc n => obDct (S.ob n)
  | _ => none
/-- what the dict d has at e, if it is one and e may be a key -/
def dgtP (S : Store) (d e : D) : Option (Option D) := (dctOf S d).bind fun kvs => (keyOf e).map fun k => lookK kvs k
def dputM (d e v : D) : M Unit := fun S => match d, keyOf e with
  | .loc n, some k => match obDct (S.ob n) with
    | some kvs => if kvs.length < nMax then .ok () (S.set n (.dct (putKD kvs k v))) else .bad
    | none => .bad
  | _, _ => .bad
def dpopM (d e : D) : M D := fun S => match d, keyOf e with
  | .loc n, some k => match obDct (S.ob n) with
    | some kvs => match lookK kvs k with
      | some v => .ok v (S.set n (.dct (dropKD kvs k)))
      | none => .bad
    | none => .bad
  | _, _ => .bad
/-- d.pop() of a list -/
def popM (d : D) : M D := fun S => match d with
  | .loc n => match obLst (S.ob n) with
    | some xs => match xs[xs.length - 1]? with
      | some y => .ok y (S.set n (.lst xs.dropLast))
      | none => .bad
    | none => .bad
  | _ => .bad
def pairsD : List D → Option (List (Key × D))
  | [] => some []
  | k :: v :: r => (keyOf k).bind fun q => (pairsD r).map ((q, v) :: ·)
  | _ => none
def mergeKD (kvs more : List (Key × D)) : List (Key × D) := more.foldl (fun acc kv => putKD acc kv.1 kv.2) kvs
/-- {k: v, ..}; the new dict stood empty at n while the pairs were made -/
def dltM (n : Nat) (xs : List D) : M D := fun S => match obDct (S.ob n), pairsD xs with
  | some [], some kvs => if kvs.length ≤ 15 then .ok (.loc n) (S.set n (.dct (mergeKD [] kvs))) else .bad
  | _, _ => .bad
def dcpM (d : D) : M D := fun S => match dctOf S d with
  | some kvs => .ok (.loc S.nx) (S.new (.dct kvs))
  | none => .bad
/-! ### what is walked -/
inductive Src where
  | vals (xs : List D)
  | plc (n len : Nat)
def Src.get : Src → Store → Nat → Option D
  | .vals xs, _, i => xs[i]?
  | .plc n _, S, i => (obLst (S.ob n)).bind fun (xs : List D) => xs[i]?
def Src.num : Src → Nat
  | .vals xs => xs.length
  | .plc _ l => l
def Src.over : Src → Store → Bool
  | .vals _, _ => true
  | .plc n l, S => match obLst (S.ob n) with
    | some xs => decide (xs.length ≤ l)
    | none => false
def signs (s : Str) : List D := s.cps.toList.map fun c => .str (oneStr c)
def srcOf (S : Store) : D → Option Src
  | .str s => if s.length ≤ nMax then some (.vals (signs s)) else none
  | .tup xs => some (.vals xs)
  | .lst xs => some (.vals xs)
  | .cst xs => some (.vals xs)
  | .loc n => (obLst (S.ob n)).map fun xs => .plc n xs.length
  | _ => none
def intL (lo : Int) (n : Nat) : List D := (List.range n).map fun (k : Nat) => .int (lo + (k : Int))
def loopC (src : Src) (n : Nat) (f : D → M (Option D)) : Nat → Nat → M Unit
  | 0, _ => fun S => if src.over S = true then .ok () S else .bad
  | k + 1, i => fun S => match src.get S i with
    | none => .bad
    | some x => match f x S with
      | .ok none S1 => loopC src n f k (i + 1) S1
      | .ok (some y) S1 => match obLst (S1.ob n) with
        | some acc => if acc.length < nMax then loopC src n f k (i + 1) (S1.set n (.lst (acc ++ [y]))) else .bad
        | none => .bad
      | _ => .bad
def compM (m : Bool) (src : Src) (f : D → M (Option D)) : M D := fun S =>
  match loopC src S.nx f src.num 0 (S.new (.lst [])) with
  | .ok _ S2 => if m = true then .ok (.loc S.nx) S2 else match obLst (S2.ob S.nx) with
    | some acc => .ok (.lst acc) (S2.del S.nx)
    | none => .bad
  | _ => .bad
def frzM (d : D) : M D := fun S => match d with
  | .loc n => match obLst (S.ob n) with
    | some xs => .ok (.lst xs) (S.del n)
    | none => .bad
  | _ => .bad
def toInt : D → M (Option Int)
  | .int i => M.pure (some i)
  | _ => M.bad
def truM (d : D) : M Bool := fun S => match truP S d with
  | some b => .ok b S
  | none => .bad
def isOff : E → Bool
  | .off => true
  | _ => false
def wipeE (env : Env) : List Nat → Env
  | [] => env
  | v :: vs => (wipeE env vs).set v none

section
variable (Γ : Nat → List D → M D) (gv : List D)
mutual
def evE : E → Env → M D
  | .var i, env => fun S => match env[i]? with
    | some (some d) => .ok d S
    | _ => .bad
  | .cI i, _ => M.pure (.int i)
  | .cS s, _ => M.pure (.str s)
  | .cB b, _ => M.pure (.bl b)
  | .cN, _ => M.pure .non
  | .glb k, _ => fun S => match gv[k]? with
    | some d => .ok d S
    | none => .bad
  | .bop m op a b, env => (evE a env).bind fun x => (evE b env).bind fun y S => finO m (binP S op x y) S
  | .neg a, env => (evE a env).bind fun x => match x with
    | .int i => M.pure (.int (-i))
    | _ => M.bad
  | .nt a, env => (evE a env).bind fun x => (truM x).bind fun b => M.pure (.bl (!b))
  | .cmp op a b, env => (evE a env).bind fun x => (evE b env).bind fun y S => finO false (bV (cmpP S op x y)) S
  | .chn op op' a b c, env => (evE a env).bind fun x => (evE b env).bind fun y S => match cmpP S op x y with
    | some true => ((evE c env).bind fun z S => finO false (bV (cmpP S op' y z)) S) S
    | some false => .ok (.bl false) S
    | none => .bad
  | .one a, env => evE a env
  | .con .And a b, env => (evE a env).bind fun x => (truM x).bind fun t => if t = true then evE b env else M.pure x
  | .con .Or a b, env => (evE a env).bind fun x => (truM x).bind fun t => if t = true then M.pure x else evE b env
  | .ite c a b, env => (evT c env).bind fun t => if t = true then evE a env else evE b env
  | .tup es, env => (evA es env).bind fun xs => if xs.length ≤ nMax then M.pure (.tup xs) else M.bad
  | .lst m es, env => (evA es env).bind fun xs => if xs.length ≤ nMax then fin m (.newl xs) else M.bad
  | .idx a i, env => (evE a env).bind fun x => (evE i env).bind fun y S => finO false ((ixP S x y).map PR.val) S
  | .slc m a lo hi, env => (evE a env).bind fun x => (if isOff lo = true then M.pure none else (evE lo env).bind toInt).bind fun l => (if isOff hi = true then M.pure none else (evE hi env).bind toInt).bind fun h S => finO m (slP S x l h) S
  | .blt m f es, env => (evA es env).bind fun xs S => finO m (bfP S f xs) S
  | .met m f o es, env => (evE o env).bind fun x S => if isTy S f.ty x = true then ((evA es env).bind fun xs => mfM m f x xs) S else .bad
  | .call k es, env => (evA es env).bind fun xs => Γ k xs
  | .isT a t, env => (evE a env).bind fun x S => finO false (bV ((typD S x).bind (instB · t))) S
  | .lc m own i it c e, env => (evI it env).bind fun src => compM m src fun x =>
      (if isOff c = true then M.pure true else evT c ((wipeE env (own.map (·.2))).set i (some x))).bind fun t =>
        if t = true then (evE e ((wipeE env (own.map (·.2))).set i (some x))).bind fun y => M.pure (some y) else M.pure none
  | .frz e, env => (evE e env).bind frzM
  | .lset a, env => (evE a env).bind fun x S => finO false (lsetP S x) S
  | .inW _ kvs a, env => (evE a env).bind fun x S => finO false (bV (inWP kvs x)) S
  | .isE a _ tb, env => (evE a env).bind fun x S => finO false (bV (isEP tb x)) S
  | .ixW _ kvs a, env => (evE a env).bind fun x S => finO false ((ixWP kvs x).map PR.val) S
  | .fld a c f, env => (evE a env).bind fun x S => finO false ((fldP S c f x).map PR.val) S
  | .mcl k c m o es, env => (evE o env).bind fun x S => if insB S c m x = true then ((evA es env).bind fun xs => Γ k (x :: xs)) S else .bad
  | .mk k c es, env => (evA es env).bind fun xs => mkM Γ k c xs
  | .rev m a, env => (evE a env).bind fun x S => finO m ((lstOf S x).map fun xs => .newl xs.reverse) S
  | .cmn m a b, env => (evE a env).bind fun x => (evE b env).bind fun y S => finO false (bV (eqN S m x y)) S
  | .dnw, _ => fun S => .ok (.loc S.nx) (S.new (.dct []))
  | .dgt a i, env => (evE a env).bind fun x => (evE i env).bind fun y S => match dgtP S x y with
    | some (some d) => .ok d S
    | _ => .bad
  | .din m i a, env => (evE i env).bind fun y => (evE a env).bind fun x S => match dgtP S x y with
    | some r => .ok (.bl (m != r.isSome)) S
    | none => .bad
  | .dcp a, env => (evE a env).bind dcpM
  | .pop a, env => (evE a env).bind popM
  | .dlt es, env => fun S => (evA es env).bind (fun xs => dltM S.nx xs) (S.new (.dct []))
  | .dg2 a i x, env => (evE a env).bind fun d S => if (dctOf S d).isSome = true then ((evE i env).bind fun y => (evE x env).bind fun z S => match dgtP S d y with
    | some r => .ok (r.getD z) S
    | none => .bad) S else .bad
  | .dpp a i, env => (evE a env).bind fun d S => if (dctOf S d).isSome = true then ((evE i env).bind fun y => dpopM d y) S else .bad
  | _, _ => M.bad
def evA : E → Env → M (List D)
  | .nil, _ => M.pure []
  | .cons a b, env => (evE a env).bind fun x => (evA b env).bind fun xs => M.pure (x :: xs)
  | .kv a b c, env => (evE a env).bind fun x => (evE b env).bind fun y => (evA c env).bind fun xs => M.pure (x :: y :: xs)
  | _, _ => M.bad
def evT : E → Env → M Bool
  | .nt a, env => (evT a env).bind fun b => M.pure (!b)
  | .one a, env => evT a env
  | .con .And a b, env => (evT a env).bind fun t => if t = true then evT b env else M.pure false
  | .con .Or a b, env => (evT a env).bind fun t => if t = true then M.pure true else evT b env
  | .cmp op a b, env => (evE a env).bind fun x => (evE b env).bind fun y S => match cmpP S op x y with
    | some b => .ok b S
    | none => .bad
  | .chn op op' a b c, env => (evE a env).bind fun x => (evE b env).bind fun y S => match cmpP S op x y with
    | some true => ((evE c env).bind fun z S => match cmpP S op' y z with
      | some b => .ok b S
      | none => .bad) S
    | some false => .ok false S
    | none => .bad
  | .tru a, env => (evE a env).bind truM
  | .inW _ kvs a, env => (evE a env).bind fun x S => match inWP kvs x with
    | some b => .ok b S
    | none => .bad
  | .din m i a, env => (evE i env).bind fun y => (evE a env).bind fun x S => match dgtP S x y with
    | some r => .ok (m != r.isSome) S
    | none => .bad
  | .cmn m a b, env => (evE a env).bind fun x => (evE b env).bind fun y S => match eqN S m x y with
    | some b => .ok b S
    | none => .bad
  | _, _ => M.bad
def evI : E → Env → M Src
  | .rng a, env => (evE a env).bind fun x => match x with
    | .int j => if j ≤ (nMax : Int) ∧ -(nMax : Int) ≤ j then M.pure (.vals (intL 0 j.toNat)) else M.bad
    | _ => M.bad
  | .rng2 a b, env => (evE a env).bind fun x => (evE b env).bind fun y => match x, y with
    | .int i, .int j => if (i ≤ (nMax : Int) ∧ -(nMax : Int) ≤ i) ∧ j ≤ (nMax : Int) ∧ -(nMax : Int) ≤ j then M.pure (.vals (intL i (j - i).toNat)) else M.bad
    | _, _ => M.bad
  | .itr e, env => (evE e env).bind fun x S => match srcOf S x with
    | some s => .ok s S
    | none => .bad
  | _, _ => M.bad
end
end

/-! ### statements -/
inductive ST where
  | asg (i : Nat) (e : E) | asgC (i : Nat) (e : E)
  | unp (is : List Nat) (e : E)
  | stI (o i e : E)
  | stF (o : E) (c f : Str) (e : E)
  | stD (o i e : E)
  | exp (e : E)
  | ife (c : E) (a b : ST)
  | fr (i : Nat) (it : E) (b : ST)
  | frT (is : List Nat) (it : E) (b : ST)
  | whl (c : E) (b : ST)
  | ret (e : E) | retN | pass
  | rais (c : Str)
  | tryK (b : ST) (x : Str) (tb : List (Str × Bool)) (i h : Nat)
  | nil | seq (a b : ST)
inductive RS where
  | nx (env : Env) (S : Store)
  | rt (d : D) (S : Store)
  | exc (c : Str) (env : Env) (S : Store)
  | bad
/-- an expression first -/
def Rs.thenS {α : Type} (env : Env) : Rs α → (α → Store → RS) → RS
  | .ok a S, k => k a S
  | .exc c S, _ => .exc c env S
  | .bad, _ => .bad
def loopF (src : Src) (body : D → Env → Store → RS) : Nat → Nat → Env → Store → RS
  | 0, _, env, S => if src.over S = true then .nx env S else .bad
  | k + 1, i, env, S => match src.get S i with
    | none => .bad
    | some x => match body x env S with
      | .nx env' S' => loopF src body k (i + 1) env' S'
      | .rt d S' => .rt d S'
      | .exc c env' S' => .exc c env' S'
      | .bad => .bad
def loopW (test : Env → M Bool) (body : Env → Store → RS) : Nat → Env → Store → RS
  | 0, _, _ => .bad
  | k + 1, env, S => (test env S).thenS env fun t S1 => if t = true then match body env S1 with
      | .nx env' S' => loopW test body k env' S'
      | .rt d S' => .rt d S'
      | .exc c env' S' => .exc c env' S'
      | .bad => .bad
    else .nx env S1
/-- the most turns of a while -/
def wMost : Nat := 1000
def setAll : List Nat → List D → Env → Env
  | i :: is, d :: ds, env => setAll is ds (env.set i (some d))
  | _, _, env => env
def tupOf : D → Option (List D)
  | .tup xs => some xs
  | _ => none
def storeM (o i v : D) : M Unit := fun S => match o, i with
  | .loc n, .int k => match obLst (S.ob n) with
    | some xs => match ixN xs.length k with
      | some j => .ok () (S.set n (.lst (xs.set j v)))
      | none => .bad
    | none => .bad
  | _, _ => .bad
section
variable (Γ : Nat → List D → M D) (gv : List D)
def evS : ST → Env → Store → RS
  | .asg i e, env, S => (evE Γ gv e env S).thenS env fun d S1 => .nx (env.set i (some d)) S1
  | .asgC i e, env, S => (evE Γ gv e env S).thenS env fun d S1 => .nx (env.set i (some d)) S1
  | .unp is e, env, S => (evE Γ gv e env S).thenS env fun d S1 => match tupOf d with
    | some xs => if xs.length = is.length then .nx (setAll is xs env) S1 else .bad
    | none => .bad
  | .stI o i e, env, S => (evE Γ gv e env S).thenS env fun v S1 => (evE Γ gv o env S1).thenS env fun x S2 => (evE Γ gv i env S2).thenS env fun y S3 => (storeM x y v S3).thenS env fun _ S4 => .nx env S4
  | .stF o c f e, env, S => (evE Γ gv e env S).thenS env fun v S1 => (evE Γ gv o env S1).thenS env fun x S2 => (stfM c f x v S2).thenS env fun _ S3 => .nx env S3
  | .stD o i e, env, S => (evE Γ gv e env S).thenS env fun v S1 => (evE Γ gv o env S1).thenS env fun x S2 => (evE Γ gv i env S2).thenS env fun y S3 => (dputM x y v S3).thenS env fun _ S4 => .nx env S4
  | .exp e, env, S => (evE Γ gv e env S).thenS env fun _ S1 => .nx env S1
  | .ife c a b, env, S => (evT Γ gv c env S).thenS env fun t S1 => if t = true then evS a env S1 else evS b env S1
  | .fr i it b, env, S => (evI Γ gv it env S).thenS env fun src S1 => loopF src (fun x env S => evS b (env.set i (some x)) S) src.num 0 env S1
  | .frT is it b, env, S => (evI Γ gv it env S).thenS env fun src S1 => loopF src (fun x env S => match tupOf x with
    | some xs => if xs.length = is.length then evS b (setAll is xs env) S else .bad
    | none => .bad) src.num 0 env S1
  | .whl c b, env, S => loopW (evT Γ gv c) (fun env S => evS b env S) wMost env S
  | .ret e, env, S => (evE Γ gv e env S).thenS env fun d S1 => .rt d S1
  | .retN, _, S => .rt .non S
  | .pass, env, S => .nx env S
  | .rais c, env, S => .exc c env S
  | .tryK b _ tb i h, env, S => match evS b env S with
    | .exc c env' S' => match tb.lookup c with
      | some true => if i < env'.length then .nx ((env'.set h (some (.exn c))).set i none) S' else .bad
      | some false => .exc c env' S'
      | none => .bad
    | r => r
  | .nil, env, S => .nx env S
  | .seq a b, env, S => match evS a env S with
    | .nx env' S' => evS b env' S'
    | .rt d S' => .rt d S'
    | .exc c env' S' => .exc c env' S'
    | .bad => .bad
end

/-! ### defs -/
structure Fn where
  name : Str
  ps : List Str
  N : List Str
  body : ST
  own : Bool := false
def startE (n : Nat) (ds : List D) : Env := ds.map some ++ List.replicate (n - ds.length) none
def endF : RS → Rs D
  | .nx _ S => .ok .non S
  | .rt d S => .ok d S
  | .exc c _ S => .exc c S
  | .bad => .bad
structure Tab where
  fns : List Fn
  cst : List (Str × D)
  blt : List Str
  exc : List Str
  dct : List (Str × List (Str × Key)) := []
  cls : List Str := []
  sub : List ((Str × Str) × Bool) := []
  nof : List (Str × Str) := []
  mth : List ((Str × Str) × Nat) := []
  mks : List (Str × Nat) := []
def sem (T : Tab) : Nat → Nat → List D → M D
  | 0, _, _ => M.bad
  | n + 1, k, ds => fun S => match T.fns[k]? with
    | some f => if ds.length = f.ps.length then endF (evS (sem T n) (T.cst.map (·.2)) f.body (startE f.N.length ds) S) else .bad
    | none => .bad

def dctB (T : Tab) (d : Str) (kvs : List (Str × Key)) : Bool := T.dct.any fun q => decide (q = (d, kvs))
theorem dctB_mem {T : Tab} {d : Str} {kvs : List (Str × Key)} (h : dctB T d kvs = true) : (d, kvs) ∈ T.dct := by
  obtain ⟨q, hq, e⟩ := List.any_eq_true.mp h
  rw [← of_decide_eq_true e]
  exact hq
def nofB (T : Tab) (c f : Str) : Bool := T.nof.any fun q => decide (q = (c, f))
theorem nofB_mem {T : Tab} {c f : Str} (h : nofB T c f = true) : (c, f) ∈ T.nof := by
  obtain ⟨q, hq, e⟩ := List.any_eq_true.mp h
  rw [← of_decide_eq_true e]
  exact hq
def mthB (T : Tab) (c m : Str) (k : Nat) : Bool := T.mth.any fun q => decide (q = ((c, m), k))
theorem mthB_mem {T : Tab} {c m : Str} {k : Nat} (h : mthB T c m k = true) : ((c, m), k) ∈ T.mth := by
  obtain ⟨q, hq, e⟩ := List.any_eq_true.mp h
  rw [← of_decide_eq_true e]
  exact hq
def mksB (T : Tab) (c : Str) (k : Nat) : Bool := T.mks.any fun q => decide (q = (c, k))
theorem mksB_mem {T : Tab} {c : Str} {k : Nat} (h : mksB T c k = true) : (c, k) ∈ T.mks := by
  obtain ⟨q, hq, e⟩ := List.any_eq_true.mp h
  rw [← of_decide_eq_true e]
  exact hq
def subB (T : Tab) (x : Str) (tb : List (Str × Bool)) : Bool := tb.all fun q => T.sub.any fun r => decide (r = ((q.1, x), q.2))
theorem subB_mem {T : Tab} {x c : Str} {tb : List (Str × Bool)} {b : Bool} (h : subB T x tb = true) (e : tb.lookup c = some b) : ((c, x), b) ∈ T.sub := by
  have hm : (c, b) ∈ tb := by
    clear h
    induction tb with
    | nil => cases e
    | cons a r ih =>
      obtain ⟨a1, a2⟩ := a
      rw [List.lookup_cons] at e
      split at e
      · rename_i q
        cases e
        rw [eq_of_beq q]
        exact .head _
      · exact .tail _ (ih e)
  have z := List.all_eq_true.mp h _ hm
  obtain ⟨q, hq, e⟩ := List.any_eq_true.mp z
  rw [← of_decide_eq_true e]
  exact hq
/-! ### when it is the text -/
def visB (sc : Scope) (x : Str) : Bool := match sc.names.lookup x with
  | some .local => true
  | some .cell => true
  | some .free => true
  | _ => false
def locB (sc : Scope) (x : Str) : Bool := match sc.names.lookup x with
  | some .local => true
  | some .cell => true
  | _ => false
def glB (sc : Scope) (x : Str) : Bool := match sc.names.lookup x with
  | some .globalImplicit => true
  | _ => false
def nmB (x : Str) : Bool := !(x == ("__debug__" : Str)) && !(x == ("__classdict__" : Str)) && !decide (x = ("__name__" : Str))
def noSet : Expr → Bool
  | .Set .. => false
  | _ => true
def noStar : Expr → Bool
  | .Starred .. => false
  | _ => true
def noSlice : Expr → Bool
  | .Slice .. => false
  | _ => true
def plainT : Expr → Bool
  | .UnaryOp .. => false
  | .BoolOp .. => false
  | .IfExp .. => false
  | .Compare .. => false
  | _ => true
/-- no call super() -/
def noSup : Expr → Bool
  | .Call (.Name _ _) [] [] _ => false
  | _ => true
def noComp : Expr → Bool
  | .ListComp .. => false
  | .SetComp .. => false
  | .DictComp .. => false
  | _ => true
def lcOf : List Comprehension → Option (Str × Expr × List Expr)
  | [⟨.Name y _, iter, ifs, k⟩] => if k = 0 then some (y, iter, ifs) else none
  | _ => none
theorem lcOf_some {gs : List Comprehension} {y : Str} {iter : Expr} {ifs : List Expr} (h : lcOf gs = some (y, iter, ifs)) : ∃ py, gs = [⟨.Name y py, iter, ifs, 0⟩] := by
  unfold lcOf at h
  split at h
  · split at h
    · rename_i hk
      cases h
      rw [hk]
      exact ⟨_, rfl⟩
    · cases h
  · cases h
def chkOp (off : Bool) (c : Expr → Bool) : Option Expr → Bool
  | none => off
  | some y => !off && c y
def chkIf (off : Bool) (c : Expr → Bool) : List Expr → Bool
  | [] => off
  | [y] => !off && c y
  | _ => false
section
variable (T : Tab)
mutual
def chkE (N : List Str) (sc : Scope) : E → Expr → Bool
  | .var i, .Name x _ => decide (N[i]? = some x) && visB sc x && nmB x
  | .cI i, .Constant (.int j) _ _ => decide (i = j)
  | .cS s, .Constant (.str t) _ _ => decide (s = t)
  | .cB b, .Constant (.bool c) _ _ => decide (b = c)
  | .cN, .Constant .none _ _ => true
  | .glb k, .Name x _ => decide ((T.cst[k]?).map (·.1) = some x) && glB sc x && nmB x
  | .bop _ op a b, .BinOp x o y _ => decide (op = o) && chkE N sc a x && chkE N sc b y
  | .neg a, .UnaryOp .USub x _ => chkE N sc a x
  | .nt a, .UnaryOp .Not x _ => chkE N sc a x
  | .cmp op a b, .Compare x [o] [y] _ => decide (op = o) && noSet y && chkE N sc a x && chkE N sc b y
  | .chn op op' a b c, .Compare x [o, o'] [y, z] _ => decide (op = o) && decide (op' = o') && noSet z && chkE N sc a x && chkE N sc b y && chkE N sc c z
  | .one a, .BoolOp _ [x] _ => chkE N sc a x
  | .con o a b, .BoolOp o' (x :: y :: r) pos => decide (o = o') && chkE N sc a x && chkE N sc b (.BoolOp o' (y :: r) pos)
  | .ite c a b, .IfExp t x y _ => chkT N sc c t && chkE N sc a x && chkE N sc b y
  | .tup es, .Tuple xs _ _ => chkA N sc es xs
  | .lst _ es, .List xs _ => chkA N sc es xs
  | .idx a i, .Subscript x y _ => noSlice y && chkE N sc a x && chkE N sc i y
  | .slc _ a lo hi, .Subscript x (.Slice l h none _) _ => chkE N sc a x && chkOp (isOff lo) (chkE N sc lo) l && chkOp (isOff hi) (chkE N sc hi) h
  | .blt _ f es, .Call (.Name x _) (y :: ys) [] _ => decide (x = f.name) && glB sc x && nmB x && decide (x ∈ T.blt) && chkA N sc es (y :: ys)
  | .met _ f o es, .Call (.Attribute x m apos) (y :: ys) [] pos => decide (m = f.name) && (apos.endLine == pos.line) && noSup x && decide (ys.length < 20) && chkE N sc o x && chkA N sc es (y :: ys)
  | .call k es, .Call (.Name x _) ys [] _ => decide ((T.fns[k]?).map (fun f => (f.name, f.own)) = some (x, false)) && glB sc x && nmB x && chkA N sc es ys
  | .isT a t, .Call (.Name x _) [y, .Name z _] [] _ => decide (x = ("isinstance" : Str)) && glB sc x && decide (x ∈ T.blt) && glB sc z && nmB z && decide (z ∈ T.blt) && decide (bootBuiltins z = some (.type t)) && noStar y && chkE N sc a y
  | .lc _ own i it c e, .ListComp elt gs scope _ => match lcOf gs with
    | some (y, iter, ifs) => blkC N sc scope own && decide (i ∈ own.map (·.2)) && decide (N[i]? = some y) && locB scope y && noSet iter && chkI N sc it iter && chkIf (isOff c) (chkT N (relS scope sc) c) ifs && chkE N (relS scope sc) e elt
    | none => false
  | .frz e, x => chkE N sc e x
  | .lset a, .Call (.Name x _) [.Call (.Name y _) [z] [] _] [] _ => decide (x = ("len" : Str)) && decide (y = ("set" : Str)) && glB sc x && glB sc y && decide (x ∈ T.blt) && decide (y ∈ T.blt) && noStar z && chkE N sc a z
  | .isE a c tb, .Call (.Name x _) [y, .Name z _] [] _ => decide (x = ("isinstance" : Str)) && glB sc x && decide (x ∈ T.blt) && glB sc z && nmB z && decide (z = c) && decide (c ∈ T.cls) && subB T c tb && noStar y && chkE N sc a y
  | .inW d kvs a, .Compare x [.In] [.Name y _] _ => decide (y = d) && glB sc y && nmB y && dctB T d kvs && chkE N sc a x
  | .ixW d kvs a, .Subscript (.Name y _) z _ => decide (y = d) && glB sc y && nmB y && dctB T d kvs && noSlice z && chkE N sc a z
  | .fld a c f, .Attribute x f' _ => decide (f' = f) && noSup x && nofB T c f && chkE N sc a x
  | .mcl k c m o es, .Call (.Attribute x m' apos) ys [] pos => decide (m' = m) && (apos.endLine == pos.line) && noSup x && decide (ys.length < 20) && mthB T c m k && chkE N sc o x && chkA N sc es ys
  | .mk k c es, .Call (.Name x _) ys [] _ => decide (x = c) && glB sc x && nmB x && mksB T c k && chkA N sc es ys
  | .rev _ a, .Subscript x (.Slice none none (some (.UnaryOp .USub (.Constant (.int j) _ _) _)) _) _ => decide (j = 1) && chkE N sc a x
  | .cmn m a b, .Compare x [o] [y] _ => decide (o = if m = true then .NotEq else .Eq) && chkE N sc a x && chkE N sc b y
  | .dnw, .Dict [] [] _ => true
  | .dgt a i, .Subscript x y _ => noSlice y && chkE N sc a x && chkE N sc i y
  | .din m i a, .Compare x [o] [y] _ => decide (o = if m = true then .NotIn else .In) && noSet y && chkE N sc i x && chkE N sc a y
  | .dcp a, .Call (.Attribute x m apos) [] [] pos => decide (m = ("copy" : Str)) && (apos.endLine == pos.line) && noSup x && chkE N sc a x
  | .pop a, .Call (.Attribute x m apos) [] [] pos => decide (m = ("pop" : Str)) && (apos.endLine == pos.line) && noSup x && chkE N sc a x
  | .dlt es, .Dict ks vs _ => chkD N sc es ks vs && decide (0 < ks.length) && decide (ks.length ≤ 15)
  | .dg2 a i z, .Call (.Attribute x m apos) [y, u] [] pos => decide (m = ("get" : Str)) && (apos.endLine == pos.line) && noSup x && noStar y && noStar u && chkE N sc a x && chkE N sc i y && chkE N sc z u
  | .dpp a i, .Call (.Attribute x m apos) [y] [] pos => decide (m = ("pop" : Str)) && (apos.endLine == pos.line) && noSup x && noStar y && chkE N sc a x && chkE N sc i y
  | _, _ => false
def chkA (N : List Str) (sc : Scope) : E → List Expr → Bool
  | .nil, [] => true
  | .cons a b, x :: xs => noStar x && chkE N sc a x && chkA N sc b xs
  | _, _ => false
def chkD (N : List Str) (sc : Scope) : E → List (Option Expr) → List Expr → Bool
  | .nil, [], [] => true
  | .kv a b c, some k :: ks, v :: vs => chkE N sc a k && chkE N sc b v && chkD N sc c ks vs
  | _, _, _ => false
def chkT (N : List Str) (sc : Scope) : E → Expr → Bool
  | .nt a, .UnaryOp .Not x _ => chkT N sc a x
  | .one a, .BoolOp _ [x] _ => chkT N sc a x
  | .con o a b, .BoolOp o' (x :: y :: r) pos => decide (o = o') && chkT N sc a x && chkT N sc b (.BoolOp o' (y :: r) pos)
  | .cmp op a b, .Compare x [o] [y] _ => decide (op = o) && noSet y && chkE N sc a x && chkE N sc b y
  | .chn op op' a b c, .Compare x [o, o'] [y, z] _ => decide (op = o) && decide (op' = o') && noSet z && chkE N sc a x && chkE N sc b y && chkE N sc c z
  | .tru a, x => plainT x && chkE N sc a x
  | .inW d kvs a, .Compare x [.In] [.Name y _] _ => decide (y = d) && glB sc y && nmB y && dctB T d kvs && chkE N sc a x
  | .din m i a, .Compare x [o] [y] _ => decide (o = if m = true then .NotIn else .In) && noSet y && chkE N sc i x && chkE N sc a y
  | .cmn m a b, .Compare x [o] [y] _ => decide (o = if m = true then .NotEq else .Eq) && chkE N sc a x && chkE N sc b y
  | _, _ => false
def chkI (N : List Str) (sc : Scope) : E → Expr → Bool
  | .rng a, .Call (.Name x _) [y] [] _ => decide (x = ("range" : Str)) && glB sc x && decide (x ∈ T.blt) && noStar y && chkE N sc a y
  | .rng2 a b, .Call (.Name x _) [y, z] [] _ => decide (x = ("range" : Str)) && glB sc x && decide (x ∈ T.blt) && noStar y && noStar z && chkE N sc a y && chkE N sc b z
  | .itr e, x => chkE N sc e x
  | _, _ => false
end
/-- whether the comprehension's store and the statement's are exchanged -/
def swB (sc : Scope) (y : Str) (py : Pos) : Expr → Bool
  | .ListComp _ _ s pos => (match sc.names.lookup y with
      | some .local => true
      | _ => false) && (py.line == pos.line) && !(s.names.any fun (n, k) => n == y && (k == .local || k == .cell))
  | _ => false
def nmsB (N : List Str) (sc : Scope) : List Nat → List Expr → Bool
  | [], [] => true
  | i :: is, .Name x _ :: es => decide (N[i]? = some x) && locB sc x && nmsB N sc is es
  | _, _ => false
def isTup : Expr → Bool
  | .Tuple .. => true
  | _ => false
def noDSC : Expr → Bool
  | .SetComp .. => false
  | .DictComp .. => false
  | _ => true
def isLc : E → Bool
  | .lc .. => true
  | _ => false
def tgName : List Expr → Option (Str × Pos)
  | [.Name x p] => some (x, p)
  | _ => none
def tgTup : List Expr → Option (List Expr)
  | [.Tuple es _ _] => some es
  | _ => none
def tgSub : List Expr → Option (Expr × Expr)
  | [.Subscript x y _] => some (x, y)
  | _ => none
def tgAtt : List Expr → Option (Expr × Str)
  | [.Attribute x f _] => some (x, f)
  | _ => none
def excOf : Option Expr → Option Expr → Option Str
  | some (.Call (.Name x _) [.Constant (.str _) _ _] [] _), none => some x
  | _, _ => none
def tryH : List ExceptHandler → Option (Str × Str × Str × Str)
  | [.ExceptHandler (some (.Name z _)) (some n) [.Assign [.Name hn _] (.Name en _) _] _] => some (z, n, hn, en)
  | _ => none
def tryOf : Stmt → Option (List Stmt × Str × Str × Str × Str)
  | .Try body hs [] [] _ => (tryH hs).map fun q => (body, q)
  | _ => none
theorem tryH_some {hs : List ExceptHandler} {z n hn en : Str} (h : tryH hs = some (z, n, hn, en)) : ∃ p1 p2 p3 p4 p5, hs = [.ExceptHandler (some (.Name z p1)) (some n) [.Assign [.Name hn p2] (.Name en p3) p4] p5] := by
  unfold tryH at h
  split at h
  · cases h; exact ⟨_, _, _, _, _, rfl⟩
  · cases h
theorem tryOf_some {s : Stmt} {body : List Stmt} {z n hn en : Str} (h : tryOf s = some (body, z, n, hn, en)) : ∃ p1 p2 p3 p4 p5 p6, s = .Try body [.ExceptHandler (some (.Name z p1)) (some n) [.Assign [.Name hn p2] (.Name en p3) p4] p5] [] [] p6 := by
  unfold tryOf at h
  split at h
  · rename_i b hs pos
    cases q : tryH hs with
    | none => rw [q] at h; cases h
    | some r =>
      rw [q] at h
      cases h
      obtain ⟨p1, p2, p3, p4, p5, rfl⟩ := tryH_some q
      exact ⟨p1, p2, p3, p4, p5, _, rfl⟩
  · cases h
mutual
def chk1 (N : List Str) (sc : Scope) : ST → Stmt → Bool
  | .asg i e, .Assign ts v _ => match tgName ts with
    | some (x, py) => decide (N[i]? = some x) && locB sc x && noDSC v && !swB sc x py v && chkE T N sc e v
    | none => false
  | .asgC i e, .Assign ts v _ => match tgName ts with
    | some (x, py) => decide (N[i]? = some x) && swB sc x py v && isLc e && chkE T N sc e v
    | none => false
  | .unp is e, .Assign ts v _ => match tgTup ts with
    | some es => nmsB N sc is es && noComp v && !isTup v && chkE T N sc e v
    | none => false
  | .stI o i e, .Assign ts v _ => match tgSub ts with
    | some (x, y) => noSlice y && noComp v && chkE T N sc o x && chkE T N sc i y && chkE T N sc e v
    | none => false
  | .stF o c f e, .Assign ts v _ => match tgAtt ts with
    | some (x, f') => decide (f' = f) && noComp v && nofB T c f && chkE T N sc o x && chkE T N sc e v
    | none => false
  | .stD o i e, .Assign ts v _ => match tgSub ts with
    | some (x, y) => noSlice y && noComp v && chkE T N sc o x && chkE T N sc i y && chkE T N sc e v
    | none => false
  | .exp e, .Expr v _ => noComp v && chkE T N sc e v
  | .ife c s t, .If v x y _ => chkT T N sc c v && chkS N sc s x && chkS N sc t y
  | .fr i it s, .For tg v y z _ => match tgName [tg] with
    | some (x, _) => z.isEmpty && decide (N[i]? = some x) && locB sc x && noSet v && chkI T N sc it v && chkS N sc s y
    | none => false
  | .frT is it s, .For tg v y z _ => match tgTup [tg] with
    | some es => z.isEmpty && nmsB N sc is es && noSet v && chkI T N sc it v && chkS N sc s y
    | none => false
  | .whl c s, .While v y z _ => z.isEmpty && chkT T N sc c v && chkS N sc s y
  | .ret e, .Return (some v) _ => chkE T N sc e v
  | .retN, .Return none _ => true
  | .pass, .Pass _ => true
  | .tryK b x tb i h, s => match tryOf s with
    | some (body, z, n, hn, en) => decide (z = x) && glB sc z && nmB z && decide (x ∈ T.cls) && subB T x tb && decide (N[i]? = some n) && decide (sc.names.lookup n = some .local) && nmB n && decide (N[h]? = some hn) && locB sc hn && decide (en = n) && decide (i ≠ h) && chkS N sc b body
    | none => false
  | .rais c, .Raise e z _ => decide (excOf e z = some c) && decide (c ∈ T.exc) && glB sc c && nmB c
  | _, _ => false
def chkS (N : List Str) (sc : Scope) : ST → List Stmt → Bool
  | .nil, [] => true
  | .seq a b, s :: r => chk1 N sc a s && chkS N sc b r
  | _, _ => false
end
end
end ML

/-! What the small language says of an expression is what the model does. -/
namespace ML
open PySem PySem.Spec PyProof.Rows L2

/-! ### written dicts -/
/-- what a written dict has at a key -/
def KvOk (r : Option Value) : Option Key → Prop
  | some k => ∃ u, r = some u ∧ RelV (kV k) u
  | none => r = none
def DctAt (K : PySem.W.Frag) (wd : World) (mg : Str → Option Value) (x : Str) (kvs : List (Str × Key)) : Prop :=
  ∃ (p : Addr) (es : Array DictEntry) (n : Nat), mg x = some (.ref p) ∧ KDict K wd p es n ∧ ∀ z, ∃ r, PySem.W.nsIn K p z = some r ∧ KvOk r (kvs.lookup z)
/-! ### error classes -/
/-- what a class's name holds -/
def NameIs (mg : Str → Option Value) (x : Str) (u : Value) : Prop := mg x = some u ∨ (mg x = none ∧ bootBuiltins x = some u)
def ClsAt (mg : Str → Option Value) (x : Str) : Prop := ∃ v u, ClsV v u ∧ NameIs mg x u
def SubAt (K : PySem.W.Frag) (mg : Str → Option Value) (C : Addr) (x : Str) (b : Bool) : Prop := ExcC K C ∧ ∀ u, NameIs mg x u → PySem.W.kitOne K (.ref C) u = some b ∧ PySem.W.exmOne K (.ref C) u = some b
/-! ### the readings -/
def Ew (w : Wd) (W : WX) (σ : L2.St) : Str → Hp → Prop := fun c H' => ∀ C, w.cl c = some C → W (.ref C) none σ H'
def liftE (w : Wd) (f : Env → M D) (W : WX) : TE := fun σ H Q => ∃ g S env, Ok w g S H ∧ REnv w g env σ ∧ Pst w g (Ew w W σ) Q (f env S)
def liftA (w : Wd) (f : Env → M (List D)) (W : WX) : TA := fun σ H Q => ∃ g S env, Ok w g S H ∧ REnv w g env σ ∧ PstA w g (Ew w W σ) Q (f env S)
def liftT (w : Wd) (f : Env → M Bool) (W : WX) : TT := fun σ H Q => ∃ g S env, Ok w g S H ∧ REnv w g env σ ∧ PstT w g (Ew w W σ) Q (f env S)
/-- an iterator that gives what src gives -/
def ItOk (w : Wd) (g : Gh) (src : Src) (J : It) : Prop := ∀ g' S' H', g.Le g' → Ok w g' S' H' → ∀ (i : Nat),
  (∀ d, src.get S' i = some d → J.go i H' ∧ ∀ x H'', J.yld i H' x H'' → H'' = H' ∧ Rl w g' d x) ∧ (src.num ≤ i → src.over S' = true → J.stop i H')
theorem ItOk.mono {w : Wd} {g g1 : Gh} {src : Src} {J : It} (l : g.Le g1) (h : ItOk w g src J) : ItOk w g1 src J := fun g' S' H' l' => h g' S' H' (l.trans l')
def liftI (w : Wd) (f : Env → M Src) (W : WX) : TI := fun σ H R => ∃ g S env, Ok w g S H ∧ REnv w g env σ ∧ Pg w g (Ew w W σ) (fun src g' H' => ∀ J, ItOk w g' src J → R J H') (f env S)

section
variable {w : Wd} {W : WX} {σ : L2.St} {g : Gh} {S : Store} {H : Hp} {env : Env}
theorem Pg.imp {α : Type} {E : Str → Hp → Prop} {R R' : α → Gh → Hp → Prop} (h : ∀ a g' H', g.Le g' → R a g' H' → R' a g' H') : ∀ {r : Rs α}, Pg w g E R r → Pg w g E R' r
  | .ok _ _, p => fun g' H' l k => h _ _ _ l (p g' H' l k)
  | .exc _ _, p => p
  | .bad, p => p
theorem liftE_mono {f : Env → M D} {Q Q' : VK} (h : ∀ x H1, Q x H1 → Q' x H1) (q : liftE w f W σ H Q) : liftE w f W σ H Q' := by
  obtain ⟨g, S, env, ok, re, p⟩ := q
  exact ⟨g, S, env, ok, re, p.imp fun d g' H' _ z v r => h _ _ (z v r)⟩
theorem liftA_mono {f : Env → M (List D)} {Q Q' : List V → Hp → Prop} (h : ∀ x H1, Q x H1 → Q' x H1) (q : liftA w f W σ H Q) : liftA w f W σ H Q' := by
  obtain ⟨g, S, env, ok, re, p⟩ := q
  exact ⟨g, S, env, ok, re, p.imp fun d g' H' _ z v r => h _ _ (z v r)⟩
theorem liftT_mono {f : Env → M Bool} {Q Q' : Bool → Hp → Prop} (h : ∀ x H1, Q x H1 → Q' x H1) (q : liftT w f W σ H Q) : liftT w f W σ H Q' := by
  obtain ⟨g, S, env, ok, re, p⟩ := q
  exact ⟨g, S, env, ok, re, p.imp fun d g' H' _ z => h _ _ z⟩
theorem liftI_mono {f : Env → M Src} {Q Q' : It → Hp → Prop} (h : ∀ x H1, Q x H1 → Q' x H1) (q : liftI w f W σ H Q) : liftI w f W σ H Q' := by
  obtain ⟨g, S, env, ok, re, p⟩ := q
  exact ⟨g, S, env, ok, re, p.imp fun d g' H' _ z v r => h _ _ (z v r)⟩
/-- a part, then the rest -/
theorem bE {β : Type} {f : Env → M D} {k : D → M β} {R : β → Gh → Hp → Prop} (ok : Ok w g S H) (re : REnv w g env σ) (p : Pg w g (Ew w W σ) R ((f env).bind k S)) :
    liftE w f W σ H (fun x H1 => ∃ g1 S1 d, g.Le g1 ∧ Ok w g1 S1 H1 ∧ Rl w g1 d x ∧ Pg w g1 (Ew w W σ) R (k d S1)) := by
  refine ⟨g, S, env, ok, re, ?_⟩
  unfold M.bind at p
  cases q : f env S with
  | ok d S1 => rw [q] at p; exact fun g1 H1 l k1 v r => ⟨g1, S1, d, l, k1, r, p.mono l⟩
  | exc c S1 => rw [q] at p; exact p
  | bad => rw [q] at p; exact p
theorem bA {β : Type} {f : Env → M (List D)} {k : List D → M β} {R : β → Gh → Hp → Prop} (ok : Ok w g S H) (re : REnv w g env σ) (p : Pg w g (Ew w W σ) R ((f env).bind k S)) :
    liftA w f W σ H (fun x H1 => ∃ g1 S1 d, g.Le g1 ∧ Ok w g1 S1 H1 ∧ Rls w g1 d x ∧ Pg w g1 (Ew w W σ) R (k d S1)) := by
  refine ⟨g, S, env, ok, re, ?_⟩
  unfold M.bind at p
  cases q : f env S with
  | ok d S1 => rw [q] at p; exact fun g1 H1 l k1 v r => ⟨g1, S1, d, l, k1, r, p.mono l⟩
  | exc c S1 => rw [q] at p; exact p
  | bad => rw [q] at p; exact p
theorem bT {β : Type} {f : Env → M Bool} {k : Bool → M β} {R : β → Gh → Hp → Prop} (ok : Ok w g S H) (re : REnv w g env σ) (p : Pg w g (Ew w W σ) R ((f env).bind k S)) :
    liftT w f W σ H (fun b H1 => ∃ g1 S1, g.Le g1 ∧ Ok w g1 S1 H1 ∧ Pg w g1 (Ew w W σ) R (k b S1)) := by
  refine ⟨g, S, env, ok, re, ?_⟩
  unfold M.bind at p
  cases q : f env S with
  | ok d S1 => rw [q] at p; exact fun g1 H1 l k1 => ⟨g1, S1, l, k1, p.mono l⟩
  | exc c S1 => rw [q] at p; exact p
  | bad => rw [q] at p; exact p
theorem bI {β : Type} {f : Env → M Src} {k : Src → M β} {R : β → Gh → Hp → Prop} (ok : Ok w g S H) (re : REnv w g env σ) (p : Pg w g (Ew w W σ) R ((f env).bind k S)) :
    liftI w f W σ H (fun J H1 => ∃ g1 S1 src, g.Le g1 ∧ Ok w g1 S1 H1 ∧ ItOk w g1 src J ∧ Pg w g1 (Ew w W σ) R (k src S1)) := by
  refine ⟨g, S, env, ok, re, ?_⟩
  unfold M.bind at p
  cases q : f env S with
  | ok d S1 => rw [q] at p; exact fun g1 H1 l k1 J r => ⟨g1, S1, d, l, k1, r, p.mono l⟩
  | exc c S1 => rw [q] at p; exact p
  | bad => rw [q] at p; exact p
/-- what raises nothing -/
theorem noX {E E' : Str → Hp → Prop} {m : Bool} {Q : VK} {o : Option PR} (p : Pst w g E Q (finO m o S)) : Pst w g E' Q (finO m o S) := by
  cases o with
  | none => exact p
  | some r =>
    cases r with
    | val d => exact p
    | newt d => exact p
    | newl d => cases m <;> exact p
theorem noX1 {E E' : Str → Hp → Prop} {m : Bool} {Q : VK} {r : PR} (p : Pst w g E Q (fin m r S)) : Pst w g E' Q (fin m r S) := noX (o := some r) p
def NoExc {α : Type} (r : Rs α) : Prop := ∀ c S, r ≠ .exc c S
theorem Pg.noexc {α : Type} {E E' : Str → Hp → Prop} {R : α → Gh → Hp → Prop} : ∀ {r : Rs α}, NoExc r → Pg w g E R r → Pg w g E' R r
  | .ok _ _, _, p => p
  | .exc c S, h, _ => absurd rfl (h c S)
  | .bad, _, p => p
theorem ne_app (d x : D) (S : Store) : NoExc (appM d x S) := by
  intro c S' h
  unfold appM at h
  split at h
  · split at h
    · split at h <;> cases h
    · cases h
  · cases h
theorem ne_ext (d x : D) (S : Store) : NoExc (extM d x S) := by
  intro c S' h
  unfold extM at h
  split at h
  · split at h
    · split at h
      · split at h <;> cases h
      · cases h
    · cases h
  · cases h
theorem noXm {E E' : Str → Hp → Prop} {m : Bool} {Q : VK} {f : Mf} {d : D} {ds : List D} (p : Pst w g E Q (mfM m f d ds S)) : Pst w g E' Q (mfM m f d ds S) := by
  cases f with
  | append =>
    match ds, p with
    | [], p => exact p.elim
    | [x], p => exact Pg.noexc (ne_app d x S) p
    | _ :: _ :: _, p => exact p.elim
  | extend =>
    match ds, p with
    | [], p => exact p.elim
    | [x], p => exact Pg.noexc (ne_ext d x S) p
    | _ :: _ :: _, p => exact p.elim
  | _ => exact noX (E' := E') p
end

theorem _root_.L2.PE.imp {X : Cx} {e : Expr} {t t' : TE} (h : ∀ σ H Q, t' σ H Q → t σ H Q) (p : PE X e t) : PE X e t' := ⟨fun pins s σ H Q I q => p.run pins s σ H Q I (h σ H Q q)⟩
theorem _root_.L2.PT.imp {X : Cx} {e : Expr} {t t' : TT} (h : ∀ σ H Q, t' σ H Q → t σ H Q) (p : PT X e t) : PT X e t' := ⟨fun pins s σ H Q I q => p.run pins s σ H Q I (h σ H Q q)⟩
theorem _root_.L2.PW.imp {X : Cx} {e : Expr} {t t' : TT} (h : ∀ σ H Q, t' σ H Q → t σ H Q) (p : PW X e t) : PW X e t' := ⟨fun wh pins s σ H Q I q => p.run wh pins s σ H Q I (h σ H Q q)⟩
theorem _root_.L2.PA.imp {X : Cx} {e : List Expr} {t t' : TA} (h : ∀ σ H Q, t' σ H Q → t σ H Q) (p : PA X e t) : PA X e t' := ⟨fun pos pins s σ H Q I q => p.run pos pins s σ H Q I (h σ H Q q)⟩
theorem _root_.L2.PI.imp {X : Cx} {tg e : Expr} {t t' : TI} (h : ∀ σ H Q, t' σ H Q → t σ H Q) (p : PI X tg e t) : PI X tg e t' := ⟨fun pins s σ H Q I q => p.run pins s σ H Q I (h σ H Q q)⟩

/-! ### the context -/
def gvs (T : Tab) : List D := T.cst.map (·.2)
def spF (T : Tab) (w : Wd) (n k : Nat) : Sp := fun vs H Q Ex => ∃ g S ds, Ok w g S H ∧ Rls w g ds vs ∧ (∃ f, T.fns[k]? = some f ∧ ds.length = f.ps.length) ∧ Pst w g (fun c H' => ∀ C, w.cl c = some C → Ex (.ref C) none H') Q (sem T n k ds S)
structure Good (T : Tab) (w : Wd) (n : Nat) (N : List Str) (sc : Scope) (W : WX) (X : Cx) : Prop where
  hN : X.N = N
  nd : N.Nodup
  hs : X.env.scope = sc
  hw : X.K = w.K
  calm : X.calm = true
  room : Room (2 * n + 1) X.A
  tk : Takes X W
  cst : ∀ (k : Nat) (x : Str) (d : D), T.cst[k]? = some (x, d) → ∃ u v, X.mg x = some u ∧ RelV v u ∧ ∀ g, Rl w g d v
  blt : ∀ x, x ∈ T.blt → X.mg x = none
  dct : ∀ x kvs, (x, kvs) ∈ T.dct → DctAt X.K X.w X.mg x kvs
  cls : ∀ x, x ∈ T.cls → ClsAt X.mg x
  sub : ∀ c x b, ((c, x), b) ∈ T.sub → ∃ C, w.cl c = some C ∧ SubAt X.K X.mg C x b
  fn : ∀ (k : Nat) (f : Fn), T.fns[k]? = some f → f.own = false → ∃ a fd, X.mg f.name = some (.ref a) ∧ PySem.W.keepIn X.K (.ref a) = true ∧ Binds X.K fd f.ps [] ∧ FnOk X.prog X.w X.K X.mg X.base (L2.CX X.prog X.w) (2 * n) a fd f.ps (spF T w n k)
  nof : ∀ c f, (c, f) ∈ T.nof → ∃ C, w.cl c = some C ∧ Cls X.K C ∧ NoAttr X.K C f
  mth : ∀ c m k, ((c, m), k) ∈ T.mth → ∃ C a fd f, w.cl c = some C ∧ Cls X.K C ∧ Meth X.K C m a ∧ T.fns[k]? = some f ∧ Binds X.K fd f.ps [] ∧ FnOk X.prog X.w X.K X.mg X.base (L2.CX X.prog X.w) (2 * n) a fd f.ps (spF T w n k)
  mks : ∀ c k, (c, k) ∈ T.mks → ∃ C a fd f, w.cl c = some C ∧ X.mg c = some (.ref C) ∧ Mk X.K C a ∧ T.fns[k]? = some f ∧ Binds X.K fd f.ps [] ∧ FnOk X.prog X.w X.K X.mg X.base (L2.CX X.prog X.w) (2 * n) a fd f.ps (spF T w n k)
section
variable {T : Tab} {w : Wd} {n : Nat} {N : List Str} {sc : Scope} {W : WX} {X : Cx}
theorem Good.vis (G : Good T w n N sc W X) {x : Str} (h : visB sc x = true) : Vis X.env.scope x := by
  rw [G.hs]
  unfold visB at h
  split at h
  · exact .inl (by assumption)
  · exact .inr (.inl (by assumption))
  · exact .inr (.inr (by assumption))
  · cases h
theorem Good.loc (G : Good T w n N sc W X) {x : Str} (h : locB sc x = true) : Loc X.env.scope x := by
  rw [G.hs]
  unfold locB at h
  split at h
  · exact .inl (by assumption)
  · exact .inr (by assumption)
  · cases h
theorem Good.gl (G : Good T w n N sc W X) {x : Str} (h : glB sc x = true) : Gl X x := by
  show X.env.scope.names.lookup x = some .globalImplicit
  rw [G.hs]
  unfold glB at h
  split at h
  · assumption
  · cases h
theorem nm1 {x : Str} (h : nmB x = true) : (x == ("__debug__" : Str)) = false ∧ (x == ("__classdict__" : Str)) = false ∧ x ≠ ("__name__" : Str) := by
  unfold nmB at h
  simp only [Bool.and_eq_true, Bool.not_eq_true', decide_eq_false_iff_not] at h
  exact ⟨h.1.1, h.1.2, h.2⟩
theorem star1 {x : Expr} (h : noStar x = true) (xs : List Expr) (env : PySem.Env) : starEach (x :: xs) env = (false, eval x env) :: starEach xs env := by
  cases x <;> first | rfl | cases h
theorem sup1 {x : Expr} (h : noSup x = true) (m : Str) (env : PySem.Env) : attributeBase x m env (eval x env) = eval x env := by
  unfold attributeBase
  split
  · cases h
  · rfl
theorem set1 {op : CmpOp} {y : Expr} (h : noSet y = true) : behindInMarks op y = false := by
  cases y <;> first | rfl | cases h
theorem slice1 {y : Expr} (h : noSlice y = true) : PlainIx y := by
  intro o i
  cases y <;> first | rfl | cases h
theorem plain1 {y : Expr} (h : plainT y = true) (env : PySem.Env) : ∀ whole, isTrue y env whole = (do let v ← whole; standAt y.pos; holding [v] (truthy v)) := by
  intro whole
  cases y <;> first | rfl | cases h
theorem backs {es : List Expr} {e : E} {T : Tab} {N : List Str} {sc : Scope} (pos : Pos) (env : PySem.Env) (h : chkA T N sc e es = true) : (backTo pos (starEach es env)).any (·.1) = false := by
  induction es generalizing e with
  | nil => rfl
  | cons x xs ih =>
    cases e with
    | cons a b =>
      have h' : (noStar x && chkE T N sc a x && chkA T N sc b xs) = true := h
      simp only [Bool.and_eq_true] at h'
      rw [star1 h'.1.1]
      show ((false || (backTo pos (starEach xs env)).any (·.1)) = false)
      rw [ih h'.2]
      rfl
    | _ => exact absurd h Bool.false_ne_true
theorem wipe_rel {g : Gh} {env : Env} {σ : L2.St} (re : REnv w g env σ) : ∀ vs : List Nat, REnv w g (wipeE env vs) (L2.wipe σ vs)
  | [] => re
  | v :: vs => by
    have ih := wipe_rel re vs
    refine ⟨by show ((wipeE env vs).set v none).length = ((L2.wipe σ vs).set v none).length; rw [List.length_set, List.length_set]; exact ih.len, fun i d e => ?_⟩
    have e' : ((wipeE env vs).set v none)[i]? = some (some d) := e
    show ∃ u : V, ((L2.wipe σ vs).set v none)[i]? = some (some u) ∧ _
    by_cases c : v = i
    · subst c
      rw [List.getElem?_set] at e'
      rw [if_pos rfl] at e'
      split at e' <;> cases e'
    · rw [List.getElem?_set_ne c] at e' ⊢
      exact ih.get i d e'
theorem wipe_set {σ : L2.St} {i : Nat} {v : Option V} : ∀ {vs : List Nat}, i ∈ vs → L2.wipe (σ.set i v) vs = L2.wipe σ vs
  | [], h => by cases h
  | u :: vs, h => by
    show (L2.wipe (σ.set i v) vs).set u none = (L2.wipe σ vs).set u none
    by_cases c : i ∈ vs
    · rw [wipe_set c]
    · have e : i = u := by
        rcases List.mem_cons.mp h with h | h
        · exact h
        · exact absurd h c
      subst e
      have comm : ∀ {ws : List Nat}, i ∉ ws → L2.wipe (σ.set i v) ws = (L2.wipe σ ws).set i v := by
        intro ws
        induction ws with
        | nil => intro _; rfl
        | cons x xs ih =>
          intro hx
          show (L2.wipe (σ.set i v) xs).set x none = ((L2.wipe σ xs).set x none).set i v
          rw [ih (fun z => hx (List.mem_cons_of_mem _ z)), List.set_comm]
          exact fun z => hx (by rw [z]; exact List.mem_cons_self)
      rw [comm c, List.set_set]
theorem wipe_idem {σ : L2.St} : ∀ (vs : List Nat), L2.wipe (L2.wipe σ vs) vs = L2.wipe σ vs := by
  intro vs
  have gen : ∀ (ws : List Nat), (∀ x ∈ ws, x ∈ vs) → L2.wipe (L2.wipe σ ws) vs = L2.wipe σ vs := by
    intro ws
    induction ws with
    | nil => intro _; rfl
    | cons x xs ih =>
      intro h
      show L2.wipe ((L2.wipe σ xs).set x none) vs = _
      rw [wipe_set (h x List.mem_cons_self)]
      exact ih fun y hy => h y (List.mem_cons_of_mem _ hy)
  exact gen vs fun x hx => hx
end
end ML

namespace ML
open PySem PySem.Spec PyProof.Rows L2

structure SAll (T : Tab) (w : Wd) (n : Nat) (e : E) : Prop where
  se : ∀ {N : List Str} {sc : Scope} {W : WX} {X : Cx} {x : Expr}, Good T w n N sc W X → chkE T N sc e x = true → PE X x (liftE w (evE (sem T n) (gvs T) e) W)
  sa : ∀ {N : List Str} {sc : Scope} {W : WX} {X : Cx} {x : List Expr}, Good T w n N sc W X → chkA T N sc e x = true → PA X x (liftA w (evA (sem T n) (gvs T) e) W)
  st : ∀ {N : List Str} {sc : Scope} {W : WX} {X : Cx} {x : Expr}, Good T w n N sc W X → chkT T N sc e x = true → PT X x (liftT w (evT (sem T n) (gvs T) e) W)
  sw : ∀ {N : List Str} {sc : Scope} {W : WX} {X : Cx} {o : BoolOp} {vs : List Expr} {pos : Pos}, Good T w n N sc W X → chkT T N sc e (.BoolOp o vs pos) = true → PW X (.BoolOp o vs pos) (liftT w (evT (sem T n) (gvs T) e) W)
  si : ∀ {N : List Str} {sc : Scope} {W : WX} {X : Cx} {x tg : Expr}, Good T w n N sc W X → chkI T N sc e x = true → PI X tg x (liftI w (evI (sem T n) (gvs T) e) W)

section
variable {T : Tab} {w : Wd} {n : Nat}
theorem SAll.ofE {e : E} (h : ∀ {N : List Str} {sc : Scope} {W : WX} {X : Cx} {x : Expr}, Good T w n N sc W X → chkE T N sc e x = true → PE X x (liftE w (evE (sem T n) (gvs T) e) W))
    (hA : ∀ (N : List Str) (sc : Scope) (x : List Expr), chkA T N sc e x = false) (hT : ∀ (N : List Str) (sc : Scope) (x : Expr), chkT T N sc e x = false) (hI : ∀ (N : List Str) (sc : Scope) (x : Expr), chkI T N sc e x = false) : SAll T w n e :=
  ⟨h, fun _ q => (Bool.false_ne_true ((hA _ _ _).symm.trans q)).elim, fun _ q => (Bool.false_ne_true ((hT _ _ _).symm.trans q)).elim, fun _ q => (Bool.false_ne_true ((hT _ _ _).symm.trans q)).elim, fun _ q => (Bool.false_ne_true ((hI _ _ _).symm.trans q)).elim⟩

theorem pe_cst {X : Cx} {W : WX} {x : Expr} {d : D} {v : V} (p : PE X x (tC v)) (r : ∀ g, Rl w g d v) : PE X x (liftE w (fun _ => M.pure d) W) :=
  p.imp fun σ H Q ⟨g, S, env, ok, re, p⟩ => p g H (Gh.Le.refl g) ok v (r g)

/-! ### leaves -/
theorem s_var (i : Nat) : SAll T w n (.var i) := by
  refine .ofE (fun {N sc W X x} G h => ?_) (fun _ _ _ => rfl) (fun _ _ _ => rfl) (fun _ _ _ => rfl)
  cases x with
  | Name y pos =>
    have h' : (decide (N[i]? = some y) && visB sc y && nmB y) = true := h
    simp only [Bool.and_eq_true, decide_eq_true_eq] at h'
    refine (pe_var (i := i) (by rw [G.hN]; exact h'.1.1) (G.vis h'.1.2) (nm1 h'.2).1 (nm1 h'.2).2.1).imp fun σ H Q ⟨g, S, env, ok, re, p⟩ => ?_
    have p' : Pst w g (Ew w W σ) Q (match env[i]? with
      | some (some d) => Rs.ok d S
      | _ => Rs.bad) := p
    split at p'
    · rename_i d hd
      obtain ⟨v, e1, r⟩ := re.get i d hd
      exact ⟨v, e1, p' g H (Gh.Le.refl g) ok v r⟩
    · exact p'.elim
  | _ => exact absurd h Bool.false_ne_true
theorem s_cI (i : Int) : SAll T w n (.cI i) := by
  refine .ofE (fun {N sc W X x} G h => ?_) (fun _ _ _ => rfl) (fun _ _ _ => rfl) (fun _ _ _ => rfl)
  cases x with
  | Constant c k pos =>
    cases c with
    | int j =>
      have h' : decide (i = j) = true := h
      obtain rfl := of_decide_eq_true h'
      exact pe_cst pe_int fun g => .int i
    | _ => exact absurd h Bool.false_ne_true
  | _ => exact absurd h Bool.false_ne_true
theorem s_cS (i : Str) : SAll T w n (.cS i) := by
  refine .ofE (fun {N sc W X x} G h => ?_) (fun _ _ _ => rfl) (fun _ _ _ => rfl) (fun _ _ _ => rfl)
  cases x with
  | Constant c k pos =>
    cases c with
    | str j =>
      have h' : decide (i = j) = true := h
      obtain rfl := of_decide_eq_true h'
      exact pe_cst pe_str fun g => .str i
    | _ => exact absurd h Bool.false_ne_true
  | _ => exact absurd h Bool.false_ne_true
theorem s_cB (i : Bool) : SAll T w n (.cB i) := by
  refine .ofE (fun {N sc W X x} G h => ?_) (fun _ _ _ => rfl) (fun _ _ _ => rfl) (fun _ _ _ => rfl)
  cases x with
  | Constant c k pos =>
    cases c with
    | bool j =>
      have h' : decide (i = j) = true := h
      obtain rfl := of_decide_eq_true h'
      exact pe_cst pe_bl fun g => .bl i
    | _ => exact absurd h Bool.false_ne_true
  | _ => exact absurd h Bool.false_ne_true
theorem s_cN : SAll T w n .cN := by
  refine .ofE (fun {N sc W X x} G h => ?_) (fun _ _ _ => rfl) (fun _ _ _ => rfl) (fun _ _ _ => rfl)
  cases x with
  | Constant c k pos =>
    cases c with
    | none => exact pe_cst pe_non fun g => .non
    | _ => exact absurd h Bool.false_ne_true
  | _ => exact absurd h Bool.false_ne_true
theorem s_glb (k : Nat) : SAll T w n (.glb k) := by
  refine .ofE (fun {N sc W X x} G h => ?_) (fun _ _ _ => rfl) (fun _ _ _ => rfl) (fun _ _ _ => rfl)
  cases x with
  | Name y pos =>
    have h' : (decide ((T.cst[k]?).map (·.1) = some y) && glB sc y && nmB y) = true := h
    simp only [Bool.and_eq_true, decide_eq_true_eq] at h'
    obtain ⟨⟨y', d⟩, e1, e2⟩ := map_some h'.1.1
    obtain rfl : y = y' := e2
    obtain ⟨u, v, m1, rv, rl⟩ := G.cst k y d e1
    refine (pe_cst (w := w) (W := W) (pe_glob (v := v) (G.gl h'.1.2) m1 rv (nm1 h'.2).1) rl).imp fun σ H Q ⟨g, S, env, ok, re, p⟩ => ⟨g, S, env, ok, re, ?_⟩
    have p' : Pst w g (Ew w W σ) Q (match (gvs T)[k]? with
      | some d => Rs.ok d S
      | none => Rs.bad) := p
    have e3 : (gvs T)[k]? = some d := by unfold gvs; rw [List.getElem?_map, e1]; rfl
    rw [e3] at p'
    exact p'
  | _ => exact absurd h Bool.false_ne_true

/-! ### operations -/
theorem s_bop {m : Bool} {op : Operator} {a b : E} (ha : SAll T w n a) (hb : SAll T w n b) : SAll T w n (.bop m op a b) := by
  refine .ofE (fun {N sc W X x} G h => ?_) (fun _ _ _ => rfl) (fun _ _ _ => rfl) (fun _ _ _ => rfl)
  cases x with
  | BinOp x o y pos =>
    have h' : (decide (op = o) && chkE T N sc a x && chkE T N sc b y) = true := h
    simp only [Bool.and_eq_true, decide_eq_true_eq] at h'
    obtain ⟨⟨rfl, h1⟩, h2⟩ := h'
    refine (pe_op (bin_ok (m := m) G.hw op) (ha.se G h1) (hb.se G h2)).imp fun σ H Q ⟨g, S, env, ok, re, p⟩ => ?_
    refine liftE_mono (fun x H1 ⟨g1, S1, d1, l1, k1, r1, p1⟩ => ?_) (bE ok re p)
    refine liftE_mono (fun y H2 ⟨g2, S2, d2, l2, k2, r2, p2⟩ => ?_) (bE k1 (re.mono l1) p1)
    exact ⟨g2, S2, d1, d2, k2, r1.mono l2, r2, noX p2⟩
  | _ => exact absurd h Bool.false_ne_true
theorem s_neg {a : E} (ha : SAll T w n a) : SAll T w n (.neg a) := by
  refine .ofE (fun {N sc W X x} G h => ?_) (fun _ _ _ => rfl) (fun _ _ _ => rfl) (fun _ _ _ => rfl)
  cases x with
  | UnaryOp o x pos =>
    cases o with
    | USub =>
      have h' : chkE T N sc a x = true := h
      refine (pe_un un_neg (ha.se G h')).imp fun σ H Q ⟨g, S, env, ok, re, p⟩ => ?_
      refine liftE_mono (fun x H1 ⟨g1, S1, d1, l1, k1, r1, p1⟩ => ?_) (bE ok re p)
      cases r1 with
      | int i => exact ⟨i, rfl, p1 g1 H1 (Gh.Le.refl g1) k1 _ (.int _)⟩
      | _ => exact p1.elim
    | _ => exact absurd h Bool.false_ne_true
  | _ => exact absurd h Bool.false_ne_true
theorem tru_some {g : Gh} {E : Str → Hp → Prop} {β : Type} {R : β → Gh → Hp → Prop} {d : D} {k : Bool → M β} {S : Store} (p : Pg w g E R ((truM d).bind k S)) : ∃ b, truP S d = some b ∧ Pg w g E R (k b S) := by
  have p' : Pg w g E R ((match truP S d with
    | some b => Rs.ok b S
    | none => Rs.bad).andThen k) := p
  cases q : truP S d with
  | none => rw [q] at p'; exact p'.elim
  | some b => rw [q] at p'; exact ⟨b, rfl, p'⟩
theorem s_nt {a : E} (ha : SAll T w n a) : SAll T w n (.nt a) := by
  refine ⟨fun {N sc W X x} G h => ?_, fun _ q => absurd q Bool.false_ne_true, fun {N sc W X x} G h => ?_, fun {N sc W X o vs pos} G h => absurd h Bool.false_ne_true, fun _ q => absurd q Bool.false_ne_true⟩
  · cases x with
    | UnaryOp o x pos =>
      cases o with
      | Not =>
        have h' : chkE T N sc a x = true := h
        refine (pe_notT (ha.se G h')).imp fun σ H Q ⟨g, S, env, ok, re, p⟩ => ?_
        refine liftE_mono (fun x H1 ⟨g1, S1, d1, l1, k1, r1, p1⟩ => ?_) (bE ok re p)
        obtain ⟨b, q, p2⟩ := tru_some p1
        exact ⟨b, by rw [G.hw]; exact tru_rl k1 r1 q, p2 g1 H1 (Gh.Le.refl g1) k1 _ (.bl _)⟩
      | _ => exact absurd h Bool.false_ne_true
    | _ => exact absurd h Bool.false_ne_true
  · cases x with
    | UnaryOp o x pos =>
      cases o with
      | Not =>
        have h' : chkT T N sc a x = true := h
        refine (pt_not (ha.st G h')).imp fun σ H Q ⟨g, S, env, ok, re, p⟩ => ?_
        refine liftT_mono (fun b H1 ⟨g1, S1, l1, k1, p1⟩ => ?_) (bT ok re p)
        exact p1 g1 H1 (Gh.Le.refl g1) k1
      | _ => exact absurd h Bool.false_ne_true
    | _ => exact absurd h Bool.false_ne_true
theorem cmpV {g : Gh} {E E' : Str → Hp → Prop} {m : Bool} {S : Store} {o : Option Bool} {Q : Bool → Hp → Prop} (p : Pg w g E (fun b _ H' => Q b H') (match o with
    | some b => Rs.ok b S
    | none => Rs.bad)) : Pst w g E' (fun x H' => ∃ k, x = V.bl k ∧ Q k H') (finO m (bV o) S) := by
  cases o with
  | none => exact p.elim
  | some b => exact fun g' H' l k v r => by cases r; exact ⟨b, rfl, p g' H' l k⟩
theorem s_cmp {op : CmpOp} {a b : E} (ha : SAll T w n a) (hb : SAll T w n b) : SAll T w n (.cmp op a b) := by
  refine ⟨fun {N sc W X x} G h => ?_, fun _ q => absurd q Bool.false_ne_true, fun {N sc W X x} G h => ?_, fun {N sc W X o vs pos} G h => absurd h Bool.false_ne_true, fun _ q => absurd q Bool.false_ne_true⟩
  · cases x with
    | Compare x ops ys pos =>
      match ops, ys, h with
      | [o], [y], h =>
        have h' : (decide (op = o) && noSet y && chkE T N sc a x && chkE T N sc b y) = true := h
        simp only [Bool.and_eq_true, decide_eq_true_eq] at h'
        obtain ⟨⟨⟨rfl, h0⟩, h1⟩, h2⟩ := h'
        refine (pe_cmpR (cmp_ok (m := false) G.hw G.room.units op) (ha.se G h1) (hb.se G h2) (set1 h0)).imp fun σ H Q ⟨g, S, env, ok, re, p⟩ => ?_
        refine liftE_mono (fun x H1 ⟨g1, S1, d1, l1, k1, r1, p1⟩ => ?_) (bE ok re p)
        refine liftE_mono (fun y H2 ⟨g2, S2, d2, l2, k2, r2, p2⟩ => ?_) (bE k1 (re.mono l1) p1)
        exact ⟨g2, S2, d1, d2, k2, r1.mono l2, r2, noX p2⟩
      | [], _, h => exact absurd h Bool.false_ne_true
      | [_], [], h => exact absurd h Bool.false_ne_true
      | [_], _ :: _ :: _, h => exact absurd h Bool.false_ne_true
      | _ :: _ :: _, _, h => exact absurd h Bool.false_ne_true
    | _ => exact absurd h Bool.false_ne_true
  · cases x with
    | Compare x ops ys pos =>
      match ops, ys, h with
      | [o], [y], h =>
        have h' : (decide (op = o) && noSet y && chkE T N sc a x && chkE T N sc b y) = true := h
        simp only [Bool.and_eq_true, decide_eq_true_eq] at h'
        obtain ⟨⟨⟨rfl, h0⟩, h1⟩, h2⟩ := h'
        refine (pt_cmpR (cmp_ok (m := false) G.hw G.room.units op) (ha.se G h1) (hb.se G h2) (set1 h0)).imp fun σ H Q ⟨g, S, env, ok, re, p⟩ => ?_
        refine liftE_mono (fun x H1 ⟨g1, S1, d1, l1, k1, r1, p1⟩ => ?_) (bE ok re p)
        refine liftE_mono (fun y H2 ⟨g2, S2, d2, l2, k2, r2, p2⟩ => ?_) (bE k1 (re.mono l1) p1)
        exact ⟨g2, S2, d1, d2, k2, r1.mono l2, r2, cmpV p2⟩
      | [], _, h => exact absurd h Bool.false_ne_true
      | [_], [], h => exact absurd h Bool.false_ne_true
      | [_], _ :: _ :: _, h => exact absurd h Bool.false_ne_true
      | _ :: _ :: _, _, h => exact absurd h Bool.false_ne_true
    | _ => exact absurd h Bool.false_ne_true
theorem lastM {o o' : CmpOp} {y z : Expr} (h : noSet z = true) : lastMarks [o, o'] [y, z] = false := set1 h
theorem r2_bl {g : Gh} {S : Store} {H : Hp} {d e : D} {x y : V} {op : CmpOp} {b : Bool} {Q : VK} (k : Ok w g S H) (r1 : Rl w g d x) (r2' : Rl w g e y) (q : cmpP S op d e = some b)
    (h : ∀ g' H', g.Le g' → Ok w g' S H' → Q (.bl b) H') : r2 w false (fun S d e => bV (cmpP S op d e)) x y H Q := by
  refine ⟨g, S, d, e, k, r1, r2', ?_⟩
  show Pst w g (fun _ _ => False) Q (finO false (bV (cmpP S op d e)) S)
  rw [q]
  exact fun g' H' l k' v r => by cases r; exact h g' H' l k'
theorem s_chn {op op' : CmpOp} {a b c : E} (ha : SAll T w n a) (hb : SAll T w n b) (hc : SAll T w n c) : SAll T w n (.chn op op' a b c) := by
  refine ⟨fun {N sc W X x} G h => ?_, fun _ q => absurd q Bool.false_ne_true, fun {N sc W X x} G h => ?_, fun {N sc W X o vs pos} G h => absurd h Bool.false_ne_true, fun _ q => absurd q Bool.false_ne_true⟩
  · cases x with
    | Compare x ops ys pos =>
      match ops, ys, h with
      | [o, o'], [y, z], h =>
        have h' : (decide (op = o) && decide (op' = o') && noSet z && chkE T N sc a x && chkE T N sc b y && chkE T N sc c z) = true := h
        simp only [Bool.and_eq_true, decide_eq_true_eq] at h'
        obtain ⟨⟨⟨⟨⟨rfl, rfl⟩, h0⟩, h1⟩, h2⟩, h3⟩ := h'
        refine (pe_chain (cmp_ok (m := false) G.hw G.room.units op) (cmp_ok (m := false) G.hw G.room.units op') (ha.se G h1) (hb.se G h2) (hc.se G h3) (lastM h0)).imp fun σ H Q ⟨g, S, env, ok, re, p⟩ => ?_
        refine liftE_mono (fun x H1 ⟨g1, S1, d1, l1, k1, r1, p1⟩ => ?_) (bE ok re p)
        refine liftE_mono (fun y H2 ⟨g2, S2, d2, l2, k2, r2, p2⟩ => ?_) (bE k1 (re.mono l1) p1)
        cases q : cmpP S2 op d1 d2 with
        | none => rw [q] at p2; exact p2.elim
        | some bb =>
          rw [q] at p2
          refine r2_bl k2 (r1.mono l2) r2 q fun g3 H3 l3 k3 => ⟨bb, rfl, ?_⟩
          cases bb with
          | false => exact iteF (p2 g3 H3 l3 k3 _ (.bl _))
          | true =>
            refine iteT ?_
            have p3 : Pst w g2 (Ew w W σ) Q (((evE (sem T n) (gvs T) c env).bind fun z S => finO false (bV (cmpP S op' d2 z)) S) S2) := p2
            refine liftE_mono (fun z H4 ⟨g4, S4, d4, l4, k4, r4, p4⟩ => ?_) (bE k3 (((re.mono l1).mono l2).mono l3) (p3.mono l3))
            exact ⟨g4, S4, d2, d4, k4, (r2.mono l3).mono l4, r4, noX p4⟩
      | [], _, h => exact absurd h Bool.false_ne_true
      | [_], _, h => exact absurd h Bool.false_ne_true
      | [_, _], [], h => exact absurd h Bool.false_ne_true
      | [_, _], [_], h => exact absurd h Bool.false_ne_true
      | [_, _], _ :: _ :: _ :: _, h => exact absurd h Bool.false_ne_true
      | _ :: _ :: _ :: _, _, h => exact absurd h Bool.false_ne_true
    | _ => exact absurd h Bool.false_ne_true
  · cases x with
    | Compare x ops ys pos =>
      match ops, ys, h with
      | [o, o'], [y, z], h =>
        have h' : (decide (op = o) && decide (op' = o') && noSet z && chkE T N sc a x && chkE T N sc b y && chkE T N sc c z) = true := h
        simp only [Bool.and_eq_true, decide_eq_true_eq] at h'
        obtain ⟨⟨⟨⟨⟨rfl, rfl⟩, h0⟩, h1⟩, h2⟩, h3⟩ := h'
        refine (pt_chain (cmp_ok (m := false) G.hw G.room.units op) (cmp_ok (m := false) G.hw G.room.units op') (ha.se G h1) (hb.se G h2) (hc.se G h3) (lastM h0)).imp fun σ H Q ⟨g, S, env, ok, re, p⟩ => ?_
        refine liftE_mono (fun x H1 ⟨g1, S1, d1, l1, k1, r1, p1⟩ => ?_) (bE ok re p)
        refine liftE_mono (fun y H2 ⟨g2, S2, d2, l2, k2, r2, p2⟩ => ?_) (bE k1 (re.mono l1) p1)
        cases q : cmpP S2 op d1 d2 with
        | none => rw [q] at p2; exact p2.elim
        | some bb =>
          rw [q] at p2
          refine r2_bl k2 (r1.mono l2) r2 q fun g3 H3 l3 k3 => ⟨bb, rfl, ?_⟩
          cases bb with
          | false => exact iteF ⟨false, rfl, p2 g3 H3 l3 k3⟩
          | true =>
            refine iteT ?_
            have p3 : Pg w g2 (Ew w W σ) (fun d _ H' => Q d H') (((evE (sem T n) (gvs T) c env).bind fun z S => match cmpP S op' d2 z with
              | some b => Rs.ok b S
              | none => Rs.bad) S2) := p2
            refine liftE_mono (fun z H4 ⟨g4, S4, d4, l4, k4, r4, p4⟩ => ?_) (bE k3 (((re.mono l1).mono l2).mono l3) (p3.mono l3))
            exact ⟨g4, S4, d2, d4, k4, (r2.mono l3).mono l4, r4, cmpV p4⟩
      | [], _, h => exact absurd h Bool.false_ne_true
      | [_], _, h => exact absurd h Bool.false_ne_true
      | [_, _], [], h => exact absurd h Bool.false_ne_true
      | [_, _], [_], h => exact absurd h Bool.false_ne_true
      | [_, _], _ :: _ :: _ :: _, h => exact absurd h Bool.false_ne_true
      | _ :: _ :: _ :: _, _, h => exact absurd h Bool.false_ne_true
    | _ => exact absurd h Bool.false_ne_true

/-! ### and, or, if -/
theorem s_one {a : E} (ha : SAll T w n a) : SAll T w n (.one a) := by
  have W' : ∀ {N : List Str} {sc : Scope} {W : WX} {X : Cx} {o : BoolOp} {vs : List Expr} {pos : Pos}, Good T w n N sc W X → chkT T N sc (.one a) (.BoolOp o vs pos) = true → PW X (.BoolOp o vs pos) (liftT w (evT (sem T n) (gvs T) (.one a)) W) := fun {N sc W X o vs pos} G h => by
    match vs, h with
    | [x], h =>
      have h' : chkT T N sc a x = true := h
      cases o with
      | And => exact (pw_and1 (ha.st G h')).imp fun σ H Q q => q
      | Or => exact (pw_or1 (ha.st G h')).imp fun σ H Q q => q
    | [], h => exact absurd h Bool.false_ne_true
    | _ :: _ :: _, h => exact absurd h Bool.false_ne_true
  refine ⟨fun {N sc W X x} G h => ?_, fun _ q => absurd q Bool.false_ne_true, fun {N sc W X x} G h => ?_, W', fun _ q => absurd q Bool.false_ne_true⟩
  · cases x with
    | BoolOp o vs pos =>
      match vs, h with
      | [x], h =>
        have h' : chkE T N sc a x = true := h
        exact (pe_one (ha.se G h')).imp fun σ H Q q => q
      | [], h => exact absurd h Bool.false_ne_true
      | _ :: _ :: _, h => exact absurd h Bool.false_ne_true
    | _ => exact absurd h Bool.false_ne_true
  · cases x with
    | BoolOp o vs pos => exact (W' G h).pt
    | _ => exact absurd h Bool.false_ne_true
theorem s_con {o : BoolOp} {a b : E} (ha : SAll T w n a) (hb : SAll T w n b) : SAll T w n (.con o a b) := by
  have W' : ∀ {N : List Str} {sc : Scope} {W : WX} {X : Cx} {o' : BoolOp} {vs : List Expr} {pos : Pos}, Good T w n N sc W X → chkT T N sc (.con o a b) (.BoolOp o' vs pos) = true → PW X (.BoolOp o' vs pos) (liftT w (evT (sem T n) (gvs T) (.con o a b)) W) := fun {N sc W X o' vs pos} G h => by
    match vs, h with
    | x :: y :: r, h =>
      have h' : (decide (o = o') && chkT T N sc a x && chkT T N sc b (.BoolOp o' (y :: r) pos)) = true := h
      simp only [Bool.and_eq_true, decide_eq_true_eq] at h'
      obtain ⟨⟨rfl, h1⟩, h2⟩ := h'
      cases o with
      | And =>
        refine (pw_and (ha.st G h1) (hb.sw G h2)).imp fun σ H Q ⟨g, S, env, ok, re, p⟩ => ?_
        refine liftT_mono (fun t H1 ⟨g1, S1, l1, k1, p1⟩ => ?_) (bT ok re p)
        cases t with
        | true => exact iteT ⟨g1, S1, env, k1, re.mono l1, p1⟩
        | false => exact iteF (p1 g1 H1 (Gh.Le.refl g1) k1)
      | Or =>
        refine (pw_or (ha.st G h1) (hb.sw G h2)).imp fun σ H Q ⟨g, S, env, ok, re, p⟩ => ?_
        refine liftT_mono (fun t H1 ⟨g1, S1, l1, k1, p1⟩ => ?_) (bT ok re p)
        cases t with
        | true => exact iteT (p1 g1 H1 (Gh.Le.refl g1) k1)
        | false => exact iteF ⟨g1, S1, env, k1, re.mono l1, p1⟩
    | [], h => exact absurd h Bool.false_ne_true
    | [_], h => exact absurd h Bool.false_ne_true
  refine ⟨fun {N sc W X x} G h => ?_, fun _ q => absurd q Bool.false_ne_true, fun {N sc W X x} G h => ?_, W', fun _ q => absurd q Bool.false_ne_true⟩
  · cases x with
    | BoolOp o' vs pos =>
      match vs, h with
      | x :: y :: r, h =>
        have h' : (decide (o = o') && chkE T N sc a x && chkE T N sc b (.BoolOp o' (y :: r) pos)) = true := h
        simp only [Bool.and_eq_true, decide_eq_true_eq] at h'
        obtain ⟨⟨rfl, h1⟩, h2⟩ := h'
        cases o with
        | And =>
          refine (pe_andT (ha.se G h1) (hb.se G h2)).imp fun σ H Q ⟨g, S, env, ok, re, p⟩ => ?_
          refine liftE_mono (fun x H1 ⟨g1, S1, d1, l1, k1, r1, p1⟩ => ?_) (bE ok re p)
          obtain ⟨t, q, p2⟩ := tru_some p1
          refine ⟨t, by rw [G.hw]; exact tru_rl k1 r1 q, ?_⟩
          cases t with
          | true => exact iteT ⟨g1, S1, env, k1, re.mono l1, p2⟩
          | false => exact iteF (p2 g1 H1 (Gh.Le.refl g1) k1 _ r1)
        | Or =>
          refine (pe_orT (ha.se G h1) (hb.se G h2)).imp fun σ H Q ⟨g, S, env, ok, re, p⟩ => ?_
          refine liftE_mono (fun x H1 ⟨g1, S1, d1, l1, k1, r1, p1⟩ => ?_) (bE ok re p)
          obtain ⟨t, q, p2⟩ := tru_some p1
          refine ⟨t, by rw [G.hw]; exact tru_rl k1 r1 q, ?_⟩
          cases t with
          | true => exact iteT (p2 g1 H1 (Gh.Le.refl g1) k1 _ r1)
          | false => exact iteF ⟨g1, S1, env, k1, re.mono l1, p2⟩
      | [], h => exact absurd h Bool.false_ne_true
      | [_], h => exact absurd h Bool.false_ne_true
    | _ => exact absurd h Bool.false_ne_true
  · cases x with
    | BoolOp o vs pos => exact (W' G h).pt
    | _ => exact absurd h Bool.false_ne_true
theorem s_tru {a : E} (ha : SAll T w n a) : SAll T w n (.tru a) := by
  refine ⟨fun _ q => absurd q Bool.false_ne_true, fun _ q => absurd q Bool.false_ne_true, fun {N sc W X x} G h => ?_, fun {N sc W X o vs pos} G h => ?_, fun _ q => absurd q Bool.false_ne_true⟩
  · have h' : (plainT x && chkE T N sc a x) = true := h
    simp only [Bool.and_eq_true] at h'
    refine (pt_truth (ha.se G h'.2) (plain1 h'.1 _)).imp fun σ H Q ⟨g, S, env, ok, re, p⟩ => ?_
    refine liftE_mono (fun x H1 ⟨g1, S1, d1, l1, k1, r1, p1⟩ => ?_) (bE ok re p)
    have p2 : Pg w g1 (Ew w W σ) (fun d _ H' => Q d H') (match truP S1 d1 with
      | some b => Rs.ok b S1
      | none => Rs.bad) := p1
    cases q : truP S1 d1 with
    | none => rw [q] at p2; exact p2.elim
    | some b => rw [q] at p2; exact ⟨b, by rw [G.hw]; exact tru_rl k1 r1 q, p2 g1 H1 (Gh.Le.refl g1) k1⟩
  · have h' : (plainT (.BoolOp o vs pos) && chkE T N sc a (.BoolOp o vs pos)) = true := h
    simp only [Bool.and_eq_true] at h'
    exact absurd h'.1 Bool.false_ne_true
theorem s_ite {c a b : E} (hc : SAll T w n c) (ha : SAll T w n a) (hb : SAll T w n b) : SAll T w n (.ite c a b) := by
  refine .ofE (fun {N sc W X x} G h => ?_) (fun _ _ _ => rfl) (fun _ _ _ => rfl) (fun _ _ _ => rfl)
  cases x with
  | IfExp t x y pos =>
    have h' : (chkT T N sc c t && chkE T N sc a x && chkE T N sc b y) = true := h
    simp only [Bool.and_eq_true] at h'
    refine (pe_ifExp (hc.st G h'.1.1) (ha.se G h'.1.2) (hb.se G h'.2)).imp fun σ H Q ⟨g, S, env, ok, re, p⟩ => ?_
    refine liftT_mono (fun t H1 ⟨g1, S1, l1, k1, p1⟩ => ?_) (bT ok re p)
    cases t with
    | true => exact iteT ⟨g1, S1, env, k1, re.mono l1, p1⟩
    | false => exact iteF ⟨g1, S1, env, k1, re.mono l1, p1⟩
  | _ => exact absurd h Bool.false_ne_true

/-! ### lists of expressions, displays -/
theorem s_nil : SAll T w n .nil := by
  refine ⟨fun _ q => absurd q Bool.false_ne_true, fun {N sc W X x} G h => ?_, fun _ q => absurd q Bool.false_ne_true, fun _ q => absurd q Bool.false_ne_true, fun _ q => absurd q Bool.false_ne_true⟩
  cases x with
  | nil => exact pa_nil.imp fun σ H Q ⟨g, S, env, ok, re, p⟩ => p g H (Gh.Le.refl g) ok _ .nil
  | cons _ _ => exact absurd h Bool.false_ne_true
theorem s_cons {a b : E} (ha : SAll T w n a) (hb : SAll T w n b) : SAll T w n (.cons a b) := by
  refine ⟨fun _ q => absurd q Bool.false_ne_true, fun {N sc W X x} G h => ?_, fun _ q => absurd q Bool.false_ne_true, fun _ q => absurd q Bool.false_ne_true, fun _ q => absurd q Bool.false_ne_true⟩
  cases x with
  | nil => exact absurd h Bool.false_ne_true
  | cons x xs =>
    have h' : (noStar x && chkE T N sc a x && chkA T N sc b xs) = true := h
    simp only [Bool.and_eq_true] at h'
    refine (pa_cons (ha.se G h'.1.2) (hb.sa G h'.2) (star1 h'.1.1 _ _)).imp fun σ H Q ⟨g, S, env, ok, re, p⟩ => ?_
    refine liftE_mono (fun x H1 ⟨g1, S1, d1, l1, k1, r1, p1⟩ => ?_) (bE ok re p)
    refine liftA_mono (fun y H2 ⟨g2, S2, d2, l2, k2, r2, p2⟩ => ?_) (bA k1 (re.mono l1) p1)
    exact p2 g2 H2 (Gh.Le.refl g2) k2 _ (.cons (r1.mono l2) r2)
theorem s_tup {es : E} (h1 : SAll T w n es) : SAll T w n (.tup es) := by
  refine .ofE (fun {N sc W X x} G h => ?_) (fun _ _ _ => rfl) (fun _ _ _ => rfl) (fun _ _ _ => rfl)
  cases x with
  | Tuple xs k pos =>
    have h' : chkA T N sc es xs = true := h
    refine (pe_tup (h1.sa G h')).imp fun σ H Q ⟨g, S, env, ok, re, p⟩ => ?_
    refine liftA_mono (fun y H2 ⟨g2, S2, d2, l2, k2, r2, p2⟩ => ?_) (bA ok re p)
    split at p2
    · rename_i hl
      exact ⟨by rw [← r2.length]; exact nMax_le hl, fin_newt (m := false) p2 k2 r2⟩
    · exact p2.elim
  | _ => exact absurd h Bool.false_ne_true
theorem s_lst {m : Bool} {es : E} (h1 : SAll T w n es) : SAll T w n (.lst m es) := by
  refine .ofE (fun {N sc W X x} G h => ?_) (fun _ _ _ => rfl) (fun _ _ _ => rfl) (fun _ _ _ => rfl)
  cases x with
  | List xs pos =>
    have h' : chkA T N sc es xs = true := h
    refine (pe_lst (h1.sa G h')).imp fun σ H Q ⟨g, S, env, ok, re, p⟩ => ?_
    refine liftA_mono (fun y H2 ⟨g2, S2, d2, l2, k2, r2, p2⟩ => ?_) (bA ok re p)
    split at p2
    · rename_i hl
      exact ⟨by rw [← r2.length]; exact nMax_le hl, fin_newl p2 k2 r2⟩
    · exact p2.elim
  | _ => exact absurd h Bool.false_ne_true
theorem s_idx {a b : E} (ha : SAll T w n a) (hb : SAll T w n b) : SAll T w n (.idx a b) := by
  refine .ofE (fun {N sc W X x} G h => ?_) (fun _ _ _ => rfl) (fun _ _ _ => rfl) (fun _ _ _ => rfl)
  cases x with
  | Subscript x y pos =>
    have h' : (noSlice y && chkE T N sc a x && chkE T N sc b y) = true := h
    simp only [Bool.and_eq_true] at h'
    refine (pe_ix (ix_ok (m := false) G.hw) (ha.se G h'.1.2) (hb.se G h'.2) (slice1 h'.1.1)).imp fun σ H Q ⟨g, S, env, ok, re, p⟩ => ?_
    refine liftE_mono (fun x H1 ⟨g1, S1, d1, l1, k1, r1, p1⟩ => ?_) (bE ok re p)
    refine liftE_mono (fun y H2 ⟨g2, S2, d2, l2, k2, r2, p2⟩ => ?_) (bE k1 (re.mono l1) p1)
    exact ⟨g2, S2, d1, d2, k2, r1.mono l2, r2, noX p2⟩
  | _ => exact absurd h Bool.false_ne_true
/-- a slice's part -/
def liftO (w : Wd) (f : Env → M (Option Int)) (W : WX) : TO := fun σ H Q => ∃ g S env, Ok w g S H ∧ REnv w g env σ ∧ Pg w g (Ew w W σ) (fun o _ H' => Q o H') (f env S)
theorem liftO_mono {W : WX} {σ : L2.St} {H : Hp} {f : Env → M (Option Int)} {Q Q' : Option Int → Hp → Prop} (h : ∀ x H1, Q x H1 → Q' x H1) (q : liftO w f W σ H Q) : liftO w f W σ H Q' := by
  obtain ⟨g, S, env, ok, re, p⟩ := q
  exact ⟨g, S, env, ok, re, p.imp fun d g' H' _ z => h _ _ z⟩
theorem bO {W : WX} {σ : L2.St} {g : Gh} {S : Store} {H : Hp} {env : Env} {β : Type} {f : Env → M (Option Int)} {k : Option Int → M β} {R : β → Gh → Hp → Prop} (ok : Ok w g S H) (re : REnv w g env σ) (p : Pg w g (Ew w W σ) R ((f env).bind k S)) :
    liftO w f W σ H (fun b H1 => ∃ g1 S1, g.Le g1 ∧ Ok w g1 S1 H1 ∧ Pg w g1 (Ew w W σ) R (k b S1)) := by
  refine ⟨g, S, env, ok, re, ?_⟩
  unfold M.bind at p
  cases q : f env S with
  | ok d S1 => rw [q] at p; exact fun g1 H1 l k1 => ⟨g1, S1, l, k1, p.mono l⟩
  | exc c S1 => rw [q] at p; exact p
  | bad => rw [q] at p; exact p
theorem po_of {N : List Str} {sc : Scope} {W : WX} {X : Cx} {lo : E} {l : Option Expr} (h1 : SAll T w n lo) (G : Good T w n N sc W X) (h : chkOp (isOff lo) (chkE T N sc lo) l = true) : PO X l (liftO w (fun env => if isOff lo = true then M.pure none else (evE (sem T n) (gvs T) lo env).bind toInt) W) := by
  cases l with
  | none =>
    have h' : isOff lo = true := h
    refine ⟨fun pins s σ H Q I ⟨g, S, env, ok, re, p⟩ => po_none.run pins s σ H Q I ?_⟩
    simp only [h', if_true] at p
    exact p g H (Gh.Le.refl g) ok
  | some y =>
    have h' : (!isOff lo && chkE T N sc lo y) = true := h
    simp only [Bool.and_eq_true, Bool.not_eq_true'] at h'
    refine ⟨fun pins s σ H Q I ⟨g, S, env, ok, re, p⟩ => (po_some (h1.se G h'.2)).run pins s σ H Q I ?_⟩
    simp only [h'.1, Bool.false_eq_true, if_false] at p
    refine liftE_mono (fun x H1 ⟨g1, S1, d1, l1, k1, r1, p1⟩ => ?_) (bE ok re p)
    cases r1 with
    | int i => exact ⟨i, rfl, p1 g1 H1 (Gh.Le.refl g1) k1⟩
    | _ => exact p1.elim
theorem s_slc {m : Bool} {a lo hi : E} (ha : SAll T w n a) (hl : SAll T w n lo) (hh : SAll T w n hi) : SAll T w n (.slc m a lo hi) := by
  refine .ofE (fun {N sc W X x} G h => ?_) (fun _ _ _ => rfl) (fun _ _ _ => rfl) (fun _ _ _ => rfl)
  cases x with
  | Subscript x y pos =>
    cases y with
    | Slice l u st pos2 =>
      cases st with
      | none =>
        have h' : (chkE T N sc a x && chkOp (isOff lo) (chkE T N sc lo) l && chkOp (isOff hi) (chkE T N sc hi) u) = true := h
        rw [Bool.and_eq_true, Bool.and_eq_true] at h'
        refine (pe_slice (sl_ok (m := m) G.hw) (ha.se G h'.1.1) (po_of hl G h'.1.2) (po_of hh G h'.2)).imp fun σ H Q ⟨g, S, env, ok, re, p⟩ => ?_
        refine liftE_mono (fun x H1 ⟨g1, S1, d1, l1, k1, r1, p1⟩ => ?_) (bE ok re p)
        refine liftO_mono (fun o1 H2 ⟨g2, S2, l2, k2, p2⟩ => ?_) (bO (f := fun env => if isOff lo = true then M.pure none else (evE (sem T n) (gvs T) lo env).bind toInt) k1 (re.mono l1) p1)
        refine liftO_mono (fun o2 H3 ⟨g3, S3, l3, k3, p3⟩ => ?_) (bO (f := fun env => if isOff hi = true then M.pure none else (evE (sem T n) (gvs T) hi env).bind toInt) k2 ((re.mono l1).mono l2) p2)
        exact ⟨g3, S3, d1, k3, (r1.mono l2).mono l3, noX p3⟩
      | some _ => exact absurd h Bool.false_ne_true
    | _ => exact absurd h Bool.false_ne_true
  | _ => exact absurd h Bool.false_ne_true
theorem s_off : SAll T w n .off := .ofE (fun _ h => absurd h Bool.false_ne_true) (fun _ _ _ => rfl) (fun _ _ _ => rfl) (fun _ _ _ => rfl)
end
end ML

namespace ML
open PySem PySem.Spec PyProof.Rows L2
section
variable {T : Tab} {w : Wd} {n : Nat}

/-! ### calls -/
theorem pe_bf {X : Cx} {f : Bf} {r : List V → Hp → VK → Prop} {e : Expr} {es : List Expr} {t : TA} {p pos : Pos} (hc : CallR X f.val r) (hg : Gl X f.name) (hm : X.mg f.name = none) (ha : PA X (e :: es) t) (hn : f.name ≠ ("__name__" : Str)) (hdb : (f.name == ("__debug__" : Str)) = false)
    (he : starEach (e :: es) X.env = (false, eval e X.env) :: starEach es X.env) (hpl : (backTo pos (starEach es X.env)).any (·.1) = false) : PE X (.Call (.Name f.name p) (e :: es) [] pos) (tCB r t) := by
  cases f <;> first | exact pe_callB hc hg hm (Bf.boot _) ha hn hdb he hpl | exact pe_callTy hc hg hm (Bf.boot _) ha hn hdb he hpl
theorem chkA_cons {N : List Str} {sc : Scope} {es : E} {y : Expr} {ys : List Expr} (h : chkA T N sc es (y :: ys) = true) : ∃ a b, es = .cons a b ∧ noStar y = true ∧ chkE T N sc a y = true ∧ chkA T N sc b ys = true := by
  cases es with
  | cons a b =>
    have h' : (noStar y && chkE T N sc a y && chkA T N sc b ys) = true := h
    simp only [Bool.and_eq_true] at h'
    exact ⟨a, b, rfl, h'.1.1, h'.1.2, h'.2⟩
  | _ => exact absurd h Bool.false_ne_true
theorem s_blt {m : Bool} {f : Bf} {es : E} (h1 : SAll T w n es) : SAll T w n (.blt m f es) := by
  refine .ofE (fun {N sc W X x} G h => ?_) (fun _ _ _ => rfl) (fun _ _ _ => rfl) (fun _ _ _ => rfl)
  cases x with
  | Call fn xs kw pos =>
    cases fn with
    | Name x p =>
      match xs, kw, h with
      | y :: ys, [], h =>
        have h' : (decide (x = f.name) && glB sc x && nmB x && decide (x ∈ T.blt) && chkA T N sc es (y :: ys)) = true := h
        simp only [Bool.and_eq_true, decide_eq_true_eq] at h'
        obtain ⟨⟨⟨⟨rfl, h2⟩, h3⟩, h4⟩, h5⟩ := h'
        obtain ⟨a, b, rfl, c1, c2, c3⟩ := chkA_cons h5
        refine (pe_bf (bf_ok (m := m) G.hw G.calm f) (G.gl h2) (G.blt _ h4) (h1.sa G h5) (nm1 h3).2.2 (nm1 h3).1 (star1 c1 _ _) (backs pos _ c3)).imp fun σ H Q ⟨g, S, env, ok, re, p⟩ => ?_
        refine liftA_mono (fun y H2 ⟨g2, S2, d2, l2, k2, r2, p2⟩ => ?_) (bA ok re p)
        exact ⟨g2, S2, d2, k2, r2, noX p2⟩
      | [], _, h => exact absurd h Bool.false_ne_true
      | _ :: _, _ :: _, h => exact absurd h Bool.false_ne_true
    | _ => exact absurd h Bool.false_ne_true
  | _ => exact absurd h Bool.false_ne_true
theorem any_all {α : Type} {l : List (Bool × α)} (h : l.any (·.1) = false) : l.all (fun x => !x.1) = true := by
  induction l with
  | nil => rfl
  | cons a l ih =>
    rw [List.any_cons, Bool.or_eq_false_iff] at h
    rw [List.all_cons, h.1, ih h.2]
    rfl
theorem s_met {m : Bool} {f : Mf} {o es : E} (ho : SAll T w n o) (h1 : SAll T w n es) : SAll T w n (.met m f o es) := by
  refine .ofE (fun {N sc W X x} G h => ?_) (fun _ _ _ => rfl) (fun _ _ _ => rfl) (fun _ _ _ => rfl)
  cases x with
  | Call fn xs kw pos =>
    cases fn with
    | Attribute x nm apos =>
      match xs, kw, h with
      | y :: ys, [], h =>
        have h' : (decide (nm = f.name) && (apos.endLine == pos.line) && noSup x && decide (ys.length < 20) && chkE T N sc o x && chkA T N sc es (y :: ys)) = true := h
        simp only [Bool.and_eq_true, decide_eq_true_eq] at h'
        obtain ⟨⟨⟨⟨⟨rfl, h2⟩, h3⟩, h4⟩, h5⟩, h6⟩ := h'
        obtain ⟨a, b, rfl, c1, c2, c3⟩ := chkA_cons h6
        have hfew : ((backTo pos (starEach (y :: ys) X.env)).all (fun x => !x.1) && (backToKw pos (keywordEach [] X.env)).all (fun x => x.1.isSome)
            && decide ((y :: ys).length + ([] : List Keyword).length + (if ([] : List Keyword).isEmpty then 0 else 1) < 30)) = true := by
          rw [any_all (backs pos X.env h6)]
          show (true && true && decide (ys.length + 1 + 0 + 0 < 30)) = true
          rw [decide_eq_true (by omega)]
          rfl
        refine (pe_bm f.plain f.slot f.type (mf_ok (m := m) G.hw f) (ho.se G h5) (h1.sa G h6) (sup1 h3 _ _) hfew h2 (star1 c1 _ _) (backs pos _ c3)).imp fun σ H Q ⟨g, S, env, ok, re, p⟩ => ?_
        refine liftE_mono (fun x H1 ⟨g1, S1, d1, l1, k1, r1, p1⟩ => ?_) (bE ok re p)
        split at p1
        · rename_i ht
          refine ⟨by rw [G.hw]; exact isTy_ok k1 r1 ht, ?_⟩
          refine liftA_mono (fun y H2 ⟨g2, S2, d2, l2, k2, r2, p2⟩ => ?_) (bA k1 (re.mono l1) p1)
          exact ⟨g2, S2, d1, d2, k2, r1.mono l2, r2, noXm p2⟩
        · exact p1.elim
      | [], _, h => exact absurd h Bool.false_ne_true
      | _ :: _, _ :: _, h => exact absurd h Bool.false_ne_true
    | _ => exact absurd h Bool.false_ne_true
  | _ => exact absurd h Bool.false_ne_true
theorem pe_callS0 {X : Cx} {CX : CXT} {k : Nat} {f : Addr} {fd : FuncData} {ps : List Str} {sp : Sp} {E : L2.St → XK} {x : Str} {p pos : Pos} (F : FnOk X.prog X.w X.K X.mg X.base CX k f fd ps sp) (hr : Room k X.A) (hg : Gl X x) (hm : X.mg x = some (.ref f))
    (hk : PySem.W.keepIn X.K (.ref f) = true) (hb : Binds X.K fd ps []) (hx : ∀ σ, PassesAt CX X σ (E σ)) (hdb : (x == ("__debug__" : Str)) = false) : PE X (.Call (.Name x p) [] [] pos) (tCallS sp E tNil) := by
  refine ⟨fun pins s σ H Q I h => ?_⟩
  refine wpAny_Call_Name_kw (ld_glob I hg hm ?_ hdb)
  exact PySem.W.callWith_K0 I.kIn hk (run_fnS (us := []) F hr hb (hx σ) I .nil h)
theorem sem_len {k : Nat} {ds : List D} {S : Store} {g : Gh} {E : Str → Hp → Prop} {Q : VK} (p : Pst w g E Q (sem T n k ds S)) : ∃ f, T.fns[k]? = some f ∧ ds.length = f.ps.length := by
  cases n with
  | zero => exact p.elim
  | succ n =>
    have p' : Pst w g E Q (match T.fns[k]? with
      | some f => if ds.length = f.ps.length then endF (evS (sem T n) (T.cst.map (·.2)) f.body (startE f.N.length ds) S) else .bad
      | none => .bad) := p
    cases q : T.fns[k]? with
    | none => rw [q] at p'; exact p'.elim
    | some f =>
      rw [q] at p'
      simp only at p'
      split at p'
      · rename_i hl; exact ⟨f, rfl, hl⟩
      · exact p'.elim
theorem s_call {k : Nat} {es : E} (h1 : SAll T w n es) : SAll T w n (.call k es) := by
  refine .ofE (fun {N sc W X x} G h => ?_) (fun _ _ _ => rfl) (fun _ _ _ => rfl) (fun _ _ _ => rfl)
  cases x with
  | Call fn xs kw pos =>
    cases fn with
    | Name x p =>
      match kw, h with
      | [], h =>
        have h' : (decide ((T.fns[k]?).map (fun f => (f.name, f.own)) = some (x, false)) && glB sc x && nmB x && chkA T N sc es xs) = true := h
        simp only [Bool.and_eq_true, decide_eq_true_eq] at h'
        obtain ⟨⟨⟨h2, h3⟩, h4⟩, h5⟩ := h'
        obtain ⟨f, e1, e2⟩ := map_some h2
        obtain ⟨rfl, e3⟩ := Prod.mk.inj e2
        obtain ⟨a, fd, m1, kp, bd, F⟩ := G.fn k f e1 e3.symm
        cases xs with
        | nil =>
          refine (pe_callS0 (E := WE W) F (G.room.mono (Nat.le_succ _)) (G.gl h3) m1 kp bd (fun σ => passAt G.tk σ) (nm1 h4).1).imp fun σ H Q ⟨g, S, env, ok, re, p⟩ => ?_
          cases es with
          | nil => exact ⟨g, S, [], ok, .nil, sem_len p, p⟩
          | _ => exact absurd h5 Bool.false_ne_true
        | cons y ys =>
          obtain ⟨c, b, rfl, c1, c2, c3⟩ := chkA_cons h5
          refine (pe_callS (E := WE W) F (G.room.mono (Nat.le_succ _)) (G.gl h3) m1 kp bd (fun σ => passAt G.tk σ) (h1.sa G h5) (nm1 h4).1 (star1 c1 _ _) (backs pos _ c3)).imp fun σ H Q ⟨g, S, env, ok, re, p⟩ => ?_
          refine liftA_mono (fun y H2 ⟨g2, S2, d2, l2, k2, r2, p2⟩ => ?_) (bA ok re p)
          exact ⟨g2, S2, d2, k2, r2, sem_len p2, p2⟩
      | _ :: _, h => exact absurd h Bool.false_ne_true
    | _ => exact absurd h Bool.false_ne_true
  | _ => exact absurd h Bool.false_ne_true
theorem s_isT {a : E} {t : String} (ha : SAll T w n a) : SAll T w n (.isT a t) := by
  refine .ofE (fun {N sc W X x} G h => ?_) (fun _ _ _ => rfl) (fun _ _ _ => rfl) (fun _ _ _ => rfl)
  cases x with
  | Call fn xs kw pos =>
    cases fn with
    | Name x p =>
      match xs, h with
      | [], h => exact absurd h Bool.false_ne_true
      | [_], h => exact absurd h Bool.false_ne_true
      | y :: z :: rest, h =>
        cases z with
        | Name z pz =>
          cases rest with
          | nil =>
            cases kw with
            | nil =>
                have h' : (decide (x = ("isinstance" : Str)) && glB sc x && decide (x ∈ T.blt) && glB sc z && nmB z && decide (z ∈ T.blt) && decide (bootBuiltins z = some (.type t)) && noStar y && chkE T N sc a y) = true := h
                simp only [Bool.and_eq_true, decide_eq_true_eq] at h'
                obtain ⟨⟨⟨⟨⟨⟨⟨⟨rfl, h2⟩, h3⟩, h4⟩, h5⟩, h6⟩, h7⟩, h8⟩, h9⟩ := h'
                have pz : PE X (.Name z pz) (tC (.ty t)) := pe_bltn (v := .ty t) (G.gl h4) (G.blt z h6) h7 rfl (nm1 h5).2.2 (nm1 h5).1
                refine (pe_callB call_isi (G.gl h2) (G.blt _ h3) (by decide +kernel) (pa_cons (ha.se G h9) (pa_cons pz pa_nil) (star1 h8 _ _)) (by decide) (by decide) (star1 h8 _ _)).imp fun σ H Q ⟨g, S, env, ok, re, p⟩ => ?_
                refine liftE_mono (fun x H1 ⟨g1, S1, d1, l1, k1, r1, p1⟩ => ?_) (bE ok re p)
                have p2 : Pst w g1 (Ew w W σ) Q (finO false (bV ((typD S1 d1).bind (instB · t))) S1) := p1
                cases q : typD S1 d1 with
                | none => rw [q] at p2; exact p2.elim
                | some ty =>
                  rw [q] at p2
                  cases q2 : instB ty t with
                  | none =>
                    have p3 : Pst w g1 (Ew w W σ) Q (finO false (bV (instB ty t)) S1) := p2
                    rw [q2] at p3; exact p3.elim
                  | some b =>
                    have p3 : Pst w g1 (Ew w W σ) Q (finO false (bV (instB ty t)) S1) := p2
                    rw [q2] at p3
                    exact ⟨x, .ty t, .type ty, .type t, b, rfl, .ty t, by rw [G.hw]; exact typD_ok k1 r1 q, kit_ty q2, p3 g1 H1 (Gh.Le.refl g1) k1 _ (.bl _)⟩
            | cons _ _ => exact absurd h Bool.false_ne_true
          | cons _ _ => exact absurd h Bool.false_ne_true
        | _ => cases rest <;> exact absurd h Bool.false_ne_true
    | _ => exact absurd h Bool.false_ne_true
  | _ => exact absurd h Bool.false_ne_true

/-! ### what is walked -/
def iAny (K : PySem.W.Frag) (tl : TE) : TI := fun σ H R => tl σ H fun x H1 => (∃ a, x = .ref a ∧ (∃ xs, SqL K H1 a xs) ∧ R (Itl K a) H1) ∨ (∃ a, x = .ref a ∧ (∃ xs, SqT K H1 a xs) ∧ R (Itt K a) H1) ∨ ∃ z, x = .str z ∧ R (Its z) H1
theorem pi_any {X : Cx} {tg l : Expr} {tl : TE} (hl : PE X l tl) : PI X tg l (iAny X.K tl) := by
  refine ⟨fun pins s σ H R I h => ?_⟩
  refine thn (hl.run pins s σ H _ I h) fun v s1 ⟨x, H1, I1, r1, q1⟩ => ?_
  rcases q1 with ⟨a, e, ⟨xs, hq⟩, q⟩ | ⟨a, e, ⟨xs, hq⟩, q⟩ | ⟨z, e, q⟩
  · subst e
    cases r1
    obtain ⟨its, rv, p, hz⟩ := I1.list hq
    refine wpAny_pyIter_list p.isList ?_
    refine ⟨s1.heap.objs.size, [s1.heap.objs.size], _, _, H1, rfl, I1.kept (t' := s1.toks) fun b o e => Heap.get?_push_of_some _ e, turn_list a _, ⟨_, Heap.get?_push_size _ rfl, rfl, rfl⟩, fun b hb => ?_, q⟩
    have e : b = s1.heap.objs.size := by simpa using hb
    subst e
    exact I1.fpOk (Nat.le_refl _) (I1.hok.fresh (Nat.le_refl _))
  · subst e
    cases r1
    obtain ⟨its, rv, p, hz⟩ := I1.tuple hq
    refine wpAny_pyIter_tuple (show s1.heap.IsTuple a its.toArray from p) ?_
    refine ⟨s1.heap.objs.size, [s1.heap.objs.size], _, _, H1, rfl, I1.kept (t' := s1.toks) fun b o e => Heap.get?_push_of_some _ e, turn_tuple a _, ⟨_, Heap.get?_push_size _ rfl, rfl, rfl⟩, fun b hb => ?_, q⟩
    have e : b = s1.heap.objs.size := by simpa using hb
    subst e
    exact I1.fpOk (Nat.le_refl _) (I1.hok.fresh (Nat.le_refl _))
  · subst e
    obtain ⟨t, rfl⟩ := r1
    cases ha : z.cps.all (· < 128)
    · exact wpAny_pyIter_wide ha (pi_one (tk := s1.toks) I1 _ (turn_str _ z t "str_iterator" (.inr rfl)) ⟨_, Heap.get?_push_size _ rfl, rfl, rfl⟩ q)
    · exact wpAny_pyIter_ascii ha (pi_one (tk := s1.toks) I1 _ (turn_str _ z t "str_ascii_iterator" (.inl rfl)) ⟨_, Heap.get?_push_size _ rfl, rfl, rfl⟩ q)
theorem it_list {g : Gh} {a : Addr} {ds : List D} {vs : List V} (h : ∀ g' S' H', g.Le g' → Ok w g' S' H' → SqL w.K H' a vs) (r : Rls w g ds vs) : ItOk w g (.vals ds) (Itl w.K a) := by
  intro g' S' H' l k i
  have sq := h g' S' H' l k
  refine ⟨fun d e => ?_, fun hi _ => ⟨vs, sq, by rw [← r.length]; exact hi⟩⟩
  obtain ⟨v, e1, rv⟩ := (r.mono l).get e
  refine ⟨⟨vs, v, sq, e1⟩, fun x H'' ⟨e2, y⟩ => ⟨e2, ?_⟩⟩
  have e3 := y vs sq
  rw [e1] at e3
  cases e3
  exact rv
theorem it_tup {g : Gh} {a : Addr} {ds : List D} {vs : List V} (h : ∀ g' S' H', g.Le g' → Ok w g' S' H' → SqT w.K H' a vs) (r : Rls w g ds vs) : ItOk w g (.vals ds) (Itt w.K a) := by
  intro g' S' H' l k i
  have sq := h g' S' H' l k
  refine ⟨fun d e => ?_, fun hi _ => ⟨vs, sq, by rw [← r.length]; exact hi⟩⟩
  obtain ⟨v, e1, rv⟩ := (r.mono l).get e
  refine ⟨⟨vs, v, sq, e1⟩, fun x H'' ⟨e2, y⟩ => ⟨e2, ?_⟩⟩
  have e3 := y vs sq
  rw [e1] at e3
  cases e3
  exact rv
theorem it_plc {g : Gh} {m len : Nat} (hm : m < g.nx) : ItOk w g (.plc m len) (Itl w.K (g.ι m)) := by
  intro g' S' H' l k i
  have ι' := l.ι m hm
  refine ⟨fun d e => ?_, fun hi ho => ?_⟩
  · obtain ⟨xs, e1, e2⟩ := bind_some (show ((obLst (S'.ob m)).bind fun (xs : List D) => xs[i]?) = some d from e)
    obtain ⟨vs, h1, h2⟩ := k.ob m _ (obLst_some e1)
    rw [ι'] at h1
    have sq : SqL w.K H' (g.ι m) vs := .inl (.inl h1)
    obtain ⟨v, e3, rv⟩ := h2.get e2
    refine ⟨⟨vs, v, sq, e3⟩, fun x H'' ⟨e4, y⟩ => ⟨e4, ?_⟩⟩
    have e5 := y vs sq
    rw [e3] at e5
    cases e5
    exact rv
  · have ho' : (match obLst (S'.ob m) with
      | some xs => decide (xs.length ≤ len)
      | none => false) = true := ho
    cases q : obLst (S'.ob m) with
    | none => rw [q] at ho'; cases ho'
    | some xs =>
      rw [q] at ho'
      have ho2 : xs.length ≤ len := of_decide_eq_true ho'
      obtain ⟨vs, h1, h2⟩ := k.ob m _ (obLst_some q)
      rw [ι'] at h1
      refine ⟨vs, .inl (.inl h1), ?_⟩
      have hi' : len ≤ i := hi
      rw [← h2.length]
      omega
theorem it_str {g : Gh} (z : Str) : ItOk w g (.vals (signs z)) (Its z) := by
  intro g' S' H' l k i
  have hl : (signs z).length = z.cps.size := by unfold signs; rw [List.length_map, Array.length_toList]
  refine ⟨fun d e => ?_, fun hi _ => by show z.cps.size ≤ i; rw [← hl]; exact hi⟩
  have e' : (z.cps.toList.map fun c => D.str (oneStr c))[i]? = some d := e
  rw [List.getElem?_map] at e'
  obtain ⟨c, e1, e2⟩ := map_some e'
  rw [Array.getElem?_toList] at e1
  refine ⟨(Array.getElem?_eq_some_iff.mp e1).1, fun x H'' ⟨e3, c', e4, e5⟩ => ⟨e3, ?_⟩⟩
  rw [e1] at e4
  cases e4
  rw [e2, e5]
  exact .str _
theorem intL_get {lo : Int} {k i : Nat} {d : D} (e : (intL lo k)[i]? = some d) : i < k ∧ d = .int (lo + (i : Int)) := by
  unfold intL at e
  rw [List.getElem?_map] at e
  obtain ⟨j, e1, e2⟩ := map_some e
  obtain ⟨h1, h2⟩ := List.getElem?_eq_some_iff.mp e1
  simp at h1 h2
  subst h2
  exact ⟨h1, e2⟩
theorem it_rng {g : Gh} (lo : Int) (k : Nat) : ItOk w g (.vals (intL lo k)) (Itr lo k) := by
  intro g' S' H' l ok i
  refine ⟨fun d e => ?_, fun hi _ => by show k ≤ i; have h : (intL lo k).length ≤ i := hi; unfold intL at h; simpa using h⟩
  obtain ⟨h1, rfl⟩ := intL_get (show (intL lo k)[i]? = some d from e)
  exact ⟨h1, fun x H'' ⟨e3, e4⟩ => ⟨e3, by rw [e4]; exact .int _⟩⟩
theorem s_itr {a : E} (ha : SAll T w n a) : SAll T w n (.itr a) := by
  refine ⟨fun _ q => absurd q Bool.false_ne_true, fun _ q => absurd q Bool.false_ne_true, fun _ q => absurd q Bool.false_ne_true, fun _ q => absurd q Bool.false_ne_true, fun {N sc W X x tg} G h => ?_⟩
  have h' : chkE T N sc a x = true := h
  refine (pi_any (ha.se G h')).imp fun σ H R ⟨g, S, env, ok, re, p⟩ => ?_
  refine liftE_mono (fun x H1 ⟨g1, S1, d1, l1, k1, r1, p1⟩ => ?_) (bE ok re p)
  have p2 : Pg w g1 (Ew w W σ) (fun src g' H' => ∀ J, ItOk w g' src J → R J H') (match srcOf S1 d1 with
    | some s => Rs.ok s S1
    | none => Rs.bad) := p1
  rw [G.hw]
  cases r1 with
  | str z =>
    have p3 : Pg w g1 (Ew w W σ) (fun src g' H' => ∀ J, ItOk w g' src J → R J H') (match (if z.length ≤ nMax then some (Src.vals (signs z)) else none) with
      | some s => Rs.ok s S1
      | none => Rs.bad) := p2
    split at p3
    · rename_i s hs
      split at hs
      · cases hs
        exact .inr (.inr ⟨z, rfl, p3 g1 H1 (Gh.Le.refl g1) k1 _ (it_str z)⟩)
      · cases hs
    · exact p3.elim
  | @tup a vs ds s r => exact .inr (.inl ⟨a, rfl, ⟨vs, k1.sqT s⟩, p2 g1 H1 (Gh.Le.refl g1) k1 _ (it_tup (fun g' S' H' l k => k.sqT (sqT_le l.F s)) r)⟩)
  | @lst a vs ds s r => exact .inl ⟨a, rfl, ⟨vs, .inl (.inl (k1.sub _ _ s))⟩, p2 g1 H1 (Gh.Le.refl g1) k1 _ (it_list (fun g' S' H' l k => .inl (.inl (k.sub _ _ (l.F _ _ s)))) r)⟩
  | @cst a vs ds s r => exact .inl ⟨a, rfl, ⟨vs, k1.sqL s⟩, p2 g1 H1 (Gh.Le.refl g1) k1 _ (it_list (fun g' S' H' l k => k.sqL (sqL_le l.F s)) r)⟩
  | @loc m hm =>
    have p3 : Pg w g1 (Ew w W σ) (fun src g' H' => ∀ J, ItOk w g' src J → R J H') (match ((obLst (S1.ob m)).map fun xs => Src.plc m xs.length) with
      | some s => Rs.ok s S1
      | none => Rs.bad) := p2
    cases q : obLst (S1.ob m) with
    | none => rw [q] at p3; exact p3.elim
    | some xs =>
      rw [q] at p3
      obtain ⟨vs, h1, h2⟩ := k1.ob m _ (obLst_some q)
      exact .inl ⟨_, rfl, ⟨vs, .inl (.inl h1)⟩, p3 g1 H1 (Gh.Le.refl g1) k1 _ (it_plc hm)⟩
  | _ => exact p2.elim
theorem s_rng {a : E} (ha : SAll T w n a) : SAll T w n (.rng a) := by
  refine ⟨fun _ q => absurd q Bool.false_ne_true, fun _ q => absurd q Bool.false_ne_true, fun _ q => absurd q Bool.false_ne_true, fun _ q => absurd q Bool.false_ne_true, fun {N sc W X x tg} G h => ?_⟩
  cases x with
  | Call fn xs kw pos =>
    cases fn with
    | Name x p =>
      match xs, kw, h with
      | [y], [], h =>
        have h' : (decide (x = ("range" : Str)) && glB sc x && decide (x ∈ T.blt) && noStar y && chkE T N sc a y) = true := h
        simp only [Bool.and_eq_true, decide_eq_true_eq] at h'
        obtain ⟨⟨⟨⟨rfl, h2⟩, h3⟩, h4⟩, h5⟩ := h'
        refine (pi_range1 (G.gl h2) (G.blt _ h3) (pa_cons (ha.se G h5) pa_nil (star1 h4 _ _)) (star1 h4 _ _)).imp fun σ H R ⟨g, S, env, ok, re, p⟩ => ?_
        refine liftE_mono (fun x H1 ⟨g1, S1, d1, l1, k1, r1, p1⟩ => ?_) (bE ok re p)
        cases r1 with
        | int j =>
          have p2 : Pg w g1 (Ew w W σ) (fun src g' H' => ∀ J, ItOk w g' src J → R J H') ((if j ≤ (nMax : Int) ∧ -(nMax : Int) ≤ j then M.pure (Src.vals (intL 0 j.toNat)) else M.bad) S1) := p1
          split at p2
          · rename_i hb
            have e1 : (nMax : Int) = 16000000 := rfl
            exact ⟨j, rfl, by omega, by omega, p2 g1 H1 (Gh.Le.refl g1) k1 _ (it_rng _ _)⟩
          · exact p2.elim
        | _ => exact p1.elim
      | [], _, h => exact absurd h Bool.false_ne_true
      | [_], _ :: _, h => exact absurd h Bool.false_ne_true
      | _ :: _ :: _, _, h => exact absurd h Bool.false_ne_true
    | _ => exact absurd h Bool.false_ne_true
  | _ => exact absurd h Bool.false_ne_true
theorem s_rng2 {a b : E} (ha : SAll T w n a) (hb : SAll T w n b) : SAll T w n (.rng2 a b) := by
  refine ⟨fun _ q => absurd q Bool.false_ne_true, fun _ q => absurd q Bool.false_ne_true, fun _ q => absurd q Bool.false_ne_true, fun _ q => absurd q Bool.false_ne_true, fun {N sc W X x tg} G h => ?_⟩
  cases x with
  | Call fn xs kw pos =>
    cases fn with
    | Name x p =>
      match xs, kw, h with
      | [y, z], [], h =>
        have h' : (decide (x = ("range" : Str)) && glB sc x && decide (x ∈ T.blt) && noStar y && noStar z && chkE T N sc a y && chkE T N sc b z) = true := h
        simp only [Bool.and_eq_true, decide_eq_true_eq] at h'
        obtain ⟨⟨⟨⟨⟨⟨rfl, h2⟩, h3⟩, h4⟩, h5⟩, h6⟩, h7⟩ := h'
        refine (pi_range2 (G.gl h2) (G.blt _ h3) (pa_cons (ha.se G h6) (pa_cons (hb.se G h7) pa_nil (star1 h5 _ _)) (star1 h4 _ _)) (by rw [star1 h4, star1 h5]; rfl) (star1 h5 _ _)).imp fun σ H R ⟨g, S, env, ok, re, p⟩ => ?_
        refine liftE_mono (fun x H1 ⟨g1, S1, d1, l1, k1, r1, p1⟩ => ?_) (bE ok re p)
        refine liftE_mono (fun y H2 ⟨g2, S2, d2, l2, k2, r2, p2⟩ => ?_) (bE k1 (re.mono l1) p1)
        cases r1 with
        | int i =>
          cases r2 with
          | int j =>
            have p3 : Pg w g2 (Ew w W σ) (fun src g' H' => ∀ J, ItOk w g' src J → R J H') ((if (i ≤ (nMax : Int) ∧ -(nMax : Int) ≤ i) ∧ j ≤ (nMax : Int) ∧ -(nMax : Int) ≤ j then M.pure (Src.vals (intL i (j - i).toNat)) else M.bad) S2) := p2
            split at p3
            · rename_i hb
              have e1 : (nMax : Int) = 16000000 := rfl
              exact ⟨i, j, rfl, ⟨by omega, by omega, by omega, by omega⟩, p3 g2 H2 (Gh.Le.refl g2) k2 _ (it_rng _ _)⟩
            · exact p3.elim
          | _ => exact p2.elim
        | _ => cases r2 <;> exact p2.elim
      | [], _, h => exact absurd h Bool.false_ne_true
      | [_], _, h => exact absurd h Bool.false_ne_true
      | [_, _], _ :: _, h => exact absurd h Bool.false_ne_true
      | _ :: _ :: _ :: _, _, h => exact absurd h Bool.false_ne_true
    | _ => exact absurd h Bool.false_ne_true
  | _ => exact absurd h Bool.false_ne_true

/-! ### freezing -/
theorem frz_ok {g : Gh} {S : Store} {H : Hp} {E : Str → Hp → Prop} {Q : VK} {m : Nat} {xs : List D} (k : Ok w g S H) (q : obLst (S.ob m) = some xs) (p : Pst w g E Q (.ok (.lst xs) (S.del m))) : Q (.ref (g.ι m)) H := by
  obtain ⟨vs, h1, h2⟩ := k.ob m _ (obLst_some q)
  obtain ⟨le, ok'⟩ := k.frz (obLst_some q) h1
  exact p _ _ le ok' _ (.lst upd_same (h2.mono le))
theorem s_frz {a : E} (ha : SAll T w n a) : SAll T w n (.frz a) := by
  refine .ofE (fun {N sc W X x} G h => ?_) (fun _ _ _ => rfl) (fun _ _ _ => rfl) (fun _ _ _ => rfl)
  have h' : chkE T N sc a x = true := by cases x <;> exact h
  refine (ha.se G h').imp fun σ H Q ⟨g, S, env, ok, re, p⟩ => ?_
  refine liftE_mono (fun x H1 ⟨g1, S1, d1, l1, k1, r1, p1⟩ => ?_) (bE ok re p)
  cases r1 with
  | @loc m hm =>
    have p2 : Pst w g1 (Ew w W σ) Q (match obLst (S1.ob m) with
      | some xs => Rs.ok (.lst xs) (S1.del m)
      | none => Rs.bad) := p1
    cases q : obLst (S1.ob m) with
    | none => rw [q] at p2; exact p2.elim
    | some xs => rw [q] at p2; exact frz_ok k1 q p2
  | _ => exact p1.elim
end
end ML

/-! Instances of the text's own classes. -/
namespace ML
open PySem PySem.Spec PyProof.Rows L2
section
variable {w : Wd} {g : Gh}
theorem frl_len : ∀ {fs : List (Str × D)} {ps : List (Str × V)}, FRl w g fs ps → fs.length = ps.length
  | _, _, .nil => rfl
  | _, _, .cons _ t => by simp [frl_len t]
theorem frl_some {f : Str} {d : D} : ∀ {fs : List (Str × D)} {ps : List (Str × V)}, FRl w g fs ps → fs.lookup f = some d → ∃ v, ps.lookup f = some v ∧ Rl w g d v
  | _, _, .nil, e => by cases e
  | (a, x) :: fs, (b, y) :: ps, .cons r t, e => by
    obtain ⟨r1, r2⟩ := r
    have r1 : a = b := r1
    subst r1
    rw [List.lookup_cons] at e ⊢
    cases q : f == a with
    | true => rw [q] at e; cases e; exact ⟨y, rfl, r2⟩
    | false => rw [q] at e; exact frl_some t e
theorem frl_none {f : Str} : ∀ {fs : List (Str × D)} {ps : List (Str × V)}, FRl w g fs ps → fs.lookup f = none → ps.lookup f = none
  | _, _, .nil, _ => rfl
  | (a, x) :: fs, (b, y) :: ps, .cons r t, e => by
    obtain ⟨r1, r2⟩ := r
    have r1 : a = b := r1
    subst r1
    rw [List.lookup_cons] at e ⊢
    cases q : f == a with
    | true => rw [q] at e; cases e
    | false => rw [q] at e; exact frl_none t e
theorem frl_put {f : Str} {d : D} {v : V} (rv : Rl w g d v) : ∀ {fs : List (Str × D)} {ps : List (Str × V)}, FRl w g fs ps → FRl w g (putD f d fs) (putF f v ps)
  | _, _, .nil => .cons ⟨rfl, rv⟩ .nil
  | (a, x) :: fs, (b, y) :: ps, .cons r t => by
    obtain ⟨r1, r2⟩ := r
    have r1 : a = b := r1
    subst r1
    unfold putD putF
    by_cases c : a = f
    · rw [if_pos c, if_pos c]; exact .cons ⟨rfl, rv⟩ t
    · rw [if_neg c, if_neg c]; exact .cons ⟨rfl, r2⟩ (frl_put rv t)
variable {S : Store} {H : Hp}
/-- what an instance of the store is in the heap -/
theorem ins_ok {d : D} {v : V} {c : Str} {n : Nat} {fs : List (Str × D)} (k : Ok w g S H) (r : Rl w g (.loc n) v) (e : S.ob n = some (.ins c fs)) : ∃ C dx ps, v = .ref (g.ι n) ∧ w.cl c = some C ∧ H (g.ι n) = some (.ins C dx ps) ∧ FRl w g fs ps := by
  obtain ⟨C, dx, ps, e1, e2, e3⟩ := k.ob n _ e
  cases r with
  | loc h => exact ⟨C, dx, ps, rfl, e1, e2, e3⟩
end
section
variable {T : Tab} {w : Wd} {n : Nat}
theorem s_fld {a : E} {c f : Str} (ha : SAll T w n a) : SAll T w n (.fld a c f) := by
  refine .ofE (fun {N sc W X x} G h => ?_) (fun _ _ _ => rfl) (fun _ _ _ => rfl) (fun _ _ _ => rfl)
  cases x with
  | Attribute x f' pos =>
    have h' : (decide (f' = f) && noSup x && nofB T c f && chkE T N sc a x) = true := h
    simp only [Bool.and_eq_true, decide_eq_true_eq] at h'
    obtain ⟨⟨⟨rfl, h2⟩, h3⟩, h4⟩ := h'
    obtain ⟨C, hC, hc, hn⟩ := G.nof c _ (nofB_mem h3)
    refine (pe_fld (ha.se G h4) (sup1 h2 _ _)).imp fun σ H Q ⟨g, S, env, ok, re, p⟩ => ?_
    refine liftE_mono (fun x H1 ⟨g1, S1, d1, l1, k1, r1, p1⟩ => ?_) (bE ok re p)
    have p2 : Pst w g1 (Ew w W σ) Q (finO false ((fldP S1 c f' d1).map PR.val) S1) := p1
    cases d1 with
    | loc m =>
      cases q : S1.ob m with
      | none =>
        have e : fldP S1 c f' (.loc m) = none := by show (match S1.ob m with | some (.ins c' fs) => if c' = c then fs.lookup f' else none | _ => none) = none; rw [q]
        rw [e] at p2; exact p2.elim
      | some o =>
        cases o with
        | ins c' fs =>
          have e : fldP S1 c f' (.loc m) = if c' = c then fs.lookup f' else none := by show (match S1.ob m with | some (.ins c' fs) => if c' = c then fs.lookup f' else none | _ => none) = _; rw [q]
          rw [e] at p2
          by_cases hcc : c' = c
          · rw [if_pos hcc] at p2
            subst hcc
            cases ql : fs.lookup f' with
            | none => rw [ql] at p2; exact p2.elim
            | some d =>
              rw [ql] at p2
              obtain ⟨C', dx, ps, rfl, e1, e2, e3⟩ := ins_ok (d := .non) k1 r1 q
              rw [hC] at e1
              cases e1
              obtain ⟨v, lv, rv⟩ := frl_some e3 ql
              exact ⟨_, C, dx, ps, v, rfl, e2, hc, hn, lv, p2 g1 H1 (Gh.Le.refl g1) k1 v rv⟩
          · rw [if_neg hcc] at p2; exact p2.elim
        | _ =>
          have e : fldP S1 c f' (.loc m) = none := by show (match S1.ob m with | some (.ins c' fs) => if c' = c then fs.lookup f' else none | _ => none) = none; rw [q]
          rw [e] at p2; exact p2.elim
    | _ => exact p2.elim
  | _ => exact absurd h Bool.false_ne_true
/-! ### methods -/
theorem mcall_eq {o : Expr} {m : Str} {apos pos : Pos} {args : List Expr} {env : PySem.Env} (hb : attributeBase o m env (eval o env) = eval o env)
    (hfew : methodCallForm (args.length + ([] : List Keyword).length) (backTo pos (starEach args env)) (backToKw pos (keywordEach [] env)) = true) (hline : (apos.endLine == pos.line) = true) :
    eval (.Call (.Attribute o m apos) args [] pos) env = (do
      let ov ← eval o env
      standAt apos.atName
      let (f, first) ← holding [ov] (getMethod ov m (do return (← importBound o env).getD true))
      callWith pos f first (backTo pos (starEach args env)) (backToKw pos (keywordEach [] env))) := by
  have hpos : methodCallPos true o env apos pos = pure pos := by unfold methodCallPos; simp [hline]
  refine mcall_of hb fun ov => ?_
  unfold methodCall
  rw [hfew, hpos]
  rfl
def tMthS (C : Addr) (m : Str) (sp : Sp) (E : L2.St → XK) (ta : TE) (t : TA) : TE := fun σ H Q => ta σ H fun x H1 => ∃ a dx fs, x = .ref a ∧ H1 a = some (.ins C dx fs) ∧ fs.lookup m = none ∧ t σ H1 fun vs H2 => sp (x :: vs) H2 Q (E σ)
theorem pe_mthS {X : Cx} {CX : CXT} {k : Nat} {C f : Addr} {m : Str} {fd : FuncData} {ps : List Str} {sp : Sp} {E : L2.St → XK} {o e : Expr} {es : List Expr} {ta : TE} {t : TA} {apos pos : Pos} {pl : Sem Bool} (he : PE X o ta) (c : Cls X.K C) (hm : Meth X.K C m f) (F : FnOk X.prog X.w X.K X.mg X.base CX k f fd ps sp) (hr : Room k X.A) (hb : Binds X.K fd ps []) (hx : ∀ σ, PassesAt CX X σ (E σ)) (ha : PA X (e :: es) t)
    (hst : starEach (e :: es) X.env = (false, eval e X.env) :: starEach es X.env) (hpl : (backTo pos (starEach es X.env)).any (·.1) = false)
    (ht : eval (.Call (.Attribute o m apos) (e :: es) [] pos) X.env = (do
      let ov ← eval o X.env
      standAt apos.atName
      let (f, first) ← holding [ov] (getMethod ov m pl)
      callWith pos f first (backTo pos (starEach (e :: es) X.env)) (backToKw pos (keywordEach [] X.env)))) :
    PE X (.Call (.Attribute o m apos) (e :: es) [] pos) (tMthS C m sp E ta t) := by
  refine ⟨fun pins s σ H Q I h => ?_⟩
  refine PySem.W.methodCall_KW (pl := pl) (thn (he.run pins s σ H _ I h) fun u s1 ⟨x, H1, I1, rx, a, dx, fs, ex, ea, l, q⟩ => ?_) ht
  subst ex
  obtain rfl : u = Value.ref a := rx
  refine getmeth_ok I1 ea c hm l ?_
  refine PySem.W.callWith_K (first := [.ref a]) (h₀ := X.base) I.ok.mod.kin hm.kp (thn (ha.run pos pins s1 σ H1 _ I1 q) fun us s2 ⟨vs, H2, I2, r, q2⟩ => ⟨I2.kIn, ?_⟩) hst hpl
  exact run_fnS (us := .ref a :: us) (vs := .ref a :: vs) F hr hb (hx σ) I2 (.cons rfl r) q2
theorem pe_mthS0 {X : Cx} {CX : CXT} {k : Nat} {C f : Addr} {m : Str} {fd : FuncData} {ps : List Str} {sp : Sp} {E : L2.St → XK} {o : Expr} {ta : TE} {apos pos : Pos} {pl : Sem Bool} (he : PE X o ta) (c : Cls X.K C) (hm : Meth X.K C m f) (F : FnOk X.prog X.w X.K X.mg X.base CX k f fd ps sp) (hr : Room k X.A) (hb : Binds X.K fd ps []) (hx : ∀ σ, PassesAt CX X σ (E σ))
    (ht : eval (.Call (.Attribute o m apos) [] [] pos) X.env = (do
      let ov ← eval o X.env
      standAt apos.atName
      let (f, first) ← holding [ov] (getMethod ov m pl)
      callWith pos f first (backTo pos (starEach [] X.env)) (backToKw pos (keywordEach [] X.env)))) :
    PE X (.Call (.Attribute o m apos) [] [] pos) (tMthS C m sp E ta tNil) := by
  refine ⟨fun pins s σ H Q I h => ?_⟩
  refine PySem.W.methodCall_KW (pl := pl) (thn (he.run pins s σ H _ I h) fun u s1 ⟨x, H1, I1, rx, a, dx, fs, ex, ea, l, q⟩ => ?_) ht
  subst ex
  obtain rfl : u = Value.ref a := rx
  refine getmeth_ok I1 ea c hm l ?_
  exact PySem.W.callWith_K0 (first := [.ref a]) I1.kIn hm.kp (run_fnS (us := [.ref a]) (vs := [.ref a]) F hr hb (hx σ) I1 (.cons rfl .nil) q)
theorem few_of {es : E} {ys : List Expr} {N : List Str} {sc : Scope} (pos : Pos) (env : PySem.Env) (h : chkA T N sc es ys = true) (hl : ys.length < 20) : methodCallForm (ys.length + ([] : List Keyword).length) (backTo pos (starEach ys env)) (backToKw pos (keywordEach [] env)) = true := by
  unfold methodCallForm
  rw [any_all (backs pos env h)]
  show (true && true && decide (ys.length + 0 + 0 < 30)) = true
  rw [decide_eq_true (by omega)]
  rfl
theorem s_mcl {k : Nat} {c m : Str} {o es : E} (ho : SAll T w n o) (h1 : SAll T w n es) : SAll T w n (.mcl k c m o es) := by
  refine .ofE (fun {N sc W X x} G h => ?_) (fun _ _ _ => rfl) (fun _ _ _ => rfl) (fun _ _ _ => rfl)
  cases x with
  | Call fn xs kw pos =>
    cases fn with
    | Attribute x m' apos =>
      match kw, h with
      | [], h =>
        have h' : (decide (m' = m) && (apos.endLine == pos.line) && noSup x && decide (xs.length < 20) && mthB T c m k && chkE T N sc o x && chkA T N sc es xs) = true := h
        simp only [Bool.and_eq_true, decide_eq_true_eq] at h'
        obtain ⟨⟨⟨⟨⟨⟨rfl, h2⟩, h3⟩, h4⟩, h5⟩, h6⟩, h7⟩ := h'
        obtain ⟨C, a, fd, f, hC, hc, hm, hf, bd, F⟩ := G.mth c _ k (mthB_mem h5)
        have ht := mcall_eq (m := m') (sup1 h3 m' X.env) (few_of pos X.env h7 h4) h2
        have step : ∀ (σ : L2.St) (Q : VK) (H1 : Hp) (v : V) (g1 : Gh) (S1 : Store) (d1 : D), Ok w g1 S1 H1 → Rl w g1 d1 v → insB S1 c m' d1 = true → ∃ a dx fs, v = .ref a ∧ H1 a = some (.ins C dx fs) ∧ fs.lookup m' = none := by
          intro σ Q H1 v g1 S1 d1 k1 r1 hi
          cases d1 with
          | loc q =>
            have hi' : (match S1.ob q with | some (.ins c' fs) => decide (c' = c) && (fs.lookup m').isNone | _ => false) = true := hi
            cases e : S1.ob q with
            | none => rw [e] at hi'; cases hi'
            | some ob =>
              rw [e] at hi'
              cases ob with
              | ins c' fs =>
                simp only [Bool.and_eq_true, decide_eq_true_eq] at hi'
                obtain ⟨rfl, hn⟩ := hi'
                obtain ⟨C', dx, ps, rfl, e1, e2, e3⟩ := ins_ok (d := .non) k1 r1 e
                rw [hC] at e1
                cases e1
                exact ⟨_, dx, ps, rfl, e2, frl_none e3 (Option.isNone_iff_eq_none.mp hn)⟩
              | _ => cases hi'
          | _ => cases hi
        cases xs with
        | nil =>
          refine (pe_mthS0 (E := WE W) (ho.se G h6) hc hm F (G.room.mono (Nat.le_succ _)) bd (fun σ => passAt G.tk σ) ht).imp fun σ H Q ⟨g, S, env, ok, re, p⟩ => ?_
          refine liftE_mono (fun x H1 ⟨g1, S1, d1, l1, k1, r1, p1⟩ => ?_) (bE ok re p)
          split at p1
          · rename_i hi
            obtain ⟨a', dx, fs, e1, e2, e3⟩ := step σ Q H1 x g1 S1 d1 k1 r1 hi
            refine ⟨a', dx, fs, e1, e2, e3, ?_⟩
            cases es with
            | nil => exact ⟨g1, S1, [d1], k1, .cons r1 .nil, sem_len p1, p1⟩
            | _ => exact absurd h7 Bool.false_ne_true
          · exact p1.elim
        | cons y ys =>
          obtain ⟨c1, b, rfl, c1', c2, c3⟩ := chkA_cons h7
          refine (pe_mthS (E := WE W) (ho.se G h6) hc hm F (G.room.mono (Nat.le_succ _)) bd (fun σ => passAt G.tk σ) (h1.sa G h7) (star1 c1' _ _) (backs pos _ c3) ht).imp fun σ H Q ⟨g, S, env, ok, re, p⟩ => ?_
          refine liftE_mono (fun x H1 ⟨g1, S1, d1, l1, k1, r1, p1⟩ => ?_) (bE ok re p)
          split at p1
          · rename_i hi
            obtain ⟨a', dx, fs, e1, e2, e3⟩ := step σ Q H1 x g1 S1 d1 k1 r1 hi
            refine ⟨a', dx, fs, e1, e2, e3, ?_⟩
            refine liftA_mono (fun y H2 ⟨g2, S2, d2, l2, k2, r2, p2⟩ => ?_) (bA k1 (re.mono l1) p1)
            exact ⟨g2, S2, d1 :: d2, k2, .cons (r1.mono l2) r2, sem_len p2, p2⟩
          · exact p1.elim
      | _ :: _, h => exact absurd h Bool.false_ne_true
    | _ => exact absurd h Bool.false_ne_true
  | _ => exact absurd h Bool.false_ne_true
/-! ### new instances -/
def tMkS (C : Addr) (sp : Sp) (E : L2.St → XK) (t : TA) : TE := fun σ H Q => t σ H fun vs H1 => ∀ x dx, H1 x = none → H1 dx = none → dx ≠ x →
  sp (.ref x :: vs) (upd (upd H1 dx (.own x)) x (.ins C dx [])) (fun v H2 => v = .non ∧ Q (.ref x) H2) (E σ)
theorem run_mkS {X : Cx} {CX : CXT} {k : Nat} {C f : Addr} {fd : FuncData} {ps : List Str} {sp : Sp} {E : L2.St → XK} {pins : List (Addr × Obj)} {σ : L2.St} {H : Hp} {s : Shared} {Q : VK} {us : List Value} {vs : List V} (M : Mk X.K C f) (F : FnOk X.prog X.w X.K X.mg X.base CX k f fd ps sp) (hr : Room (k + 1) X.A) (hb : Binds X.K fd ps [])
    (hx : PassesAt CX X σ (E σ)) (I : Inv X pins σ H s) (r : Vals vs us)
    (h : ∀ x dx, H x = none → H dx = none → dx ≠ x → sp (.ref x :: vs) (upd (upd H dx (.own x)) x (.ins C dx [])) (fun v H2 => v = .non ∧ Q (.ref x) H2) (E σ)) :
    wpAny (model X.prog X.w) X.A (call (.ref C) us) (EP X pins σ Q) X.xe s := by
  have hq := h (s.heap.objs.size + 1) s.heap.objs.size (I.hok.fresh (Nat.le_succ _)) (I.hok.fresh (Nat.le_refl _)) (Nat.ne_of_lt (Nat.lt_succ_self _))
  have I2 := Inv.made (C := C) I
  have r2 : Vals (V.ref (s.heap.objs.size + 1) :: vs) (Value.ref (s.heap.objs.size + 1) :: us) := .cons rfl r
  have hl : (Value.ref (s.heap.objs.size + 1) :: us).length = ps.length := by
    have e := r2.length
    rw [F.len _ _ _ _ hq] at e
    exact e.symm
  have b := hb _ (Value.ref (s.heap.objs.size + 1) :: us) I2.kIn (by rw [List.append_nil]; exact hl)
  rw [List.append_nil] at b
  refine wpAny_call (make_map (f := f) I.kIn M.makes M.init (beq_iff_eq.mp M.fn) (codeAny_mono (F.run _ X.stack _ _ ⟨Value.ref (s.heap.objs.size + 1) :: us, []⟩ (Value.ref (s.heap.objs.size + 1) :: us) _ _ (E σ) (hr.make C us [])
    (I2.env0.make C us []) b r2 hq) fun r s' hq' => ?_))
  cases r with
  | error e => exact hx pins _ _ e s' I2 hq'
  | ok fl =>
    cases fl with
    | ret u =>
      obtain ⟨v, H', I3, rv, ev, q3⟩ := I2.after hq'
      subst ev
      exact ⟨rv, ⟨V.ref (s.heap.objs.size + 1), H', I3, rfl, q3⟩⟩
    | next => exact False.elim hq'
    | brk => exact False.elim hq'
    | cont => exact False.elim hq'
theorem pe_mkS {X : Cx} {CX : CXT} {k : Nat} {C f : Addr} {fd : FuncData} {ps : List Str} {sp : Sp} {E : L2.St → XK} {x : Str} {p pos : Pos} {e : Expr} {es : List Expr} {t : TA} (M : Mk X.K C f) (F : FnOk X.prog X.w X.K X.mg X.base CX k f fd ps sp) (hr : Room (k + 1) X.A) (hg : Gl X x) (hm : X.mg x = some (.ref C)) (hb : Binds X.K fd ps []) (hx : ∀ σ, PassesAt CX X σ (E σ))
    (ha : PA X (e :: es) t) (hdb : (x == ("__debug__" : Str)) = false) (he : starEach (e :: es) X.env = (false, eval e X.env) :: starEach es X.env) (hpl : (backTo pos (starEach es X.env)).any (·.1) = false) :
    PE X (.Call (.Name x p) (e :: es) [] pos) (tMkS C sp E t) := by
  refine ⟨fun pins s σ H Q I h => ?_⟩
  refine wpAny_Call_Name_kw (ld_glob I hg hm ?_ hdb)
  refine PySem.W.callWith_K (h₀ := X.base) I.ok.mod.kin M.kp (thn (ha.run pos pins s σ H _ I h) fun us s1 ⟨vs, H1, I1, r, q⟩ => ⟨I1.kIn, ?_⟩) he hpl
  exact run_mkS M F hr hb (hx σ) I1 r q
theorem pe_mkS0 {X : Cx} {CX : CXT} {k : Nat} {C f : Addr} {fd : FuncData} {ps : List Str} {sp : Sp} {E : L2.St → XK} {x : Str} {p pos : Pos} (M : Mk X.K C f) (F : FnOk X.prog X.w X.K X.mg X.base CX k f fd ps sp) (hr : Room (k + 1) X.A) (hg : Gl X x) (hm : X.mg x = some (.ref C)) (hb : Binds X.K fd ps []) (hx : ∀ σ, PassesAt CX X σ (E σ))
    (hdb : (x == ("__debug__" : Str)) = false) : PE X (.Call (.Name x p) [] [] pos) (tMkS C sp E tNil) := by
  refine ⟨fun pins s σ H Q I h => ?_⟩
  refine wpAny_Call_Name_kw (ld_glob I hg hm ?_ hdb)
  exact PySem.W.callWith_K0 I.kIn M.kp (run_mkS (us := []) M F hr hb (hx σ) I .nil h)
theorem mk_ok {k : Nat} {c : Str} {C : Addr} {g : Gh} {S : Store} {H : Hp} {W : WX} {σ : L2.St} {Q : VK} {ds : List D} {vs : List V} (hC : w.cl c = some C) (ok : Ok w g S H) (rs : Rls w g ds vs) (p : Pst w g (Ew w W σ) Q (mkM (sem T n) k c ds S)) :
    ∀ x dx, H x = none → H dx = none → dx ≠ x → spF T w n k (.ref x :: vs) (upd (upd H dx (.own x)) x (.ins C dx [])) (fun v H2 => v = .non ∧ Q (.ref x) H2) (WE W σ) := by
  intro x dx hx hdx ne
  have k1 : Ok w (g.add dx (.own x)) S (upd H dx (.own x)) := ok.addF hdx
  have l1 : g.Le (g.add dx (.own x)) := Gh.add_le (ok.none hdx)
  have hx1 : upd H dx (.own x) x = none := by rw [upd_ne (Ne.symm ne)]; exact hx
  have k2 : Ok w ((g.add dx (.own x)).put x) (S.new (.ins c [])) (upd (upd H dx (.own x)) x (.ins C dx [])) :=
    k1.addS (h := .ins C dx []) hx1 (fun a u q => by
      rw [upd_ne (fun z => by subst z; rw [hx1] at q; cases q)]; exact q) upd_same ⟨C, dx, [], hC, rfl, .nil⟩
  have l2 : (g.add dx (.own x)).Le ((g.add dx (.own x)).put x) := Gh.put_le
  have hloc : Rl w ((g.add dx (.own x)).put x) (.loc S.nx) (.ref x) := by
    have e : ((g.add dx (.own x)).put x).ι S.nx = x := by
      have : S.nx = (g.add dx (.own x)).nx := k1.nx
      rw [this]; exact Gh.put_ι
    have hlt : S.nx < ((g.add dx (.own x)).put x).nx := by
      rw [k1.nx]; exact Nat.lt_succ_self _
    have z : Rl w ((g.add dx (.own x)).put x) (.loc S.nx) (.ref (((g.add dx (.own x)).put x).ι S.nx)) := .loc hlt
    rw [e] at z
    exact z
  have p' : Pst w g (Ew w W σ) Q (match sem T n k (.loc S.nx :: ds) (S.new (.ins c [])) with
    | .ok .non S2 => .ok (.loc S.nx) S2
    | .ok _ _ => .bad
    | .exc e S2 => .exc e S2
    | .bad => .bad) := p
  have p3 : Pst w ((g.add dx (.own x)).put x) (fun c H' => ∀ C, w.cl c = some C → WE W σ (.ref C) none H') (fun v H2 => v = .non ∧ Q (.ref x) H2) (sem T n k (.loc S.nx :: ds) (S.new (.ins c []))) := by
    cases q : sem T n k (.loc S.nx :: ds) (S.new (.ins c [])) with
    | ok d S2 =>
      rw [q] at p'
      cases d with
      | non =>
        intro g' H' l' k' v rv
        cases rv
        exact ⟨rfl, p' g' H' ((l1.trans l2).trans l') k' _ (hloc.mono l')⟩
      | _ => exact p'.elim
    | exc e S2 =>
      rw [q] at p'
      exact fun g' H' l' k' C' hC' => p' g' H' ((l1.trans l2).trans l') k' C' hC'
    | bad => rw [q] at p'; exact p'
  exact ⟨_, _, .loc S.nx :: ds, k2, .cons hloc ((rs.mono l1).mono l2), sem_len p3, p3⟩
theorem s_mk {k : Nat} {c : Str} {es : E} (h1 : SAll T w n es) : SAll T w n (.mk k c es) := by
  refine .ofE (fun {N sc W X x} G h => ?_) (fun _ _ _ => rfl) (fun _ _ _ => rfl) (fun _ _ _ => rfl)
  cases x with
  | Call fn xs kw pos =>
    cases fn with
    | Name x p =>
      match kw, h with
      | [], h =>
        have h' : (decide (x = c) && glB sc x && nmB x && mksB T c k && chkA T N sc es xs) = true := h
        simp only [Bool.and_eq_true, decide_eq_true_eq] at h'
        obtain ⟨⟨⟨⟨rfl, h2⟩, h3⟩, h4⟩, h5⟩ := h'
        obtain ⟨C, a, fd, f, hC, hmg, M, hf, bd, F⟩ := G.mks x k (mksB_mem h4)
        cases xs with
        | nil =>
          refine (pe_mkS0 (E := WE W) M F G.room (G.gl h2) hmg bd (fun σ => passAt G.tk σ) (nm1 h3).1).imp fun σ H Q ⟨g, S, env, ok, re, p⟩ => ?_
          cases es with
          | nil => exact mk_ok hC ok .nil p
          | _ => exact absurd h5 Bool.false_ne_true
        | cons y ys =>
          obtain ⟨c1, b, rfl, c1', c2, c3⟩ := chkA_cons h5
          refine (pe_mkS (E := WE W) M F G.room (G.gl h2) hmg bd (fun σ => passAt G.tk σ) (h1.sa G h5) (nm1 h3).1 (star1 c1' _ _) (backs pos _ c3)).imp fun σ H Q ⟨g, S, env, ok, re, p⟩ => ?_
          refine liftA_mono (fun y H2 ⟨g2, S2, d2, l2, k2, r2, p2⟩ => ?_) (bA ok re p)
          exact mk_ok hC k2 r2 p2
      | _ :: _, h => exact absurd h Bool.false_ne_true
    | _ => exact absurd h Bool.false_ne_true
  | _ => exact absurd h Bool.false_ne_true
end
end ML

/-! Dicts. -/
namespace ML
open PySem PySem.Spec PyProof.Rows L2
section
variable {w : Wd} {g : Gh}
theorem krl_len : ∀ {kvs : List (Key × D)} {ps : List (Key × V)}, KRl w g kvs ps → kvs.length = ps.length
  | _, _, .nil => rfl
  | _, _, .cons _ t => by simp [krl_len t]
theorem krl_any {k : Key} : ∀ {kvs : List (Key × D)} {ps : List (Key × V)}, KRl w g kvs ps → (kvs.any fun kv => decide (kv.1 = k)) = (ps.any fun kv => decide (kv.1 = k))
  | _, _, .nil => rfl
  | (a, x) :: fs, (b, y) :: ps, .cons r t => by
    obtain ⟨r1, r2⟩ := r
    have r1 : a = b := r1
    subst r1
    rw [List.any_cons, List.any_cons, krl_any t]
theorem krl_map {k : Key} {d : D} {v : V} (rv : Rl w g d v) : ∀ {kvs : List (Key × D)} {ps : List (Key × V)}, KRl w g kvs ps → KRl w g (kvs.map fun kv => if kv.1 = k then (kv.1, d) else kv) (ps.map fun kv => if kv.1 = k then (kv.1, v) else kv)
  | _, _, .nil => .nil
  | (a, x) :: fs, (b, y) :: ps, .cons r t => by
    obtain ⟨r1, r2⟩ := r
    have r1 : a = b := r1
    subst r1
    refine .cons ?_ (krl_map rv t)
    show (if a = k then (a, d) else (a, x)).1 = (if a = k then (a, v) else (a, y)).1 ∧ Rl w g (if a = k then (a, d) else (a, x)).2 (if a = k then (a, v) else (a, y)).2
    by_cases c : a = k
    · rw [if_pos c, if_pos c]; exact ⟨rfl, rv⟩
    · rw [if_neg c, if_neg c]; exact ⟨rfl, r2⟩
theorem krl_app {k : Key} {d : D} {v : V} (rv : Rl w g d v) : ∀ {kvs : List (Key × D)} {ps : List (Key × V)}, KRl w g kvs ps → KRl w g (kvs ++ [(k, d)]) (ps ++ [(k, v)])
  | _, _, .nil => .cons ⟨rfl, rv⟩ .nil
  | _, _, .cons r t => .cons r (krl_app rv t)
theorem krl_put {k : Key} {d : D} {v : V} (rv : Rl w g d v) {kvs : List (Key × D)} {ps : List (Key × V)} (r : KRl w g kvs ps) : KRl w g (putKD kvs k d) (putK ps k v) := by
  unfold putKD putK
  rw [krl_any r]
  split
  · exact krl_map rv r
  · exact krl_app rv r
theorem krl_drop {k : Key} : ∀ {kvs : List (Key × D)} {ps : List (Key × V)}, KRl w g kvs ps → KRl w g (dropKD kvs k) (dropK ps k)
  | _, _, .nil => .nil
  | (a, x) :: fs, (b, y) :: ps, .cons r t => by
    obtain ⟨r1, r2⟩ := r
    have r1 : a = b := r1
    subst r1
    have ih := krl_drop (k := k) t
    unfold dropKD dropK at ih ⊢
    rw [List.filter_cons, List.filter_cons]
    by_cases c : a = k
    · simp only [c, ne_eq, not_true_eq_false, decide_false, Bool.false_eq_true, if_false]; exact ih
    · simp only [ne_eq, c, not_false_eq_true, decide_true, if_true]; exact .cons ⟨rfl, r2⟩ ih
variable {S : Store} {H : Hp}
theorem dct_ok {d : D} {v : V} {kvs : List (Key × D)} (k : Ok w g S H) (r : Rl w g d v) (e : dctOf S d = some kvs) : ∃ n ps, d = .loc n ∧ S.ob n = some (.dct kvs) ∧ v = .ref (g.ι n) ∧ H (g.ι n) = some (.dK ps) ∧ KRl w g kvs ps := by
  cases r with
  | @loc n hn =>
    have e' : obDct (S.ob n) = some kvs := e
    cases q : S.ob n with
    | none => rw [q] at e'; cases e'
    | some o =>
      rw [q] at e'
      cases o with
      | dct kvs' =>
        cases e'
        obtain ⟨ps, e1, e2⟩ := k.ob n _ q
        exact ⟨n, ps, rfl, q, rfl, e1, e2⟩
      | _ => cases e'
  | _ => cases e
/-- what a dict has at a key -/
theorem dgt_ok {d e : D} {x y : V} {o : Option D} (k : Ok w g S H) (r1 : Rl w g d x) (r2 : Rl w g e y) (h : dgtP S d e = some o) : ∃ a r, x = .ref a ∧ DGet H a y r ∧ (∀ z, o = some z → ∃ v, r = some v ∧ Rl w g z v) ∧ (o = none → r = none) := by
  unfold dgtP at h
  obtain ⟨kvs, h1, h2⟩ := bind_some h
  obtain ⟨ky, h3, h4⟩ := map_some h2
  obtain ⟨n, ps, rfl, q, rfl, e1, e2⟩ := dct_ok k r1 h1
  have ey := key_ok r2 h3
  subst ey
  refine ⟨_, _, rfl, DGet.k e1, fun z hz => ?_, fun hz => ?_⟩
  · rw [h4] at hz; exact krl_some e2 hz
  · rw [h4] at hz; exact krl_none e2 hz
end
section
variable {T : Tab} {w : Wd} {n : Nat}
theorem s_dnw : SAll T w n .dnw := by
  refine .ofE (fun {N sc W X x} G h => ?_) (fun _ _ _ => rfl) (fun _ _ _ => rfl) (fun _ _ _ => rfl)
  cases x with
  | Dict ks vs pos =>
    match ks, vs, h with
    | [], [], h =>
      refine (pe_dnewK).imp fun σ H Q ⟨g, S, env, ok, re, p⟩ => ?_
      intro a ha
      have p' : Pst w g (Ew w W σ) Q (.ok (.loc S.nx) (S.new (.dct []))) := p
      have k2 : Ok w (g.put a) (S.new (.dct [])) (upd H a (.dK [])) := ok.addS (h := .dK []) ha (fun b u q => by
        rw [upd_ne (fun z => by subst z; rw [ha] at q; cases q)]; exact q) upd_same ⟨[], rfl, .nil⟩
      have e : (g.put a).ι S.nx = a := by rw [ok.nx]; exact Gh.put_ι
      have z : Rl w (g.put a) (.loc S.nx) (.ref ((g.put a).ι S.nx)) := .loc (by rw [ok.nx]; exact Nat.lt_succ_self _)
      rw [e] at z
      exact p' _ _ Gh.put_le k2 _ z
    | [], _ :: _, h => exact absurd h Bool.false_ne_true
    | _ :: _, _, h => exact absurd h Bool.false_ne_true
  | _ => exact absurd h Bool.false_ne_true
theorem noSl1 {y : Expr} (h : noSlice y = true) : NoSl y := by
  intro o i
  cases y <;> first | rfl | cases h
theorem units1 {k : Nat} {A : Around} (r : Room k A) : A.units + 1 < cLine := by have := r.units; omega
theorem s_dgt {a i : E} (ha : SAll T w n a) (hi : SAll T w n i) : SAll T w n (.dgt a i) := by
  refine .ofE (fun {N sc W X x} G h => ?_) (fun _ _ _ => rfl) (fun _ _ _ => rfl) (fun _ _ _ => rfl)
  cases x with
  | Subscript x y pos =>
    have h' : (noSlice y && chkE T N sc a x && chkE T N sc i y) = true := h
    simp only [Bool.and_eq_true] at h'
    refine (pe_dget (units1 G.room) (ha.se G h'.1.2) (hi.se G h'.2) (noSl1 h'.1.1)).imp fun σ H Q ⟨g, S, env, ok, re, p⟩ => ?_
    refine liftE_mono (fun x H1 ⟨g1, S1, d1, l1, k1, r1, p1⟩ => ?_) (bE ok re p)
    refine liftE_mono (fun y H2 ⟨g2, S2, d2, l2, k2, r2, p2⟩ => ?_) (bE k1 (re.mono l1) p1)
    have p3 : Pst w g2 (Ew w W σ) Q (match dgtP S2 d1 d2 with
      | some (some d) => .ok d S2
      | _ => .bad) := p2
    cases q : dgtP S2 d1 d2 with
    | none => rw [q] at p3; exact p3.elim
    | some o =>
      rw [q] at p3
      cases o with
      | none => exact p3.elim
      | some d =>
        obtain ⟨b, r, rfl, e1, e2, _⟩ := dgt_ok k2 (r1.mono l2) r2 q
        obtain ⟨v, rfl, rv⟩ := e2 d rfl
        exact ⟨b, v, rfl, e1, p3 g2 H2 (Gh.Le.refl g2) k2 v rv⟩
  | _ => exact absurd h Bool.false_ne_true
/-- in and not in of a dict -/
theorem pc_dct {X : Cx} {m : Bool} {i o : Expr} {ty td : TE} (hu : X.A.units + 1 < cLine) (hi : PE X i ty) (ho : PE X o td) : PC X (if m = true then .NotIn else .In) i o (fun σ H Q => ty σ H fun y H1 => td σ H1 fun x H2 => ∃ a r, x = .ref a ∧ DGet H2 a y r ∧ Q (.bl (m != r.isSome)) H2) := by
  cases m with
  | true =>
    refine ⟨fun pins s σ H Q I h => (pc_dnotin hu hi ho).run pins s σ H Q I ?_⟩
    have e : ∀ r : Option V, (true != r.isSome) = !r.isSome := fun r => by cases r <;> rfl
    simp only [e] at h
    exact h
  | false =>
    refine ⟨fun pins s σ H Q I h => (pc_din hu hi ho).run pins s σ H Q I ?_⟩
    have e : ∀ r : Option V, (false != r.isSome) = r.isSome := fun r => by cases r <;> rfl
    simp only [e] at h
    exact h
theorem isSome_eq {g : Gh} {o : Option D} {r : Option V} (h1 : ∀ z, o = some z → ∃ v, r = some v ∧ Rl w g z v) (h2 : o = none → r = none) : r.isSome = o.isSome := by
  cases o with
  | none => rw [h2 rfl]; rfl
  | some z => obtain ⟨v, e, _⟩ := h1 z rfl; rw [e]; rfl
theorem s_din {m : Bool} {i a : E} (hi : SAll T w n i) (ha : SAll T w n a) : SAll T w n (.din m i a) := by
  refine ⟨fun {N sc W X x} G h => ?_, fun _ q => absurd q Bool.false_ne_true, fun {N sc W X x} G h => ?_, fun {N sc W X o vs pos} G h => absurd h Bool.false_ne_true, fun _ q => absurd q Bool.false_ne_true⟩
  · cases x with
    | Compare x ops ys pos =>
      match ops, ys, h with
      | [o], [y], h =>
        have h' : (decide (o = if m = true then .NotIn else .In) && noSet y && chkE T N sc i x && chkE T N sc a y) = true := h
        simp only [Bool.and_eq_true, decide_eq_true_eq] at h'
        obtain ⟨⟨⟨rfl, h0⟩, h1⟩, h2⟩ := h'
        refine (pe_cmp (pc_dct (m := m) (units1 G.room) (hi.se G h1) (ha.se G h2)) (set1 h0)).imp fun σ H Q ⟨g, S, env, ok, re, p⟩ => ?_
        refine liftE_mono (fun x H1 ⟨g1, S1, d1, l1, k1, r1, p1⟩ => ?_) (bE ok re p)
        refine liftE_mono (fun y H2 ⟨g2, S2, d2, l2, k2, r2, p2⟩ => ?_) (bE k1 (re.mono l1) p1)
        have p3 : Pst w g2 (Ew w W σ) Q (match dgtP S2 d2 d1 with
          | some r => .ok (.bl (m != r.isSome)) S2
          | none => .bad) := p2
        cases q : dgtP S2 d2 d1 with
        | none => rw [q] at p3; exact p3.elim
        | some o =>
          rw [q] at p3
          obtain ⟨b, r, rfl, e1, e2, e3⟩ := dgt_ok k2 r2 (r1.mono l2) q
          refine ⟨b, r, rfl, e1, ?_⟩
          rw [isSome_eq e2 e3]
          exact p3 g2 H2 (Gh.Le.refl g2) k2 _ (.bl _)
      | [], _, h => exact absurd h Bool.false_ne_true
      | [_], [], h => exact absurd h Bool.false_ne_true
      | [_], _ :: _ :: _, h => exact absurd h Bool.false_ne_true
      | _ :: _ :: _, _, h => exact absurd h Bool.false_ne_true
    | _ => exact absurd h Bool.false_ne_true
  · cases x with
    | Compare x ops ys pos =>
      match ops, ys, h with
      | [o], [y], h =>
        have h' : (decide (o = if m = true then .NotIn else .In) && noSet y && chkE T N sc i x && chkE T N sc a y) = true := h
        simp only [Bool.and_eq_true, decide_eq_true_eq] at h'
        obtain ⟨⟨⟨rfl, h0⟩, h1⟩, h2⟩ := h'
        refine (pt_cmp (pc_dct (m := m) (units1 G.room) (hi.se G h1) (ha.se G h2)) (set1 h0)).imp fun σ H Q ⟨g, S, env, ok, re, p⟩ => ?_
        refine liftE_mono (fun x H1 ⟨g1, S1, d1, l1, k1, r1, p1⟩ => ?_) (bE ok re p)
        refine liftE_mono (fun y H2 ⟨g2, S2, d2, l2, k2, r2, p2⟩ => ?_) (bE k1 (re.mono l1) p1)
        have p3 : Pg w g2 (Ew w W σ) (fun b _ H' => Q b H') (match dgtP S2 d2 d1 with
          | some r => .ok (m != r.isSome) S2
          | none => .bad) := p2
        cases q : dgtP S2 d2 d1 with
        | none => rw [q] at p3; exact p3.elim
        | some o =>
          rw [q] at p3
          obtain ⟨b, r, rfl, e1, e2, e3⟩ := dgt_ok k2 r2 (r1.mono l2) q
          refine ⟨b, r, rfl, e1, ?_⟩
          rw [isSome_eq e2 e3]
          exact ⟨_, rfl, p3 g2 H2 (Gh.Le.refl g2) k2⟩
      | [], _, h => exact absurd h Bool.false_ne_true
      | [_], [], h => exact absurd h Bool.false_ne_true
      | [_], _ :: _ :: _, h => exact absurd h Bool.false_ne_true
      | _ :: _ :: _, _, h => exact absurd h Bool.false_ne_true
    | _ => exact absurd h Bool.false_ne_true
/-! ### d.copy() -/
theorem s_pop {a : E} (ha : SAll T w n a) : SAll T w n (.pop a) := by
  refine .ofE (fun {N sc W X x} G h => ?_) (fun _ _ _ => rfl) (fun _ _ _ => rfl) (fun _ _ _ => rfl)
  cases x with
  | Call fn xs kw pos =>
    cases fn with
    | Attribute x m apos =>
      match xs, kw, h with
      | [], [], h =>
        have h' : (decide (m = ("pop" : Str)) && (apos.endLine == pos.line) && noSup x && chkE T N sc a x) = true := h
        simp only [Bool.and_eq_true, decide_eq_true_eq] at h'
        obtain ⟨⟨⟨rfl, h2⟩, h3⟩, h4⟩ := h'
        refine (pe_bm0 PySem.F.plainAttrs_list PySem.F.slot_list_pop PySem.F.type_list_pop mt_pop (ha.se G h4) (sup1 h3 _ _) h2).imp fun σ H Q ⟨g, S, env, ok, re, p⟩ => ?_
        refine liftE_mono (fun x H1 ⟨g1, S1, d1, l1, k1, r1, p1⟩ => ?_) (bE ok re p)
        cases r1 with
        | @loc m hm =>
          have p2 : Pst w g1 (Ew w W σ) Q (match obLst (S1.ob m) with
            | some xs => match xs[xs.length - 1]? with
              | some y => .ok y (S1.set m (.lst xs.dropLast))
              | none => .bad
            | none => .bad) := p1
          cases q : obLst (S1.ob m) with
          | none => rw [q] at p2; exact p2.elim
          | some xs =>
            rw [q] at p2
            simp only at p2
            cases q2 : xs[xs.length - 1]? with
            | none => rw [q2] at p2; exact p2.elim
            | some y =>
              rw [q2] at p2
              obtain ⟨vs, h1, h2⟩ := k1.ob m _ (obLst_some q)
              obtain ⟨v, hv, rv⟩ := h2.get q2
              refine ⟨.inl ⟨rfl, vs, .inl (.inl h1)⟩, _, vs, v, rfl, rfl, h1, by rw [← h2.length]; exact hv, ?_⟩
              refine p2 g1 _ (Gh.Le.refl g1) (k1.setS (obLst_some q) ⟨_, rfl, ?_⟩) v rv
              rw [List.dropLast_eq_take, List.dropLast_eq_take, h2.length]
              exact h2.take _
        | _ => exact p1.elim
      | _ :: _, _, h => exact absurd h Bool.false_ne_true
      | [], _ :: _, h => exact absurd h Bool.false_ne_true
    | _ => exact absurd h Bool.false_ne_true
  | _ => exact absurd h Bool.false_ne_true
/-! ### dict displays -/
def unflat : List V → List (V × V)
  | x :: y :: r => (x, y) :: unflat r
  | _ => []
def SPr (T : Tab) (w : Wd) (n : Nat) (e : E) : Prop := ∀ {N : List Str} {sc : Scope} {W : WX} {X : Cx} {pos : Pos} {ks : List (Option Expr)} {vs : List Expr}, Good T w n N sc W X → chkD T N sc e ks vs = true →
  ∃ trs, PPs X pos ks vs trs ∧ (ks.all (·.isSome) = true ∧ ks.length = vs.length) ∧ ∀ σ H Q, liftA w (evA (sem T n) (gvs T) e) W σ H (fun xs H' => Q (unflat xs) H') → tPairs trs σ H Q
theorem spr_no {e : E} (h : ∀ N sc ks vs, chkD T N sc e ks vs = false) : SPr T w n e := fun _ q => (Bool.false_ne_true ((h _ _ _ _).symm.trans q)).elim
theorem spr_nil : SPr T w n .nil := by
  intro N sc W X pos ks vs G h
  match ks, vs, h with
  | [], [], _ => exact ⟨[], pps_nil, ⟨rfl, rfl⟩, fun σ H Q ⟨g, S, env, ok, re, p⟩ => p g H (Gh.Le.refl g) ok [] .nil⟩
  | [], _ :: _, h => exact absurd h Bool.false_ne_true
  | _ :: _, _, h => exact absurd h Bool.false_ne_true
theorem spr_kv {a b c : E} (ha : SAll T w n a) (hb : SAll T w n b) (hc : SPr T w n c) : SPr T w n (.kv a b c) := by
  intro N sc W X pos ks vs G h
  match ks, vs, h with
  | some k :: ks, v :: vs, h =>
    have h' : (chkE T N sc a k && chkE T N sc b v && chkD T N sc c ks vs) = true := h
    simp only [Bool.and_eq_true] at h'
    obtain ⟨trs, P, ⟨q1, q2⟩, R⟩ := hc (pos := pos) G h'.2
    refine ⟨_, pps_cons (ha.se G h'.1.1) (hb.se G h'.1.2) P, ⟨by rw [List.all_cons, q1]; rfl, by rw [List.length_cons, List.length_cons, q2]⟩, fun σ H Q ⟨g, S, env, ok, re, p⟩ => ?_⟩
    refine liftE_mono (fun x H1 ⟨g1, S1, d1, l1, k1, r1, p1⟩ => ?_) (bE ok re p)
    refine liftE_mono (fun y H2 ⟨g2, S2, d2, l2, k2, r2, p2⟩ => ?_) (bE k1 (re.mono l1) p1)
    refine R σ H2 _ (liftA_mono (fun z H3 ⟨g3, S3, d3, l3, k3, r3, p3⟩ => ?_) (bA k2 ((re.mono l1).mono l2) p2))
    exact p3 g3 H3 (Gh.Le.refl g3) k3 _ (.cons ((r1.mono l2).mono l3) (.cons (r2.mono l3) r3))
  | none :: _, [], h => exact absurd h Bool.false_ne_true
  | none :: _, _ :: _, h => exact absurd h Bool.false_ne_true
  | some _ :: _, [], h => exact absurd h Bool.false_ne_true
  | [], [], h => exact absurd h Bool.false_ne_true
  | [], _ :: _, h => exact absurd h Bool.false_ne_true
theorem s_kv {a b c : E} : SAll T w n (.kv a b c) :=
  ⟨fun {N sc W X x} _ q => by cases x <;> exact absurd q Bool.false_ne_true, fun {N sc W X x} _ q => by cases x <;> exact absurd q Bool.false_ne_true, fun {N sc W X x} _ q => by cases x <;> exact absurd q Bool.false_ne_true, fun _ q => absurd q Bool.false_ne_true, fun {N sc W X x tg} _ q => by cases x <;> exact absurd q Bool.false_ne_true⟩
theorem pairs_rl {g : Gh} : ∀ {ds : List D} {vs : List V} {kvs : List (Key × D)}, Rls w g ds vs → pairsD ds = some kvs → ∃ ps : List (Key × V), unflat vs = ps.map (fun kv => (kV kv.1, kv.2)) ∧ KRl w g kvs ps
  | _, _, _, .nil, e => by cases e; exact ⟨[], rfl, .nil⟩
  | _, _, _, .cons _ .nil, e => by cases e
  | _, _, _, .cons (d := k) r (.cons (d := v) r2 t), e => by
    have e' : ((keyOf k).bind fun q => (pairsD _).map ((q, v) :: ·)) = some _ := e
    obtain ⟨q, e1, e2⟩ := bind_some e'
    obtain ⟨more, e3, e4⟩ := map_some e2
    obtain ⟨ps, h1, h2⟩ := pairs_rl t e3
    have := key_ok r e1
    subst this
    subst e4
    exact ⟨(q, _) :: ps, by rw [unflat, h1]; rfl, .cons ⟨rfl, r2⟩ h2⟩
theorem merge_rl {g : Gh} : ∀ {more : List (Key × D)} {ps : List (Key × V)} {acc : List (Key × D)} {qs : List (Key × V)}, KRl w g more ps → KRl w g acc qs → KRl w g (mergeKD acc more) (mergeK qs ps)
  | _, _, _, _, .nil, h => h
  | (a, x) :: more, (b, y) :: ps, acc, qs, .cons r t, h => by
    obtain ⟨r1, r2⟩ := r
    have r1 : a = b := r1
    subst r1
    show KRl w g (mergeKD (putKD acc a x) more) (mergeK (putK qs a y) ps)
    exact merge_rl (more := more) (ps := ps) t (krl_put r2 h)
theorem s_dlt {es : E} (hp : SPr T w n es) : SAll T w n (.dlt es) := by
  refine .ofE (fun {N sc W X x} G h => ?_) (fun _ _ _ => rfl) (fun _ _ _ => rfl) (fun _ _ _ => rfl)
  cases x with
  | Dict ks vs pos =>
    have h' : (chkD T N sc es ks vs && decide (0 < ks.length) && decide (ks.length ≤ 15)) = true := h
    simp only [Bool.and_eq_true, decide_eq_true_eq] at h'
    obtain ⟨trs, P, ⟨q1, q2⟩, R⟩ := hp (pos := pos) G h'.1.1
    refine (pe_disp P q1 q2 (by intro z; rw [z] at h'; exact absurd h'.1.2 (Nat.lt_irrefl 0)) h'.2).imp fun σ H Q ⟨g, S, env, ok, re, p⟩ => ?_
    intro a ha
    have k2 : Ok w (g.put a) (S.new (.dct [])) (upd H a (.dK [])) := ok.addS (h := .dK []) ha (fun b u q => by
      rw [upd_ne (fun z => by subst z; rw [ha] at q; cases q)]; exact q) upd_same ⟨[], rfl, .nil⟩
    have ea : (g.put a).ι S.nx = a := by rw [ok.nx]; exact Gh.put_ι
    have hlt : S.nx < (g.put a).nx := by rw [ok.nx]; exact Nat.lt_succ_self _
    have p1 : Pst w (g.put a) (Ew w W σ) Q ((evA (sem T n) (gvs T) es env).bind (fun xs => dltM S.nx xs) (S.new (.dct []))) := Pg.mono Gh.put_le p
    refine R σ _ _ (liftA_mono (fun ys H2 ⟨g2, S2, ds, l2, k3, r2, p2⟩ => ?_) (bA k2 (re.mono Gh.put_le) p1))
    have p3 : Pst w g2 (Ew w W σ) Q (match obDct (S2.ob S.nx), pairsD ds with
      | some [], some kvs => if kvs.length ≤ 15 then .ok (.loc S.nx) (S2.set S.nx (.dct (mergeKD [] kvs))) else .bad
      | _, _ => .bad) := p2
    have ea2 : g2.ι S.nx = a := by rw [l2.ι _ hlt]; exact ea
    cases q3 : S2.ob S.nx with
    | none => rw [q3] at p3; exact p3.elim
    | some ob =>
      cases ob with
      | dct kvs0 =>
        rw [q3] at p3
        cases kvs0 with
        | cons _ _ => exact p3.elim
        | nil =>
          cases q4 : pairsD ds with
          | none => rw [q4] at p3; exact p3.elim
          | some kvs =>
            rw [q4] at p3
            have p4 : Pst w g2 (Ew w W σ) Q (if kvs.length ≤ 15 then .ok (.loc S.nx) (S2.set S.nx (.dct (mergeKD [] kvs))) else .bad) := p3
            split at p4
            · rename_i hl
              obtain ⟨ps0, e1, e2⟩ := k3.ob S.nx _ q3
              cases e2
              rw [ea2] at e1
              obtain ⟨ps, f1, f2⟩ := pairs_rl r2 q4
              refine ⟨e1, ps, f1, by rw [← krl_len f2]; exact hl, ?_⟩
              have k4 := k3.setS (o' := .dct (mergeKD [] kvs)) (h := .dK (mergeK [] ps)) q3 ⟨_, rfl, merge_rl (acc := []) (qs := []) f2 .nil⟩
              rw [ea2] at k4
              have z : Rl w g2 (.loc S.nx) (.ref (g2.ι S.nx)) := .loc (Nat.lt_of_lt_of_le hlt l2.nx)
              rw [ea2] at z
              exact p4 g2 _ (Gh.Le.refl g2) k4 _ z
            · exact p4.elim
      | _ => rw [q3] at p3; exact p3.elim
  | _ => exact absurd h Bool.false_ne_true

def rDcp : V → List V → Hp → VK → Prop := fun x xs H Q => ∃ a kvs, x = .ref a ∧ xs = [] ∧ H a = some (.dK kvs) ∧ ∀ p, H p = none → Q (.ref p) (upd H p (.dK kvs))
theorem mt_dcp {X : Cx} : MtR X "dict.copy" rDcp := by
  intro pins s σ H x xs v us Q I rx rxs h
  obtain ⟨a, kvs, rfl, rfl, e, q⟩ := h
  cases rx
  cases rxs
  obtain ⟨z, hd, vs, rel, dd⟩ := dk_of I.hok e
  refine call_meetsIn PySem.F.slot_dict_copy dd.mapOf.typeIs PySem.F.entry_dict_copy (PySem.F.args_dict_copy_1 _) (meets_dict_copy (mixKind X.prog X.w) a hd) ⟨vs, dd, by rw [← rel.length]; exact z, fun h' dd' _ hk => ?_⟩
  exact ⟨.ref s.heap.objs.size, _, I.laid (a := s.heap.objs.size) (o := .dK kvs) (t' := s.toks) hk (Nat.le_refl _) (dk_new z (beq_eq_false_iff_ne.mpr (Ne.symm (Nat.ne_of_lt I.big))) rel dd'), rfl, q _ (I.hok.fresh (Nat.le_refl _))⟩
theorem s_dcp {a : E} (ha : SAll T w n a) : SAll T w n (.dcp a) := by
  refine .ofE (fun {N sc W X x} G h => ?_) (fun _ _ _ => rfl) (fun _ _ _ => rfl) (fun _ _ _ => rfl)
  cases x with
  | Call fn xs kw pos =>
    cases fn with
    | Attribute x m apos =>
      match xs, kw, h with
      | [], [], h =>
        have h' : (decide (m = ("copy" : Str)) && (apos.endLine == pos.line) && noSup x && chkE T N sc a x) = true := h
        simp only [Bool.and_eq_true, decide_eq_true_eq] at h'
        obtain ⟨⟨⟨rfl, h2⟩, h3⟩, h4⟩ := h'
        refine (pe_bm0 PySem.F.plainAttrs_dict PySem.F.slot_dict_copy PySem.F.type_dict_copy mt_dcp (ha.se G h4) (sup1 h3 _ _) h2).imp fun σ H Q ⟨g, S, env, ok, re, p⟩ => ?_
        refine liftE_mono (fun x H1 ⟨g1, S1, d1, l1, k1, r1, p1⟩ => ?_) (bE ok re p)
        have p2 : Pst w g1 (Ew w W σ) Q (match dctOf S1 d1 with
          | some kvs => .ok (.loc S1.nx) (S1.new (.dct kvs))
          | none => .bad) := p1
        cases q : dctOf S1 d1 with
        | none => rw [q] at p2; exact p2.elim
        | some kvs =>
          rw [q] at p2
          obtain ⟨n', ps, rfl, q1, rfl, e1, e2⟩ := dct_ok k1 r1 q
          refine ⟨.inr (.inr (.inl ⟨rfl, .inl ⟨ps, e1⟩⟩)), _, ps, rfl, rfl, e1, fun b hb => ?_⟩
          have k2 : Ok w (g1.put b) (S1.new (.dct kvs)) (upd H1 b (.dK ps)) := k1.addS (h := .dK ps) hb (fun b' u q => by
            rw [upd_ne (fun z => by subst z; rw [hb] at q; cases q)]; exact q) upd_same ⟨ps, rfl, e2.mono Gh.put_le⟩
          have e : (g1.put b).ι S1.nx = b := by rw [k1.nx]; exact Gh.put_ι
          have z : Rl w (g1.put b) (.loc S1.nx) (.ref ((g1.put b).ι S1.nx)) := .loc (by rw [k1.nx]; exact Nat.lt_succ_self _)
          rw [e] at z
          exact p2 _ _ Gh.put_le k2 _ z
      | _ :: _, _, h => exact absurd h Bool.false_ne_true
      | [], _ :: _, h => exact absurd h Bool.false_ne_true
    | _ => exact absurd h Bool.false_ne_true
  | _ => exact absurd h Bool.false_ne_true
/-! ### get, pop -/
theorem m1_of {X : Cx} {x y : Expr} {m : Str} {apos pos : Pos} (h2 : (apos.endLine == pos.line) = true) (h3 : noSup x = true) (h4 : noStar y = true) : M1 X x m apos y pos := by
  have e : backTo pos (starEach [y] X.env) = [(false, eval y X.env)] := by rw [star1 h4]; rfl
  exact ⟨sup1 h3 _ _, by rw [e]; rfl, h2, e⟩
theorem m2_of {X : Cx} {x y u : Expr} {m : Str} {apos pos : Pos} (h2 : (apos.endLine == pos.line) = true) (h3 : noSup x = true) (h4 : noStar y = true) (h5 : noStar u = true) : M2 X x m apos y u pos := by
  have e : backTo pos (starEach [y, u] X.env) = [(false, eval y X.env), (false, eval u X.env)] := by rw [star1 h4, star1 h5]; rfl
  exact ⟨sup1 h3 _ _, by rw [e]; rfl, h2, e⟩
theorem s_dg2 {a i x : E} (ha : SAll T w n a) (hi : SAll T w n i) (hx : SAll T w n x) : SAll T w n (.dg2 a i x) := by
  refine .ofE (fun {N sc W X x} G h => ?_) (fun _ _ _ => rfl) (fun _ _ _ => rfl) (fun _ _ _ => rfl)
  cases x with
  | Call fn xs kw pos =>
    cases fn with
    | Attribute x m apos =>
      match xs, kw, h with
      | [y, u], [], h =>
        have h' : (decide (m = ("get" : Str)) && (apos.endLine == pos.line) && noSup x && noStar y && noStar u && chkE T N sc a x && chkE T N sc i y && chkE T N sc _ u) = true := h
        simp only [Bool.and_eq_true, decide_eq_true_eq] at h'
        obtain ⟨⟨⟨⟨⟨⟨⟨rfl, h2⟩, h3⟩, h4⟩, h5⟩, h6⟩, h7⟩, h8⟩ := h'
        refine (pe_dget2 (units1 G.room) (ha.se G h6) (hi.se G h7) (hx.se G h8) (m2_of h2 h3 h4 h5)).imp fun σ H Q ⟨g, S, env, ok, re, p⟩ => ?_
        refine liftE_mono (fun x H1 ⟨g1, S1, d1, l1, k1, r1, p1⟩ => ?_) (bE ok re p)
        split at p1
        · rename_i hd
          obtain ⟨kvs, hk⟩ := Option.isSome_iff_exists.mp hd
          obtain ⟨n', ps, rfl, q1, rfl, e1, e2⟩ := dct_ok k1 r1 hk
          refine ⟨_, rfl, .inl ⟨ps, .inl e1⟩, ?_⟩
          refine liftE_mono (fun y H2 ⟨g2, S2, d2, l2, k2, r2, p2⟩ => ?_) (bE k1 (re.mono l1) p1)
          refine liftE_mono (fun z H3 ⟨g3, S3, d3, l3, k3, r3, p3⟩ => ?_) (bE k2 ((re.mono l1).mono l2) p2)
          have p4 : Pst w g3 (Ew w W σ) Q (match dgtP S3 (.loc n') d2 with
            | some r => .ok (r.getD d3) S3
            | none => .bad) := p3
          cases q : dgtP S3 (.loc n') d2 with
          | none => rw [q] at p4; exact p4.elim
          | some o =>
            rw [q] at p4
            obtain ⟨b, r, eb, f1, f2, f3⟩ := dgt_ok k3 ((r1.mono l2).mono l3) (r2.mono l3) q
            have eb' : b = g1.ι n' := (V.ref.inj eb).symm
            subst eb'
            refine ⟨r, f1, ?_⟩
            cases o with
            | none => rw [f3 rfl]; exact p4 g3 H3 (Gh.Le.refl g3) k3 _ r3
            | some zz => obtain ⟨v, rfl, rv⟩ := f2 zz rfl; exact p4 g3 H3 (Gh.Le.refl g3) k3 _ rv
        · exact p1.elim
      | [], _, h => exact absurd h Bool.false_ne_true
      | [_], _, h => exact absurd h Bool.false_ne_true
      | [_, _], _ :: _, h => exact absurd h Bool.false_ne_true
      | _ :: _ :: _ :: _, _, h => exact absurd h Bool.false_ne_true
    | _ => exact absurd h Bool.false_ne_true
  | _ => exact absurd h Bool.false_ne_true
theorem s_dpp {a i : E} (ha : SAll T w n a) (hi : SAll T w n i) : SAll T w n (.dpp a i) := by
  refine .ofE (fun {N sc W X x} G h => ?_) (fun _ _ _ => rfl) (fun _ _ _ => rfl) (fun _ _ _ => rfl)
  cases x with
  | Call fn xs kw pos =>
    cases fn with
    | Attribute x m apos =>
      match xs, kw, h with
      | [y], [], h =>
        have h' : (decide (m = ("pop" : Str)) && (apos.endLine == pos.line) && noSup x && noStar y && chkE T N sc a x && chkE T N sc i y) = true := h
        simp only [Bool.and_eq_true, decide_eq_true_eq] at h'
        obtain ⟨⟨⟨⟨⟨rfl, h2⟩, h3⟩, h4⟩, h6⟩, h7⟩ := h'
        refine (pe_dpop1 (ha.se G h6) (hi.se G h7) (m1_of h2 h3 h4)).imp fun σ H Q ⟨g, S, env, ok, re, p⟩ => ?_
        refine liftE_mono (fun x H1 ⟨g1, S1, d1, l1, k1, r1, p1⟩ => ?_) (bE ok re p)
        split at p1
        · rename_i hd
          obtain ⟨kvs, hk⟩ := Option.isSome_iff_exists.mp hd
          obtain ⟨n', ps, rfl, q1, rfl, e1, e2⟩ := dct_ok k1 r1 hk
          refine ⟨_, rfl, .inl ⟨ps, .inl e1⟩, ?_⟩
          refine liftE_mono (fun y H2 ⟨g2, S2, d2, l2, k2, r2, p2⟩ => ?_) (bE k1 (re.mono l1) p1)
          have p3 : Pst w g2 (Ew w W σ) Q (match keyOf d2 with
            | some k => match obDct (S2.ob n') with
              | some kvs => match lookK kvs k with
                | some v => .ok v (S2.set n' (.dct (dropKD kvs k)))
                | none => .bad
              | none => .bad
            | none => .bad) := by
            have p2' : Pst w g2 (Ew w W σ) Q (dpopM (.loc n') d2 S2) := p2
            unfold dpopM at p2'
            cases hk2 : keyOf d2 with
            | none => rw [hk2] at p2'; exact p2'
            | some k => rw [hk2] at p2'; exact p2'
          cases hk2 : keyOf d2 with
          | none => rw [hk2] at p3; exact p3.elim
          | some ky =>
            rw [hk2] at p3
            cases ho : obDct (S2.ob n') with
            | none => simp only [ho] at p3; exact p3.elim
            | some kvs2 =>
              simp only [ho] at p3
              cases hl : lookK kvs2 ky with
              | none => simp only [hl] at p3; exact p3.elim
              | some v =>
                simp only [hl] at p3
                obtain ⟨n2, ps2, en, q2, ev, f1, f2⟩ := dct_ok k2 (r1.mono l2) (show dctOf S2 (.loc n') = some kvs2 from ho)
                cases en
                obtain ⟨vv, g1', g2'⟩ := krl_some f2 hl
                have ei : g2.ι n' = g1.ι n' := (V.ref.inj ev).symm
                refine ⟨ps2, ky, vv, by rw [← ei]; exact f1, key_ok r2 hk2, g1', ?_⟩
                have k3 := k2.setS q2 (o' := .dct (dropKD kvs2 ky)) (h := .dK (dropK ps2 ky)) ⟨_, rfl, krl_drop f2⟩
                rw [ei] at k3
                exact p3 g2 _ (Gh.Le.refl g2) k3 vv g2'
        · exact p1.elim
      | [], _, h => exact absurd h Bool.false_ne_true
      | [_], _ :: _, h => exact absurd h Bool.false_ne_true
      | _ :: _ :: _, _, h => exact absurd h Bool.false_ne_true
    | _ => exact absurd h Bool.false_ne_true
  | _ => exact absurd h Bool.false_ne_true
/-! ### reversed; comparing what holds places -/
theorem s_rev {m : Bool} {a : E} (ha : SAll T w n a) : SAll T w n (.rev m a) := by
  refine .ofE (fun {N sc W X x} G h => ?_) (fun _ _ _ => rfl) (fun _ _ _ => rfl) (fun _ _ _ => rfl)
  match x, h with
  | .Subscript x (.Slice none none (some (.UnaryOp .USub (.Constant (.int j) k1 p1) p2)) p3) pos, h =>
    have h' : (decide (j = 1) && chkE T N sc a x) = true := h
    simp only [Bool.and_eq_true, decide_eq_true_eq] at h'
    obtain ⟨rfl, h2⟩ := h'
    refine (pe_revL (ha.se G h2)).imp fun σ H Q ⟨g, S, env, ok, re, p⟩ => ?_
    refine liftE_mono (fun x H1 ⟨g1, S1, d1, l1, k1, r1, p1⟩ => ?_) (bE ok re p)
    have p2 : Pst w g1 (Ew w W σ) Q (finO m ((lstOf S1 d1).map fun xs => PR.newl xs.reverse) S1) := p1
    cases q : lstOf S1 d1 with
    | none => rw [q] at p2; exact p2.elim
    | some xs =>
      rw [q] at p2
      obtain ⟨b, vs, rfl, s1, t1⟩ := lstOf_ok k1 r1 q
      exact ⟨b, vs, rfl, by rw [G.hw]; exact s1, fin_newl (m := m) p2 k1 t1.reverse⟩
section
variable {g : Gh} {S : Store} {H : Hp}
theorem pys1_ok (k : Ok w g S H) : ∀ {ds : List D} {vs : List V} {ps : List PyData}, Rls w g ds vs → pys1 S ds = some ps → DpAll w.K H vs ps
  | _, _, _, .nil, e => by cases e; exact .nil
  | _, _, _, .cons (d := d) (ds := ds) r t, e => by
    obtain ⟨a, e1, e2⟩ := bind_some (show (pyS S d).bind (fun a => (pys1 S ds).map (a :: ·)) = some _ from e)
    obtain ⟨as, e3, rfl⟩ := map_some e2
    exact .cons (pyS_ok k r e1) (pys1_ok k t e3)
theorem py2_ok (k : Ok w g S H) {d : D} {v : V} {p : PyData} (r : Rl w g d v) (e : py2 S d = some p) : Dp w.K H v p := by
  have gen : pyS S d = some p → Dp w.K H v p := fun e => pyS_ok k r e
  cases r with
  | @tup a xs ds s r =>
    obtain ⟨ps, e1, rfl⟩ := map_some (show (pys1 S ds).map PyData.tuple = some p from e)
    exact .tup (k.sqT s) (pys1_ok k r e1)
  | @lst a xs ds s r =>
    obtain ⟨ps, e1, rfl⟩ := map_some (show (pys1 S ds).map PyData.list = some p from e)
    exact .lst (.inl (.inl (k.sub _ _ s))) (pys1_ok k r e1)
  | _ => exact gen e
end
theorem cmn_ok {X : Cx} {b : Bool} (m : Bool) (hw : X.K = w.K) (hu : X.A.units + 64 < cLine) : OpR X (compareOp (if m = true then .NotEq else .Eq)) (r2 w b fun S d e => bV (eqN S m d e)) := by
  intro pins s σ H x y v u Q I rx ry h
  obtain ⟨g, S, d, e, r, k, r1, r2, q0, p⟩ := r2_mono h
  have q' : ∃ z, eqN S m d e = some z ∧ r = .val (.bl z) := by
    cases c : eqN S m d e with
    | none => rw [c] at q0; cases q0
    | some z => rw [c] at q0; cases q0; exact ⟨z, rfl, rfl⟩
  obtain ⟨z, q, er⟩ := q'
  rw [er] at p
  unfold eqN at q
  cases h1 : py2 S d with
  | none => rw [h1] at q; cases q
  | some a =>
    cases h2 : py2 S e with
    | none => rw [h1, h2] at q; cases q
    | some c =>
      rw [h1, h2] at q
      simp only at q
      split at q
      · rename_i hs
        rw [Bool.and_eq_true] at hs
        cases q
        have D1 := py2_ok k r1 h1
        have D2 := py2_ok k r2 h2
        rw [← hw] at D1 D2
        cases m with
        | true =>
          have e1 : (true != PyData.eqv a c) = !PyData.eqv a c := by cases PyData.eqv a c <;> rfl
          rw [e1] at p
          exact op_neD hu pins s σ H x y v u Q I rx ry ⟨a, c, D1, D2, hs.1, hs.2, fin_val p k (.bl _)⟩
        | false =>
          have e1 : (false != PyData.eqv a c) = PyData.eqv a c := by cases PyData.eqv a c <;> rfl
          rw [e1] at p
          exact op_eqD hu pins s σ H x y v u Q I rx ry ⟨a, c, D1, D2, hs.1, hs.2, fin_val p k (.bl _)⟩
      · cases q
theorem s_cmn {m : Bool} {a b : E} (ha : SAll T w n a) (hb : SAll T w n b) : SAll T w n (.cmn m a b) := by
  have nb : ∀ y : Expr, behindInMarks (if m = true then CmpOp.NotEq else CmpOp.Eq) y = false := fun y => by cases m <;> exact nobehind _ (by decide) (by decide)
  refine ⟨fun {N sc W X x} G h => ?_, fun _ q => absurd q Bool.false_ne_true, fun {N sc W X x} G h => ?_, fun {N sc W X o vs pos} G h => absurd h Bool.false_ne_true, fun _ q => absurd q Bool.false_ne_true⟩
  · cases x with
    | Compare x ops ys pos =>
      match ops, ys, h with
      | [o], [y], h =>
        have h' : (decide (o = if m = true then .NotEq else .Eq) && chkE T N sc a x && chkE T N sc b y) = true := h
        simp only [Bool.and_eq_true, decide_eq_true_eq] at h'
        obtain ⟨⟨rfl, h1⟩, h2⟩ := h'
        refine (pe_cmpR (cmn_ok (b := false) m G.hw G.room.units) (ha.se G h1) (hb.se G h2) (nb y)).imp fun σ H Q ⟨g, S, env, ok, re, p⟩ => ?_
        refine liftE_mono (fun x H1 ⟨g1, S1, d1, l1, k1, r1, p1⟩ => ?_) (bE ok re p)
        refine liftE_mono (fun y H2 ⟨g2, S2, d2, l2, k2, r2, p2⟩ => ?_) (bE k1 (re.mono l1) p1)
        exact ⟨g2, S2, d1, d2, k2, r1.mono l2, r2, noX p2⟩
      | [], _, h => exact absurd h Bool.false_ne_true
      | [_], [], h => exact absurd h Bool.false_ne_true
      | [_], _ :: _ :: _, h => exact absurd h Bool.false_ne_true
      | _ :: _ :: _, _, h => exact absurd h Bool.false_ne_true
    | _ => exact absurd h Bool.false_ne_true
  · cases x with
    | Compare x ops ys pos =>
      match ops, ys, h with
      | [o], [y], h =>
        have h' : (decide (o = if m = true then .NotEq else .Eq) && chkE T N sc a x && chkE T N sc b y) = true := h
        simp only [Bool.and_eq_true, decide_eq_true_eq] at h'
        obtain ⟨⟨rfl, h1⟩, h2⟩ := h'
        refine (pt_cmpR (cmn_ok (b := false) m G.hw G.room.units) (ha.se G h1) (hb.se G h2) (nb y)).imp fun σ H Q ⟨g, S, env, ok, re, p⟩ => ?_
        refine liftE_mono (fun x H1 ⟨g1, S1, d1, l1, k1, r1, p1⟩ => ?_) (bE ok re p)
        refine liftE_mono (fun y H2 ⟨g2, S2, d2, l2, k2, r2, p2⟩ => ?_) (bE k1 (re.mono l1) p1)
        exact ⟨g2, S2, d1, d2, k2, r1.mono l2, r2, cmpV p2⟩
      | [], _, h => exact absurd h Bool.false_ne_true
      | [_], [], h => exact absurd h Bool.false_ne_true
      | [_], _ :: _ :: _, h => exact absurd h Bool.false_ne_true
      | _ :: _ :: _, _, h => exact absurd h Bool.false_ne_true
    | _ => exact absurd h Bool.false_ne_true
end
end ML

namespace ML
open PySem PySem.Spec PyProof.Rows L2
section
variable {T : Tab} {w : Wd} {n : Nat}

/-! ### comprehensions -/
def finishC (m : Bool) (k : Nat) : Rs Unit → Rs D
  | .ok _ S2 => if m = true then .ok (.loc k) S2 else match obLst (S2.ob k) with
    | some acc => .ok (.lst acc) (S2.del k)
    | none => .bad
  | _ => .bad
theorem compM_eq (m : Bool) (src : Src) (f : D → M (Option D)) (S : Store) : compM m src f S = finishC m S.nx (loopC src S.nx f src.num 0 (S.new (.lst []))) := by
  unfold compM finishC
  cases loopC src S.nx f src.num 0 (S.new (.lst [])) <;> rfl
def turnC (env : Env) (vs : List Nat) (i : Nat) (ft : Env → M Bool) (fe : Env → M D) : D → M (Option D) := fun x =>
  (ft ((wipeE env vs).set i (some x))).bind fun t => if t = true then (fe ((wipeE env vs).set i (some x))).bind fun y => M.pure (some y) else M.pure none
theorem comp_ok {W : WX} {g1 : Gh} {S1 : Store} {H1 : Hp} {env : Env} {σ : L2.St} {Q : VK} {E : Str → Hp → Prop} {m : Bool} {src : Src} {J : It} {vs : List Nat} {i : Nat} {ft : Env → M Bool} {fe : Env → M D} {Da : Addr}
    (k1 : Ok w g1 S1 H1) (re : REnv w g1 env σ) (it : ItOk w g1 src J) (hD : H1 Da = none) (hi : i ∈ vs) (p1 : Pst w g1 E Q (compM m src (turnC env vs i ft fe) S1)) :
    ∃ W' : Nat → Nat → Hp → Prop, (∃ m, W' 0 m (upd H1 Da (.lst []))) ∧ ∀ j m H, W' j m H →
      (J.stop j H ∧ Q (.ref Da) H) ∨ (J.go j H ∧ ∃ Nx : Hp → Prop, (∀ H', Nx H' → ∃ m', m' < m ∧ W' (j + 1) m' H') ∧ ∀ x H', J.yld j H x H' → gName i x (L2.wipe σ vs) H' fun σ2 H2 => L2.wipe σ2 vs = L2.wipe σ vs ∧ liftT w ft W σ2 H2 fun b H3 =>
        if b = true then liftE w fe W σ2 H3 fun y H4 => ∃ acc, H4 Da = some (.lst acc) ∧ acc.length < sizeLine ∧ Nx (upd H4 Da (.lst (acc ++ [y]))) else Nx H3) := by
  rw [compM_eq] at p1
  have lp : g1.Le (g1.put Da) := Gh.put_le
  have ιD : ∀ g', (g1.put Da).Le g' → g'.ι S1.nx = Da := fun g' l => by
    rw [k1.nx, l.ι g1.nx (Nat.lt_succ_self _)]
    exact Gh.put_ι
  refine ⟨fun j k H => j + k = src.num ∧ ∃ g' S', (g1.put Da).Le g' ∧ Ok w g' S' H ∧ Pst w g' E Q (finishC m S1.nx (loopC src S1.nx (turnC env vs i ft fe) k j S')), ⟨src.num, Nat.zero_add _, g1.put Da, S1.new (.lst []), Gh.Le.refl _, ?_, p1.mono lp⟩, ?_⟩
  · exact k1.addS hD (fun b u q => by rw [upd_ne (ne_of_none q hD)]; exact q) upd_same ⟨[], rfl, .nil⟩
  rintro j k H ⟨hjk, g', S', l', k', p⟩
  have itj := it g' S' H (lp.trans l') k' j
  cases k with
  | zero =>
    have p' : Pst w g' E Q (finishC m S1.nx (if src.over S' = true then .ok () S' else .bad)) := p
    split at p'
    · rename_i ho
      refine .inl ⟨itj.2 (by omega) ho, ?_⟩
      cases m with
      | true =>
        have p2 : Pst w g' E Q (.ok (.loc S1.nx) S') := p'
        have hn : S1.nx < g'.nx := Nat.lt_of_lt_of_le (by rw [k1.nx]; exact Nat.lt_succ_self _) l'.nx
        have r : Rl w g' (.loc S1.nx) (.ref (g'.ι S1.nx)) := .loc hn
        rw [ιD g' l'] at r
        exact p2 g' H (Gh.Le.refl g') k' _ r
      | false =>
        have p2 : Pst w g' E Q (match obLst (S'.ob S1.nx) with
          | some acc => .ok (.lst acc) (S'.del S1.nx)
          | none => .bad) := p'
        cases q : obLst (S'.ob S1.nx) with
        | none => rw [q] at p2; exact p2.elim
        | some acc =>
          rw [q] at p2
          have z := frz_ok k' q p2
          rw [ιD g' l'] at z
          exact z
    · exact p'.elim
  | succ k =>
    have p' : Pst w g' E Q (finishC m S1.nx (match src.get S' j with
      | none => .bad
      | some x => match turnC env vs i ft fe x S' with
        | .ok none S1' => loopC src S1.nx (turnC env vs i ft fe) k (j + 1) S1'
        | .ok (some y) S1' => match obLst (S1'.ob S1.nx) with
          | some acc => if acc.length < nMax then loopC src S1.nx (turnC env vs i ft fe) k (j + 1) (S1'.set S1.nx (.lst (acc ++ [y]))) else .bad
          | none => .bad
        | _ => .bad)) := p
    cases hg : src.get S' j with
    | none => rw [hg] at p'; exact p'.elim
    | some d =>
      rw [hg] at p'
      simp only at p'
      obtain ⟨go, yl⟩ := itj.1 d hg
      refine .inr ⟨go, fun H' => ∃ g'' S'', (g1.put Da).Le g'' ∧ Ok w g'' S'' H' ∧ Pst w g'' E Q (finishC m S1.nx (loopC src S1.nx (turnC env vs i ft fe) k (j + 1) S'')), fun H' ⟨g'', S'', a1, a2, a3⟩ => ⟨k, Nat.lt_succ_self _, by omega, g'', S'', a1, a2, a3⟩, fun x H' y => ?_⟩
      obtain ⟨rfl, rx⟩ := yl x H' y
      have re2 : REnv w g' ((wipeE env vs).set i (some d)) ((L2.wipe σ vs).set i (some x)) := (wipe_rel (re.mono (lp.trans l')) vs).set i rx
      refine ⟨by rw [wipe_set hi, wipe_idem], g', S', _, k', re2, ?_⟩
      cases hft : ft ((wipeE env vs).set i (some d)) S' with
      | exc c S3 =>
        have e : turnC env vs i ft fe d S' = .exc c S3 := by unfold turnC M.bind; rw [hft]; rfl
        rw [e] at p'
        exact p'.elim
      | bad =>
        have e : turnC env vs i ft fe d S' = .bad := by unfold turnC M.bind; rw [hft]; rfl
        rw [e] at p'
        exact p'.elim
      | ok t S3 =>
        intro g3 H3 l3 k3
        cases t with
        | false =>
          have e : turnC env vs i ft fe d S' = .ok none S3 := by unfold turnC M.bind; rw [hft]; rfl
          rw [e] at p'
          exact iteF ⟨g3, S3, l'.trans l3, k3, p'.mono l3⟩
        | true =>
          refine iteT ⟨g3, S3, _, k3, re2.mono l3, ?_⟩
          cases hfe : fe ((wipeE env vs).set i (some d)) S3 with
          | exc c S4 =>
            have e : turnC env vs i ft fe d S' = .exc c S4 := by
              unfold turnC M.bind
              rw [hft]
              show ((fe _ S3).andThen _) = _
              rw [hfe]
              rfl
            rw [e] at p'
            exact p'.elim
          | bad =>
            have e : turnC env vs i ft fe d S' = .bad := by
              unfold turnC M.bind
              rw [hft]
              show ((fe _ S3).andThen _) = _
              rw [hfe]
              rfl
            rw [e] at p'
            exact p'.elim
          | ok yd S4 =>
            have e : turnC env vs i ft fe d S' = .ok (some yd) S4 := by
              unfold turnC M.bind
              rw [hft]
              show ((fe _ S3).andThen _) = _
              rw [hfe]
              rfl
            rw [e] at p'
            simp only at p'
            intro g4 H4 l4 k4 yv ry
            cases hq : obLst (S4.ob S1.nx) with
            | none => rw [hq] at p'; exact p'.elim
            | some acc =>
              rw [hq] at p'
              simp only at p'
              split at p'
              · rename_i hl
                obtain ⟨us, h1, h2⟩ := k4.ob S1.nx _ (obLst_some hq)
                have ιe := ιD g4 ((l'.trans l3).trans l4)
                have k5 := k4.setS (o' := .lst (acc ++ [yd])) (obLst_some hq) ⟨_, rfl, h2.append (.cons ry .nil)⟩
                rw [ιe] at h1 k5
                exact ⟨us, h1, by rw [← h2.length]; exact nMax_lt hl, g4, _, (l'.trans l3).trans l4, k5, (p'.mono l3).mono l4⟩
              · exact p'.elim
theorem _root_.L2.PTs.imp {X : Cx} {e : List Expr} {t t' : TT} (h : ∀ σ H Q, t' σ H Q → t σ H Q) (p : PTs X e t) : PTs X e t' := ⟨fun pins s σ H Q I q => p.run pins s σ H Q I (h σ H Q q)⟩
theorem Good.blk {N : List Str} {sc scope : Scope} {W : WX} {X : Cx} (G : Good T w n N sc W X) (s : Shared) (H : Hp) (C : Addr) (cl : List (Str × Addr)) (fp : List Addr) :
    Good T w n N (relS scope sc) (fun _ _ _ _ => False) (X.blk s H scope (compEnvC scope cl C X.env) fp) :=
  ⟨G.hN, G.nd, by rw [← G.hs]; rfl, G.hw, G.calm, G.room, takes0, G.cst, G.blt, G.dct, G.cls, G.sub, G.fn, G.nof, G.mth, G.mks⟩
theorem set2 {y : Expr} (h : noSet y = true) (env : PySem.Env) : ∀ x, foldedSetIterable y env x = pure x := by
  intro x
  cases y <;> first | rfl | cases h
/-- the parts of a comprehension -/
structure LcParts (w : Wd) (X : Cx) (W : WX) (ev : Env → M D) (elt tg iter : Expr) (ifs : List Expr) (scope : Scope) (own : List (Str × Nat)) (wi : TI) (g : TG) (tt : TT) (te : TE) : Prop where
  hi : PI X tg iter wi
  ok : BlkOk X.N X.env.scope scope own
  hg : ∀ (s : Shared) (H : Hp) (C : Addr) (cl : List (Str × Addr)) (fp : List Addr), PG (X.blk s H scope (compEnvC scope cl C X.env) fp) tg g
  ht : ∀ (s : Shared) (H : Hp) (C : Addr) (cl : List (Str × Addr)) (fp : List Addr), PTs (X.blk s H scope (compEnvC scope cl C X.env) fp) ifs tt
  he : ∀ (s : Shared) (H : Hp) (C : Addr) (cl : List (Str × Addr)) (fp : List Addr), PE (X.blk s H scope (compEnvC scope cl C X.env) fp) elt te
  hs : ∀ x, foldedSetIterable iter X.env x = pure x
  rd : ∀ σ H Q, liftE w ev W σ H Q → tLc wi g tt te (own.map (·.2)) σ H Q
theorem lc_parts {N : List Str} {sc : Scope} {W : WX} {X : Cx} {m : Bool} {own : List (Str × Nat)} {i : Nat} {it c e : E} {x : Expr} (h1 : SAll T w n it) (h2 : SAll T w n c) (h3 : SAll T w n e) (G : Good T w n N sc W X) (h : chkE T N sc (.lc m own i it c e) x = true) :
    ∃ elt tg iter ifs scope pos wi g tt te, x = .ListComp elt [⟨tg, iter, ifs, 0⟩] scope pos ∧ LcParts w X W (evE (sem T n) (gvs T) (.lc m own i it c e)) elt tg iter ifs scope own wi g tt te := by
  cases x with
  | ListComp elt gs scope pos =>
    have h0 : (match lcOf gs with
      | some (y, iter, ifs) => blkC N sc scope own && decide (i ∈ own.map (·.2)) && decide (N[i]? = some y) && locB scope y && noSet iter && chkI T N sc it iter && chkIf (isOff c) (chkT T N (relS scope sc) c) ifs && chkE T N (relS scope sc) e elt
      | none => false) = true := h
    cases hq : lcOf gs with
    | none => rw [hq] at h0; cases h0
    | some p =>
      obtain ⟨y, iter, ifs⟩ := p
      rw [hq] at h0
      obtain ⟨py, rfl⟩ := lcOf_some hq
      have h' : (blkC N sc scope own && decide (i ∈ own.map (·.2)) && decide (N[i]? = some y) && locB scope y && noSet iter && chkI T N sc it iter && chkIf (isOff c) (chkT T N (relS scope sc) c) ifs && chkE T N (relS scope sc) e elt) = true := h0
      simp only [Bool.and_eq_true, decide_eq_true_eq] at h'
      obtain ⟨⟨⟨⟨⟨⟨⟨a1, a2⟩, a3⟩, a4⟩, a5⟩, a6⟩, a7⟩, a8⟩ := h'
      have kk : (scope.names.lookup y = some .local) ∨ (scope.names.lookup y = some .cell) := by
        unfold locB at a4
        split at a4
        · exact .inl (by assumption)
        · exact .inr (by assumption)
        · cases a4
      refine ⟨elt, .Name y py, iter, ifs, scope, pos, liftI w (evI (sem T n) (gvs T) it) W, gName i, liftT w (fun env => if isOff c = true then M.pure true else evT (sem T n) (gvs T) c env) (fun _ _ _ _ => False), liftE w (evE (sem T n) (gvs T) e) (fun _ _ _ _ => False), rfl, ?_⟩
      refine ⟨h1.si G a6, by rw [G.hN, G.hs]; exact blkOk_by a1, fun s H C cl fp => ?_, fun s H C cl fp => ?_, fun s H C cl fp => h3.se (G.blk s H C cl fp) a8, set2 a5 _, fun σ H Q ⟨g, S, env, ok, re, p⟩ => ?_⟩
      · have hl : ∀ k, k ≠ NameKind.free → scope.names.lookup y = some k → (X.blk s H scope (compEnvC scope cl C X.env) fp).env.scope.names.lookup y = some k := fun k hk e1 => lookup_relS_keep (sc := X.env.scope) hk e1
        rcases kk with k1 | k1
        · exact pg_name (i := i) (by show X.N.Nodup; rw [G.hN]; exact G.nd) (by show X.N[i]? = some y; rw [G.hN]; exact a3) (.inl (hl _ (by decide) k1)) (.inr (hl _ (by decide) k1))
        · exact pg_name (i := i) (by show X.N.Nodup; rw [G.hN]; exact G.nd) (by show X.N[i]? = some y; rw [G.hN]; exact a3) (.inr (hl _ (by decide) k1)) (.inl (by show (scope.names.lookup y == some .cell) = true; rw [k1]; rfl))
      · match ifs, a7 with
        | [], a7 =>
          have a7' : isOff c = true := a7
          refine pts_nil.imp fun σ H Q ⟨g, S, env, ok, re, p⟩ => ?_
          simp only [a7', if_true] at p
          exact p g H (Gh.Le.refl g) ok
        | [t], a7 =>
          have a7' : (!isOff c && chkT T N (relS scope sc) c t) = true := a7
          simp only [Bool.and_eq_true, Bool.not_eq_true'] at a7'
          refine (pts_one (h2.st (G.blk s H C cl fp) a7'.2)).imp fun σ H Q ⟨g, S, env, ok, re, p⟩ => ⟨g, S, env, ok, re, ?_⟩
          simp only [a7'.1, Bool.false_eq_true, if_false] at p
          exact p
        | _ :: _ :: _, a7 => exact absurd a7 Bool.false_ne_true
      · refine liftI_mono (fun J H1 ⟨g1, S1, src, l1, k1, itk, p1⟩ => ?_) (bI ok re p)
        intro Da hD
        exact comp_ok (ft := fun env => if isOff c = true then M.pure true else evT (sem T n) (gvs T) c env) k1 (re.mono l1) itk hD a2 p1
  | _ => exact absurd h Bool.false_ne_true
theorem s_lc {m : Bool} {own : List (Str × Nat)} {i : Nat} {it c e : E} (h1 : SAll T w n it) (h2 : SAll T w n c) (h3 : SAll T w n e) : SAll T w n (.lc m own i it c e) := by
  refine .ofE (fun {N sc W X x} G h => ?_) (fun _ _ _ => rfl) (fun _ _ _ => rfl) (fun _ _ _ => rfl)
  obtain ⟨elt, tg, iter, ifs, scope, pos, wi, g, tt, te, rfl, P⟩ := lc_parts h1 h2 h3 G h
  exact (pe_lc G.calm (by rw [G.hN]; exact G.nd) P.hi P.ok P.hg P.ht P.he P.hs).imp P.rd
theorem kD_rl {w : Wd} {g : Gh} (k : Key) : Rl w g (kD k) (kV k) := by
  cases k with
  | inl i => exact .int i
  | inr s => exact .str s
theorem txts_rl {w : Wd} {g : Gh} : ∀ {ds : List D} {vs : List V} {ys : List Str}, Rls w g ds vs → txts ds = some ys → vs = ys.map V.str := fun r e => txts_ok r e
theorem s_lset {a : E} (ha : SAll T w n a) : SAll T w n (.lset a) := by
  refine .ofE (fun {N sc W X x} G h => ?_) (fun _ _ _ => rfl) (fun _ _ _ => rfl) (fun _ _ _ => rfl)
  match x, h with
  | .Call (.Name x _) [.Call (.Name y _) [z] [] _] [] _, h =>
    have h' : (decide (x = ("len" : Str)) && decide (y = ("set" : Str)) && glB sc x && glB sc y && decide (x ∈ T.blt) && decide (y ∈ T.blt) && noStar z && chkE T N sc a z) = true := h
    simp only [Bool.and_eq_true, decide_eq_true_eq] at h'
    obtain ⟨⟨⟨⟨⟨⟨⟨rfl, rfl⟩, g1⟩, g2⟩, b1⟩, b2⟩, ns⟩, c⟩ := h'
    refine (pe_lsetA G.calm (G.gl g1) (G.blt _ b1) (G.gl g2) (G.blt _ b2) (ha.se G c) (star1 ns _ _)).imp fun σ H Q ⟨g, S, env, ok, re, p⟩ => ?_
    refine liftE_mono (fun x H1 ⟨g1, S1, d1, l1, k1, r1, p1⟩ => ?_) (bE ok re p)
    have p2 : Pst w g1 (Ew w W σ) Q (finO false ((seqOf S1 d1).bind fun xs => (txts xs).bind fun ys => if ys.length ≤ 1000 then some (.val (.int (met ys).length)) else none) S1) := p1
    cases q0 : seqOf S1 d1 with
    | none => rw [q0] at p2; exact p2.elim
    | some ds =>
      rw [q0, Option.bind_some] at p2
      obtain ⟨ad, vs, rfl, s1, r⟩ := seqOf_ok k1 r1 q0
      cases q : txts ds with
      | none => rw [q] at p2; exact p2.elim
      | some ys =>
        rw [q, Option.bind_some] at p2
        split at p2
        · rename_i hl
          have e := txts_ok r q
          subst e
          refine ⟨ad, ys, rfl, ?_, hl, fin_val (m := false) p2 k1 (.int _)⟩
          rw [G.hw]
          exact s1.elim .inr .inl
        · exact p2.elim
theorem nsOf {K : PySem.W.Frag} {wd : World} {mg : Str → Option Value} {x : Str} {kvs : List (Str × Key)} : True := trivial
theorem s_inW {x : Str} {kvs : List (Str × Key)} {a : E} (ha : SAll T w n a) : SAll T w n (.inW x kvs a) := by
  refine ⟨fun {N sc W X y} G h => ?_, fun _ q => absurd q Bool.false_ne_true, fun {N sc W X y} G h => ?_, fun {N sc W X o vs pos} G h => absurd h Bool.false_ne_true, fun _ q => absurd q Bool.false_ne_true⟩
  · match y, h with
    | .Compare y [.In] [.Name d pd] pos, h =>
      have h' : (decide (d = x) && glB sc d && nmB d && dctB T x kvs && chkE T N sc a y) = true := h
      simp only [Bool.and_eq_true, decide_eq_true_eq] at h'
      obtain ⟨⟨⟨⟨rfl, g1⟩, g2⟩, hd⟩, c⟩ := h'
      obtain ⟨p, es, m, mp, kd, hz⟩ := G.dct _ _ (dctB_mem hd)
      refine (pe_cmpR (op_in_kd kd) (ha.se G c) (pe_glob (v := .ref p) (G.gl g1) mp rfl (nm1 g2).1) rfl).imp fun σ H Q ⟨g, S, env, ok, re, p⟩ => ?_
      refine liftE_mono (fun x H1 ⟨g1, S1, d1, l1, k1, r1, p1⟩ => ?_) (bE ok re p)
      have p2 : Pst w g1 (Ew w W σ) Q (finO false (bV (inWP kvs d1)) S1) := p1
      cases r1 with
      | str z =>
        obtain ⟨r, e1, e2⟩ := hz z
        have er : r.isSome = (kvs.lookup z).isSome := by
          cases q : kvs.lookup z with
          | none => rw [q] at e2; have e2' : r = none := e2; rw [e2']; rfl
          | some k => rw [q] at e2; obtain ⟨u, e3, _⟩ := e2; rw [e3]; rfl
        exact ⟨z, r, rfl, rfl, e1, by rw [er]; exact fin_val (m := false) p2 k1 (.bl _)⟩
      | _ => exact p2.elim
  · match y, h with
    | .Compare y [.In] [.Name d pd] pos, h =>
      have h' : (decide (d = x) && glB sc d && nmB d && dctB T x kvs && chkE T N sc a y) = true := h
      simp only [Bool.and_eq_true, decide_eq_true_eq] at h'
      obtain ⟨⟨⟨⟨rfl, g1⟩, g2⟩, hd⟩, c⟩ := h'
      obtain ⟨p, es, m, mp, kd, hz⟩ := G.dct _ _ (dctB_mem hd)
      refine (pt_cmpR (op_in_kd kd) (ha.se G c) (pe_glob (v := .ref p) (G.gl g1) mp rfl (nm1 g2).1) rfl).imp fun σ H Q ⟨g, S, env, ok, re, p⟩ => ?_
      refine liftE_mono (fun x H1 ⟨g1, S1, d1, l1, k1, r1, p1⟩ => ?_) (bE ok re p)
      have p2 : Pg w g1 (Ew w W σ) (fun d _ H' => Q d H') (match inWP kvs d1 with
        | some b => Rs.ok b S1
        | none => Rs.bad) := p1
      cases r1 with
      | str z =>
        obtain ⟨r, e1, e2⟩ := hz z
        have er : r.isSome = (kvs.lookup z).isSome := by
          cases q : kvs.lookup z with
          | none => rw [q] at e2; have e2' : r = none := e2; rw [e2']; rfl
          | some k => rw [q] at e2; obtain ⟨u, e3, _⟩ := e2; rw [e3]; rfl
        exact ⟨z, r, rfl, rfl, e1, _, rfl, by rw [er]; exact p2 g1 H1 (Gh.Le.refl g1) k1⟩
      | _ => exact p2.elim
theorem s_ixW {x : Str} {kvs : List (Str × Key)} {a : E} (ha : SAll T w n a) : SAll T w n (.ixW x kvs a) := by
  refine .ofE (fun {N sc W X y} G h => ?_) (fun _ _ _ => rfl) (fun _ _ _ => rfl) (fun _ _ _ => rfl)
  match y, h with
  | .Subscript (.Name d pd) y pos, h =>
    have h' : (decide (d = x) && glB sc d && nmB d && dctB T x kvs && noSlice y && chkE T N sc a y) = true := h
    simp only [Bool.and_eq_true, decide_eq_true_eq] at h'
    obtain ⟨⟨⟨⟨⟨rfl, g1⟩, g2⟩, hd⟩, sl⟩, c⟩ := h'
    obtain ⟨p, es, m, mp, kd, hz⟩ := G.dct _ _ (dctB_mem hd)
    refine (pe_ix ix_kdict (pe_glob (v := .ref p) (G.gl g1) mp rfl (nm1 g2).1) (ha.se G c) (slice1 sl)).imp fun σ H Q ⟨g, S, env, ok, re, p⟩ => ?_
    refine liftE_mono (fun x H1 ⟨g1, S1, d1, l1, k1, r1, p1⟩ => ?_) (bE ok re p)
    have p2 : Pst w g1 (Ew w W σ) Q (finO false ((ixWP kvs d1).map PR.val) S1) := p1
    cases r1 with
    | str z =>
      obtain ⟨r, e1, e2⟩ := hz z
      have p3 : Pst w g1 (Ew w W σ) Q (finO false (((kvs.lookup z).map kD).map PR.val) S1) := p2
      cases q : kvs.lookup z with
      | none => rw [q] at p3; exact p3.elim
      | some k =>
        rw [q] at e2 p3
        obtain ⟨u, e3, ru⟩ := e2
        subst e3
        exact ⟨_, z, kV k, rfl, rfl, ⟨es, m, u, kd.at_, kd.lit, e1, ru⟩, fin_val (m := false) p3 k1 (kD_rl k)⟩
    | _ => exact p2.elim
theorem exn_at {w : Wd} {g : Gh} {S : Store} {H : Hp} {c : Str} {v : V} (k : Ok w g S H) (r : Rl w g (.exn c) v) : ∃ C a, w.cl c = some C ∧ v = .ref a ∧ H a = some (ExK (.ref C) none a) := by
  cases r with
  | @exn _ C a h q => exact ⟨C, a, h, rfl, k.sub a _ q⟩
theorem pe_cls {X : Cx} {x : Str} {p : Pos} {v : V} {u : Value} (hg : Gl X x) (hn : nmB x = true) (k : ClsV v u) (h : NameIs X.mg x u) : PE X (.Name x p) (tC v) := by
  have rv : RelV v u := by cases k <;> rfl
  rcases h with h | ⟨h1, h2⟩
  · exact pe_glob hg h rv (nm1 hn).1
  · exact pe_bltn hg h1 h2 rv (nm1 hn).2.2 (nm1 hn).1
theorem s_isE {a : E} {c : Str} {tb : List (Str × Bool)} (ha : SAll T w n a) : SAll T w n (.isE a c tb) := by
  refine .ofE (fun {N sc W X x} G h => ?_) (fun _ _ _ => rfl) (fun _ _ _ => rfl) (fun _ _ _ => rfl)
  match x, h with
  | .Call (.Name x _) [y, .Name z _] [] _, h =>
    have h' : (decide (x = ("isinstance" : Str)) && glB sc x && decide (x ∈ T.blt) && glB sc z && nmB z && decide (z = c) && decide (c ∈ T.cls) && subB T c tb && noStar y && chkE T N sc a y) = true := h
    simp only [Bool.and_eq_true, decide_eq_true_eq] at h'
    obtain ⟨⟨⟨⟨⟨⟨⟨⟨⟨rfl, h2⟩, h3⟩, h4⟩, h5⟩, rfl⟩, h6⟩, h7⟩, h8⟩, h9⟩ := h'
    obtain ⟨v, u, kv, nu⟩ := G.cls z h6
    have pz : ∀ pp, PE X (.Name z pp) (tC v) := fun pp => pe_cls (G.gl h4) h5 kv nu
    refine (pe_callB call_isX (G.gl h2) (G.blt _ h3) (by decide +kernel) (pa_cons (ha.se G h9) (pa_cons (pz _) pa_nil) (star1 h8 _ _)) (by decide) (by decide) (star1 h8 _ _)).imp fun σ H Q ⟨g, S, env, ok, re, p⟩ => ?_
    refine liftE_mono (fun x H1 ⟨g1, S1, d1, l1, k1, r1, p1⟩ => ?_) (bE ok re p)
    have p2 : Pst w g1 (Ew w W σ) Q (finO false (bV (isEP tb d1)) S1) := p1
    cases d1 with
    | exn c =>
      obtain ⟨C, ad, hC, rfl, hH⟩ := exn_at k1 r1
      have p3 : Pst w g1 (Ew w W σ) Q (finO false (bV (tb.lookup c)) S1) := p2
      cases q : tb.lookup c with
      | none => rw [q] at p3; exact p3.elim
      | some b =>
        rw [q] at p3
        obtain ⟨C', hC', ec, hu⟩ := G.sub c z b (subB_mem h7 q)
        rw [hC] at hC'
        cases hC'
        exact ⟨ad, C, v, u, b, rfl, kv, hH, ec, (hu u nu).1, fin_val (m := false) p3 k1 (.bl _)⟩
    | _ => exact p2.elim
theorem sound2 : ∀ e : E, SAll T w n e ∧ SPr T w n e := by
  intro e
  induction e with
  | var i => exact ⟨s_var i, spr_no fun _ _ ks vs => rfl⟩
  | cI i => exact ⟨s_cI i, spr_no fun _ _ ks vs => rfl⟩
  | cS i => exact ⟨s_cS i, spr_no fun _ _ ks vs => rfl⟩
  | cB i => exact ⟨s_cB i, spr_no fun _ _ ks vs => rfl⟩
  | cN => exact ⟨s_cN, spr_no fun _ _ ks vs => rfl⟩
  | glb k => exact ⟨s_glb k, spr_no fun _ _ ks vs => rfl⟩
  | bop m op a b ha hb => exact ⟨s_bop ha.1 hb.1, spr_no fun _ _ ks vs => rfl⟩
  | neg a ha => exact ⟨s_neg ha.1, spr_no fun _ _ ks vs => rfl⟩
  | nt a ha => exact ⟨s_nt ha.1, spr_no fun _ _ ks vs => rfl⟩
  | cmp op a b ha hb => exact ⟨s_cmp ha.1 hb.1, spr_no fun _ _ ks vs => rfl⟩
  | chn op op' a b c ha hb hc => exact ⟨s_chn ha.1 hb.1 hc.1, spr_no fun _ _ ks vs => rfl⟩
  | one a ha => exact ⟨s_one ha.1, spr_no fun _ _ ks vs => rfl⟩
  | con o a b ha hb => exact ⟨s_con ha.1 hb.1, spr_no fun _ _ ks vs => rfl⟩
  | tru a ha => exact ⟨s_tru ha.1, spr_no fun _ _ ks vs => rfl⟩
  | ite c a b hc ha hb => exact ⟨s_ite hc.1 ha.1 hb.1, spr_no fun _ _ ks vs => rfl⟩
  | nil => exact ⟨s_nil, spr_nil⟩
  | cons a b ha hb => exact ⟨s_cons ha.1 hb.1, spr_no fun _ _ ks vs => rfl⟩
  | tup es h => exact ⟨s_tup h.1, spr_no fun _ _ ks vs => rfl⟩
  | lst m es h => exact ⟨s_lst h.1, spr_no fun _ _ ks vs => rfl⟩
  | idx a i ha hi => exact ⟨s_idx ha.1 hi.1, spr_no fun _ _ ks vs => rfl⟩
  | slc m a lo hi ha hl hh => exact ⟨s_slc ha.1 hl.1 hh.1, spr_no fun _ _ ks vs => rfl⟩
  | off => exact ⟨s_off, spr_no fun _ _ ks vs => rfl⟩
  | blt m f es h => exact ⟨s_blt h.1, spr_no fun _ _ ks vs => rfl⟩
  | met m f o es ho h => exact ⟨s_met ho.1 h.1, spr_no fun _ _ ks vs => rfl⟩
  | call k es h => exact ⟨s_call h.1, spr_no fun _ _ ks vs => rfl⟩
  | isT a t ha => exact ⟨s_isT ha.1, spr_no fun _ _ ks vs => rfl⟩
  | lc m own i it c e h1 h2 h3 => exact ⟨s_lc h1.1 h2.1 h3.1, spr_no fun _ _ ks vs => rfl⟩
  | rng a ha => exact ⟨s_rng ha.1, spr_no fun _ _ ks vs => rfl⟩
  | rng2 a b ha hb => exact ⟨s_rng2 ha.1 hb.1, spr_no fun _ _ ks vs => rfl⟩
  | itr a ha => exact ⟨s_itr ha.1, spr_no fun _ _ ks vs => rfl⟩
  | frz a ha => exact ⟨s_frz ha.1, spr_no fun _ _ ks vs => rfl⟩
  | lset a ha => exact ⟨s_lset ha.1, spr_no fun _ _ ks vs => rfl⟩
  | isE a c tb ha => exact ⟨s_isE ha.1, spr_no fun _ _ ks vs => rfl⟩
  | inW x kvs a ha => exact ⟨s_inW ha.1, spr_no fun _ _ ks vs => rfl⟩
  | ixW x kvs a ha => exact ⟨s_ixW ha.1, spr_no fun _ _ ks vs => rfl⟩
  | fld a c f ha => exact ⟨s_fld ha.1, spr_no fun _ _ ks vs => rfl⟩
  | mcl k c m o es ho h => exact ⟨s_mcl ho.1 h.1, spr_no fun _ _ ks vs => rfl⟩
  | mk k c es h => exact ⟨s_mk h.1, spr_no fun _ _ ks vs => rfl⟩
  | rev m a ha => exact ⟨s_rev ha.1, spr_no fun _ _ ks vs => rfl⟩
  | cmn m a b ha hb => exact ⟨s_cmn ha.1 hb.1, spr_no fun _ _ ks vs => rfl⟩
  | dnw => exact ⟨s_dnw, spr_no fun _ _ ks vs => rfl⟩
  | dgt a i ha hi => exact ⟨s_dgt ha.1 hi.1, spr_no fun _ _ ks vs => rfl⟩
  | din m i a hi ha => exact ⟨s_din hi.1 ha.1, spr_no fun _ _ ks vs => rfl⟩
  | dcp a ha => exact ⟨s_dcp ha.1, spr_no fun _ _ ks vs => rfl⟩
  | dg2 a i x ha hi hx => exact ⟨s_dg2 ha.1 hi.1 hx.1, spr_no fun _ _ ks vs => rfl⟩
  | dpp a i ha hi => exact ⟨s_dpp ha.1 hi.1, spr_no fun _ _ ks vs => rfl⟩
  | pop a ha => exact ⟨s_pop ha.1, spr_no fun _ _ ks vs => rfl⟩
  | kv a b c ha hb hc => exact ⟨s_kv, spr_kv ha.1 hb.1 hc.2⟩
  | dlt es h => exact ⟨s_dlt h.2, spr_no fun _ _ ks vs => rfl⟩
theorem sound (e : E) : SAll T w n e := (sound2 e).1
end
end ML

/-! Statements, blocks, defs. -/
namespace ML
open PySem PySem.Spec PyProof.Rows L2

def PgS (w : Wd) (g : Gh) (W : WX) (D : Ends) : RS → Prop
  | .nx env' S' => ∀ g' H' σ', g.Le g' → Ok w g' S' H' → REnv w g' env' σ' → D.nx σ' H'
  | .rt d S' => ∀ g' H' v, g.Le g' → Ok w g' S' H' → Rl w g' d v → D.rt v H'
  | .exc c env' S' => ∀ g' H' σ', g.Le g' → Ok w g' S' H' → REnv w g' env' σ' → ∀ C, w.cl c = some C → W (.ref C) none σ' H'
  | .bad => False
theorem PgS.mono {w : Wd} {g g1 : Gh} {W : WX} {D : Ends} (l : g.Le g1) : ∀ {r : RS}, PgS w g W D r → PgS w g1 W D r
  | .nx _ _, h => fun g' H' σ' l' => h g' H' σ' (l.trans l')
  | .rt _ _, h => fun g' H' σ' l' => h g' H' σ' (l.trans l')
  | .exc _ _ _, h => fun g' H' σ' l' => h g' H' σ' (l.trans l')
  | .bad, h => h
def liftS (w : Wd) (f : Env → Store → RS) (W : WX) : TS := fun D σ H => ∃ g S env, Ok w g S H ∧ REnv w g env σ ∧ PgS w g W D (f env S)
theorem _root_.L2.PS.imp {X : Cx} {e : Stmt} {t t' : TS} (h : ∀ D σ H, t' D σ H → t D σ H) (p : PS X e t) : PS X e t' := ⟨fun pins s σ H D I q => p.run pins s σ H D I (h D σ H q)⟩
theorem _root_.L2.PSs.imp {X : Cx} {e : List Stmt} {t t' : TS} (h : ∀ D σ H, t' D σ H → t D σ H) (p : PSs X e t) : PSs X e t' := ⟨fun pins s σ H D I q => p.run pins s σ H D I (h D σ H q)⟩

section
variable {w : Wd} {W : WX} {σ : L2.St} {g : Gh} {S : Store} {H : Hp} {env : Env} {Dn : Ends}
/-- an expression, then the rest of the statement -/
theorem bSE {f : Env → M D} {k : D → Store → RS} (ok : Ok w g S H) (re : REnv w g env σ) (p : PgS w g W Dn ((f env S).thenS env k)) :
    liftE w f W σ H (fun x H1 => ∃ g1 S1 d, g.Le g1 ∧ Ok w g1 S1 H1 ∧ Rl w g1 d x ∧ PgS w g1 W Dn (k d S1)) := by
  refine ⟨g, S, env, ok, re, ?_⟩
  cases q : f env S with
  | ok d S1 => rw [q] at p; exact fun g1 H1 l k1 v r => ⟨g1, S1, d, l, k1, r, PgS.mono l p⟩
  | exc c S1 =>
    rw [q] at p
    have p' : PgS w g W Dn (.exc c env S1) := p
    exact fun g1 H1 l k1 C hC => p' g1 H1 σ l k1 (re.mono l) C hC
  | bad => rw [q] at p; exact p
theorem bST {f : Env → M Bool} {k : Bool → Store → RS} (ok : Ok w g S H) (re : REnv w g env σ) (p : PgS w g W Dn ((f env S).thenS env k)) :
    liftT w f W σ H (fun b H1 => ∃ g1 S1, g.Le g1 ∧ Ok w g1 S1 H1 ∧ PgS w g1 W Dn (k b S1)) := by
  refine ⟨g, S, env, ok, re, ?_⟩
  cases q : f env S with
  | ok d S1 => rw [q] at p; exact fun g1 H1 l k1 => ⟨g1, S1, l, k1, PgS.mono l p⟩
  | exc c S1 =>
    rw [q] at p
    have p' : PgS w g W Dn (.exc c env S1) := p
    exact fun g1 H1 l k1 C hC => p' g1 H1 σ l k1 (re.mono l) C hC
  | bad => rw [q] at p; exact p
theorem bSI {f : Env → M Src} {k : Src → Store → RS} (ok : Ok w g S H) (re : REnv w g env σ) (p : PgS w g W Dn ((f env S).thenS env k)) :
    liftI w f W σ H (fun J H1 => ∃ g1 S1 src, g.Le g1 ∧ Ok w g1 S1 H1 ∧ ItOk w g1 src J ∧ PgS w g1 W Dn (k src S1)) := by
  refine ⟨g, S, env, ok, re, ?_⟩
  cases q : f env S with
  | ok d S1 => rw [q] at p; exact fun g1 H1 l k1 J r => ⟨g1, S1, d, l, k1, r, PgS.mono l p⟩
  | exc c S1 =>
    rw [q] at p
    have p' : PgS w g W Dn (.exc c env S1) := p
    exact fun g1 H1 l k1 C hC => p' g1 H1 σ l k1 (re.mono l) C hC
  | bad => rw [q] at p; exact p
end

/-! ### the context of a block -/
/-- an error class of the text -/
structure ExcAt (K : PySem.W.Frag) (mg : Str → Option Value) (c : Str) (C : Addr) : Prop where
  mg : mg c = some (.ref C)
  ex : PySem.W.excIn K C [.type "ValueError", .type "Exception", .type "BaseException", .type "object"] "ValueError.__new__" = true
  kp : PySem.W.keepIn K (.ref C) = true
  sb : PySem.W.subIn K (.ref C) (.type "BaseException") = some true
  ty : PySem.W.typeIn K (.ref C) = some (.type "type")
structure GoodS (T : Tab) (w : Wd) (n : Nat) (N : List Str) (sc : Scope) (W : WX) (X : Cx) : Prop extends Good T w n N sc W X where
  kind : sc.kind = .function
  po : PassesOwn (model X.prog X.w) X.A X.env X.xe
  fnt : ∀ x, X.fn x = true
  exc : ∀ c, c ∈ T.exc → ∃ C, w.cl c = some C ∧ ExcAt X.K X.mg c C
  stk : X.stack = X.env :: X.outer
  frm : X.env.frame = some X.env.locals
  exq : X.ex = []

section
variable {T : Tab} {w : Wd} {n : Nat} {N : List Str} {sc : Scope} {W : WX} {X : Cx}
theorem swaps_is (G : GoodS T w n N sc W X) {v : Expr} {y : Str} {py : Pos} {l : Nat} (h : noDSC v = true) : swapsWith v (some (.Name y py)) l X.env = pure (swB sc y py v) := by
  cases v with
  | ListComp elt gs s pos =>
    unfold swapsWith swB
    have hk : X.env.blockKind = .function := by
      unfold PySem.Env.blockKind
      rw [G.hs, G.kind]
      rfl
    show pure (X.env.blockKind == .function && X.env.kindOf y == some .local && py.line == pos.line && !(s.names.any fun (n, k) => n == y && (k == .local || k == .cell))) = _
    rw [hk]
    have hl : (X.env.kindOf y == some .local) = (match sc.names.lookup y with
      | some .local => true
      | _ => false) := by
      show (X.env.scope.names.lookup y == some .local) = _
      rw [G.hs]
      cases sc.names.lookup y with
      | none => rfl
      | some k => cases k <;> rfl
    rw [hl]
    rfl
  | SetComp => cases h
  | DictComp => cases h
  | _ => rfl
theorem noComp1 {v : Expr} (h : noComp v = true) (t : Option Expr) (l : Nat) (env : PySem.Env) : swapsWith v t l env = pure false := by
  cases v <;> first | rfl | cases h
theorem noComp2 {v t : Expr} (h : noComp v = true) (l : Nat) (env : PySem.Env) : swapsWithSole [t] v l env = pure false := noComp1 h (some t) l env
theorem noTup1 {v : Expr} {es : List Expr} {k : Nat} {pos : Pos} (h : (!isTup v) = true) (env : PySem.Env) : swappedStores [.Tuple es k pos] v env = pure none := by
  cases v <;> first | rfl | cases h
theorem sub1 {y : Expr} {o : Expr} {pos : Pos} (h : noSlice y = true) (env : PySem.Env) : ∀ v, assign (.Subscript o y pos) env v = (do
      let ov ← holding [v] (eval o env)
      let iv ← holding [v, ov] (eval y env)
      standAt pos
      holding [v, ov, iv] (setItem ov iv v)
      release [v, ov, iv] []) := by
  intro v
  cases y <;> first | rfl | cases h
theorem swapped_sub {x y v : Expr} {pos : Pos} (env : PySem.Env) : swappedStores [.Subscript x y pos] v env = pure none := by
  cases v <;> rfl

/-! ### several targets -/
def setAllV : List Nat → List V → L2.St → L2.St
  | i :: is, v :: vs, σ => setAllV is vs (σ.set i (some v))
  | _, _, σ => σ
theorem setAll_rel {g : Gh} : ∀ (is : List Nat) {ds : List D} {vs : List V} {env : Env} {σ : L2.St}, Rls w g ds vs → REnv w g env σ → REnv w g (setAll is ds env) (setAllV is vs σ) := by
  intro is
  induction is with
  | nil => intro ds vs env σ r re; cases r <;> exact re
  | cons i is ih =>
    intro ds vs env σ r re
    cases r with
    | nil => exact re
    | cons r t => exact ih t (re.set i r)
def tgN (is : List Nat) : TGs := fun vs σ H Q => vs.length = is.length ∧ Q (setAllV is vs σ) H
theorem _root_.L2.PGs.imp {X : Cx} {e : List Expr} {t t' : TGs} (h : ∀ v σ H Q, t' v σ H Q → t v σ H Q) (p : PGs X e t) : PGs X e t' := ⟨fun pins s σ H v u Q I r q => p.run pins s σ H v u Q I r (h v σ H Q q)⟩
theorem pgs_names (G : GoodS T w n N sc W X) : ∀ (is : List Nat) {es : List Expr}, nmsB N sc is es = true → PGs X es (tgN is) ∧ (assignEach es X.env).length = is.length ∧ (assignEach es X.env).findIdx? (·.1) = none := by
  intro is
  induction is with
  | nil =>
    intro es h
    cases es with
    | nil =>
      refine ⟨pgs_nil.imp fun v σ H Q hh => ?_, rfl, rfl⟩
      obtain ⟨h1, h2⟩ := hh
      cases v with
      | nil => exact ⟨rfl, h2⟩
      | cons _ _ => cases h1
    | cons _ _ => exact absurd h Bool.false_ne_true
  | cons i is ih =>
    intro es h
    cases es with
    | nil => exact absurd h Bool.false_ne_true
    | cons e es =>
      cases e with
      | Name x pos =>
        have h' : (decide (N[i]? = some x) && locB sc x && nmsB N sc is es) = true := h
        simp only [Bool.and_eq_true, decide_eq_true_eq] at h'
        obtain ⟨P, L, Z⟩ := ih h'.2
        have Q1 := pgs_cons (pg_name (i := i) (pos := pos) (by rw [G.hN]; exact G.nd) (by rw [G.hN]; exact h'.1.1) (G.loc h'.1.2) (.inl (G.fnt x))) P
        refine ⟨Q1.imp fun v σ H Q hh => ?_, ?_, ?_⟩
        · obtain ⟨h1, h2⟩ := hh
          cases v with
          | nil => cases h1
          | cons v vs => exact ⟨v, vs, rfl, by simpa using h1, h2⟩
        · show (assignEach es X.env).length + 1 = is.length + 1
          rw [L]
        · show (((false, assign (.Name x pos) X.env) :: assignEach es X.env).findIdx? (·.1)) = none
          rw [List.findIdx?_cons]
          simp only [Bool.false_eq_true, if_false]
          rw [Z]
          rfl
      | _ => exact absurd h Bool.false_ne_true

/-! ### single statements -/
theorem t_asg (G : GoodS T w n N sc W X) {i : Nat} {e : E} {x : Str} {py pos : Pos} {v : Expr} (h1 : N[i]? = some x) (h2 : locB sc x = true) (h3 : noDSC v = true) (h4 : swB sc x py v = false) (h5 : chkE T N sc e v = true) :
    PS X (.Assign [.Name x py] v pos) (liftS w (evS (sem T n) (gvs T) (.asg i e)) W) := by
  refine (ps_set (i := i) (by rw [G.hN]; exact G.nd) (by rw [G.hN]; exact h1) (G.loc h2) ((sound e).se G.toGood h5) (by rw [swaps_is G h3, h4]) (.inl (G.fnt x))).imp fun D σ H ⟨g, S, env, ok, re, p⟩ => ?_
  refine liftE_mono (fun x H1 ⟨g1, S1, d1, l1, k1, r1, p1⟩ => ?_) (bSE ok re p)
  exact p1 g1 H1 _ (Gh.Le.refl g1) k1 ((re.mono l1).set i r1)
theorem t_asgC (G : GoodS T w n N sc W X) {i : Nat} {e : E} {x : Str} {py pos : Pos} {v : Expr} (h1 : N[i]? = some x) (h4 : swB sc x py v = true) (h5 : chkE T N sc e v = true) :
    PS X (.Assign [.Name x py] v pos) (liftS w (evS (sem T n) (gvs T) (.asgC i e)) W) ∨ ∀ m own j it c f, e ≠ .lc m own j it c f := by
  cases e with
  | lc m own j it c f =>
    refine .inl ?_
    obtain ⟨elt, tg, iter, ifs, scope, pos', wi, gg, tt, te, rfl, P⟩ := lc_parts (sound it) (sound c) (sound f) G.toGood h5
    have hsw : swapsWith (.ListComp elt [⟨tg, iter, ifs, 0⟩] scope pos') (some (.Name x py)) pos.line X.env = pure true := by rw [swaps_is G rfl, h4]
    have hl : sc.names.lookup x = some .local := by
      unfold swB at h4
      rw [Bool.and_eq_true, Bool.and_eq_true] at h4
      have := h4.1.1
      split at this
      · assumption
      · cases this
    refine (ps_setLc (i := i) G.calm (by rw [G.hN]; exact G.nd) (by rw [G.hN]; exact h1) (by rw [G.hs]; exact hl) hsw P.hi P.ok P.hg P.ht P.he P.hs).imp fun D σ H ⟨g, S, env, ok, re, p⟩ => ?_
    refine P.rd σ H _ ?_
    refine liftE_mono (fun x H1 ⟨g1, S1, d1, l1, k1, r1, p1⟩ => ?_) (bSE ok re p)
    exact p1 g1 H1 _ (Gh.Le.refl g1) k1 ((re.mono l1).set i r1)
  | _ => exact .inr fun _ _ _ _ _ _ h => nomatch h
theorem t_unp (G : GoodS T w n N sc W X) {is : List Nat} {e : E} {es : List Expr} {k : Nat} {py pos : Pos} {v : Expr} (h1 : nmsB N sc is es = true) (h2 : noComp v = true) (h3 : (!isTup v) = true) (h5 : chkE T N sc e v = true) :
    PS X (.Assign [.Tuple es k py] v pos) (liftS w (evS (sem T n) (gvs T) (.unp is e)) W) := by
  obtain ⟨P, L, Z⟩ := pgs_names G is h1
  refine (ps_asg ((sound e).se G.toGood h5) (pg_tup (n := is.length) G.calm P L Z) (noComp2 h2 _ _) (noTup1 h3 _)).imp fun D σ H ⟨g, S, env, ok, re, p⟩ => ?_
  refine liftE_mono (fun x H1 ⟨g1, S1, d1, l1, k1, r1, p1⟩ => ?_) (bSE ok re p)
  cases r1 with
  | @tup a vs ds s r =>
    have p2 : PgS w g1 W D (if ds.length = is.length then .nx (setAll is ds env) S1 else .bad) := p1
    split at p2
    · rename_i hl
      exact ⟨a, vs, rfl, by rw [G.hw]; exact k1.sqT s, by rw [← r.length]; exact hl, by rw [← r.length]; exact hl, p2 g1 H1 _ (Gh.Le.refl g1) k1 (setAll_rel is r (re.mono l1))⟩
    · exact p2.elim
  | _ => exact p1.elim
def rSt (w : Wd) : TSet := fun o i v H Q => ∃ g S d e f, Ok w g S H ∧ Rl w g d o ∧ Rl w g e i ∧ Rl w g f v ∧ Pg w g (fun _ _ => False) (fun _ _ H' => Q H') (storeM d e f S)
theorem set_ok : PSet X (rSt w) := by
  intro pins s σ H o i v ov iv u Q I ro ri rv h
  obtain ⟨g, S, d, e, f, k, r1, r2, r3, p⟩ := h
  cases r1 with
  | @loc m hm =>
    cases r2 with
    | int j =>
      have p' : Pg w g (fun _ _ => False) (fun _ _ H' => Q H') (match obLst (S.ob m) with
        | some xs => match ixN xs.length j with
          | some j => Rs.ok () (S.set m (.lst (xs.set j f)))
          | none => .bad
        | none => .bad) := p
      cases q : obLst (S.ob m) with
      | none => rw [q] at p'; exact p'.elim
      | some xs =>
        rw [q] at p'
        simp only at p'
        cases q2 : ixN xs.length j with
        | none => rw [q2] at p'; exact p'.elim
        | some jj =>
          rw [q2] at p'
          obtain ⟨vs, h1, h2⟩ := k.ob m _ (obLst_some q)
          exact set_list pins s σ H _ _ v ov iv u Q I ro ri rv ⟨_, vs, j, jj, rfl, rfl, h1, by rw [← h2.length]; exact q2, p' g _ (Gh.Le.refl g) (k.setS (obLst_some q) ⟨_, rfl, h2.set r3 jj⟩)⟩
    | _ => exact p.elim
  | _ => cases r2 <;> exact p.elim
theorem t_stI (G : GoodS T w n N sc W X) {o i e : E} {x y v : Expr} {py pos : Pos} (h1 : noSlice y = true) (h2 : noComp v = true) (h3 : chkE T N sc o x = true) (h4 : chkE T N sc i y = true) (h5 : chkE T N sc e v = true) :
    PS X (.Assign [.Subscript x y py] v pos) (liftS w (evS (sem T n) (gvs T) (.stI o i e)) W) := by
  refine (ps_asg ((sound e).se G.toGood h5) (pg_sub ((sound o).se G.toGood h3) ((sound i).se G.toGood h4) (set_ok (w := w)) (sub1 h1 _)) (noComp2 h2 _ _) (swapped_sub _)).imp fun D σ H ⟨g, S, env, ok, re, p⟩ => ?_
  refine liftE_mono (fun vv H1 ⟨g1, S1, d1, l1, k1, r1, p1⟩ => ?_) (bSE ok re p)
  refine liftE_mono (fun xx H2 ⟨g2, S2, d2, l2, k2, r2, p2⟩ => ?_) (bSE k1 (re.mono l1) p1)
  refine liftE_mono (fun yy H3 ⟨g3, S3, d3, l3, k3, r3, p3⟩ => ?_) (bSE k2 ((re.mono l1).mono l2) p2)
  refine ⟨g3, S3, d2, d3, d1, k3, r2.mono l3, r3, (r1.mono l2).mono l3, ?_⟩
  have p4 : PgS w g3 W D ((storeM d2 d3 d1 S3).thenS env fun _ S4 => .nx env S4) := p3
  cases q : storeM d2 d3 d1 S3 with
  | ok u S4 =>
    rw [q] at p4
    exact fun g4 H4 l4 k4 => p4 g4 H4 σ l4 k4 ((((re.mono l1).mono l2).mono l3).mono l4)
  | exc c S4 =>
    exfalso
    unfold storeM at q
    split at q
    · split at q
      · split at q <;> cases q
      · cases q
    · cases q
  | bad => rw [q] at p4; exact p4
theorem t_stD (G : GoodS T w n N sc W X) {o i e : E} {x y v : Expr} {py pos : Pos} (h1 : noSlice y = true) (h2 : noComp v = true) (h3 : chkE T N sc o x = true) (h4 : chkE T N sc i y = true) (h5 : chkE T N sc e v = true) :
    PS X (.Assign [.Subscript x y py] v pos) (liftS w (evS (sem T n) (gvs T) (.stD o i e)) W) := by
  refine (ps_dput (units1 G.room) ((sound o).se G.toGood h3) ((sound i).se G.toGood h4) ((sound e).se G.toGood h5) (noComp1 h2 _ _ _)).imp fun D σ H ⟨g, S, env, ok, re, p⟩ => ?_
  refine liftE_mono (fun vv H1 ⟨g1, S1, d1, l1, k1, r1, p1⟩ => ?_) (bSE ok re p)
  refine liftE_mono (fun xx H2 ⟨g2, S2, d2, l2, k2, r2, p2⟩ => ?_) (bSE k1 (re.mono l1) p1)
  refine liftE_mono (fun yy H3 ⟨g3, S3, d3, l3, k3, r3, p3⟩ => ?_) (bSE k2 ((re.mono l1).mono l2) p2)
  have p4 : PgS w g3 W D ((dputM d2 d3 d1 S3).thenS env fun _ S4 => .nx env S4) := p3
  have re3 := ((re.mono l1).mono l2).mono l3
  cases hk : keyOf d3 with
  | none =>
    have e0 : dputM d2 d3 d1 S3 = .bad := by unfold dputM; rw [hk]; cases d2 <;> rfl
    rw [e0] at p4; exact p4.elim
  | some ky =>
    cases hd : dctOf S3 d2 with
    | none =>
      have e0 : dputM d2 d3 d1 S3 = .bad := by
        unfold dputM
        rw [hk]
        cases d2 with
        | loc m => have hd' : obDct (S3.ob m) = none := hd; simp only [hd']
        | _ => rfl
      rw [e0] at p4; exact p4.elim
    | some kvs =>
      obtain ⟨m, ps, rfl, q1, rfl, e1, e2⟩ := dct_ok k3 (r2.mono l3) hd
      have hd' : obDct (S3.ob m) = some kvs := hd
      have e0 : dputM (.loc m) d3 d1 S3 = if kvs.length < nMax then .ok () (S3.set m (.dct (putKD kvs ky d1))) else .bad := by
        unfold dputM
        rw [hk]
        simp only [hd']
      rw [e0] at p4
      by_cases hl : kvs.length < nMax
      · rw [if_pos hl] at p4
        have ey := key_ok r3 hk
        subst ey
        refine ⟨_, _, rfl, DPut.k e1 (by rw [← krl_len e2]; exact nMax_lt hl), ?_⟩
        exact p4 g3 _ σ (Gh.Le.refl g3) (k3.setS q1 ⟨_, rfl, krl_put ((r1.mono l2).mono l3) e2⟩) re3
      · rw [if_neg hl] at p4; exact p4.elim
theorem t_stF (G : GoodS T w n N sc W X) {o e : E} {c f : Str} {x v : Expr} {py pos : Pos} (h2 : noComp v = true) (h3 : nofB T c f = true) (h4 : chkE T N sc o x = true) (h5 : chkE T N sc e v = true) :
    PS X (.Assign [.Attribute x f py] v pos) (liftS w (evS (sem T n) (gvs T) (.stF o c f e)) W) := by
  obtain ⟨C, hC, hc, hn⟩ := G.nof c f (nofB_mem h3)
  refine (ps_fld ((sound o).se G.toGood h4) ((sound e).se G.toGood h5) (noComp1 h2 _ _ _)).imp fun D σ H ⟨g, S, env, ok, re, p⟩ => ?_
  refine liftE_mono (fun vv H1 ⟨g1, S1, d1, l1, k1, r1, p1⟩ => ?_) (bSE ok re p)
  refine liftE_mono (fun xx H2 ⟨g2, S2, d2, l2, k2, r2, p2⟩ => ?_) (bSE k1 (re.mono l1) p1)
  have p4 : PgS w g2 W D ((stfM c f d2 d1 S2).thenS env fun _ S4 => .nx env S4) := p2
  cases d2 with
  | loc m =>
    cases q : S2.ob m with
    | none =>
      have e0 : stfM c f (.loc m) d1 S2 = .bad := by show (match S2.ob m with | some (.ins c' fs) => if c' = c ∧ fs.length < 1000 then Rs.ok () (S2.set m (.ins c (putD f d1 fs))) else .bad | _ => .bad) = _; rw [q]
      rw [e0] at p4; exact p4.elim
    | some ob =>
      cases ob with
      | ins c' fs =>
        have e0 : stfM c f (.loc m) d1 S2 = if c' = c ∧ fs.length < 1000 then Rs.ok () (S2.set m (.ins c (putD f d1 fs))) else .bad := by show (match S2.ob m with | some (.ins c' fs) => if c' = c ∧ fs.length < 1000 then Rs.ok () (S2.set m (.ins c (putD f d1 fs))) else .bad | _ => .bad) = _; rw [q]
        rw [e0] at p4
        by_cases hcc : c' = c ∧ fs.length < 1000
        · rw [if_pos hcc] at p4
          obtain ⟨rfl, hl⟩ := hcc
          obtain ⟨C', dx, ps, rfl, e1, e2, e3⟩ := ins_ok (d := .non) k2 r2 q
          rw [hC] at e1
          cases e1
          refine ⟨_, C, dx, ps, rfl, e2, hc, hn, by rw [← frl_len e3]; exact hl, ?_⟩
          exact p4 g2 _ σ (Gh.Le.refl g2) (k2.setS q ⟨C, dx, _, hC, rfl, frl_put (r1.mono l2) e3⟩) ((re.mono l1).mono l2)
        · rw [if_neg hcc] at p4; exact p4.elim
      | _ =>
        have e0 : stfM c f (.loc m) d1 S2 = .bad := by show (match S2.ob m with | some (.ins c' fs) => if c' = c ∧ fs.length < 1000 then Rs.ok () (S2.set m (.ins c (putD f d1 fs))) else .bad | _ => .bad) = _; rw [q]
        rw [e0] at p4; exact p4.elim
  | _ => exact p4.elim
theorem t_exp (G : GoodS T w n N sc W X) {e : E} {pos : Pos} {v : Expr} (h2 : noComp v = true) (h5 : chkE T N sc e v = true) :
    PS X (.Expr v pos) (liftS w (evS (sem T n) (gvs T) (.exp e)) W) := by
  refine (ps_expr ((sound e).se G.toGood h5) (noComp1 h2 _ _ _)).imp fun D σ H ⟨g, S, env, ok, re, p⟩ => ?_
  refine liftE_mono (fun x H1 ⟨g1, S1, d1, l1, k1, r1, p1⟩ => ?_) (bSE ok re p)
  exact p1 g1 H1 _ (Gh.Le.refl g1) k1 (re.mono l1)
theorem t_ret (G : GoodS T w n N sc W X) {e : E} {pos : Pos} {v : Expr} (h5 : chkE T N sc e v = true) :
    PS X (.Return (some v) pos) (liftS w (evS (sem T n) (gvs T) (.ret e)) W) := by
  refine (ps_ret ((sound e).se G.toGood h5)).imp fun D σ H ⟨g, S, env, ok, re, p⟩ => ?_
  refine liftE_mono (fun x H1 ⟨g1, S1, d1, l1, k1, r1, p1⟩ => ?_) (bSE ok re p)
  exact p1 g1 H1 _ (Gh.Le.refl g1) k1 r1
theorem t_retN {pos : Pos} : PS X (.Return none pos) (liftS w (evS (sem T n) (gvs T) .retN) W) :=
  ps_retN.imp fun D σ H ⟨g, S, env, ok, re, p⟩ => p g H _ (Gh.Le.refl g) ok .non
theorem t_pass {pos : Pos} : PS X (.Pass pos) (liftS w (evS (sem T n) (gvs T) .pass) W) :=
  ps_pass.imp fun D σ H ⟨g, S, env, ok, re, p⟩ => p g H σ (Gh.Le.refl g) ok re
theorem t_rais (G : GoodS T w n N sc W X) {c : Str} {s : Str} {k : Nat} {p p2 pos pos' : Pos} (h1 : c ∈ T.exc) (h2 : glB sc c = true) (h3 : nmB c = true) :
    PS X (.Raise (some (.Call (.Name c p) [.Constant (.str s) k p2] [] pos)) none pos') (liftS w (evS (sem T n) (gvs T) (.rais c)) W) := by
  obtain ⟨C, hC, XC⟩ := G.exc c h1
  exact (ps_raise G.calm G.tk (pmk_own PySem.F.excBase_ValueError XC.ex XC.mg XC.kp (raises_own XC.sb XC.ty) (G.gl h2) (nm1 h3).1)).imp fun D σ H ⟨g, S, env, ok, re, p⟩ => p g H σ (Gh.Le.refl g) ok re C hC
theorem t_tryK (G : GoodS T w n N sc W X) {b : ST} {x en hn : Str} {tb : List (Str × Bool)} {i h : Nat} {body : List Stmt} {np hp ep pos1 pos2 pos3 : Pos} (h1 : glB sc x = true) (h2 : nmB x = true) (h3 : x ∈ T.cls) (h4 : subB T x tb = true) (h5 : N[i]? = some en) (h6 : sc.names.lookup en = some .local) (h7 : nmB en = true) (h8 : N[h]? = some hn) (h9 : locB sc hn = true) (h10 : i ≠ h)
    (hb : ∀ {W : WX} {X : Cx}, GoodS T w n N sc W X → PSs X body (liftS w (evS (sem T n) (gvs T) b) W)) :
    PS X (.Try body [.ExceptHandler (some (.Name x np)) (some en) [.Assign [.Name hn hp] (.Name en ep) pos1] pos2] [] [] pos3) (liftS w (evS (sem T n) (gvs T) (.tryK b x tb i h)) W) := by
  obtain ⟨v, u, kv, nu⟩ := G.cls x h3
  have nms : Names X x u := ⟨G.gl h1, (nm1 h2).1, nu.elim .inl fun z => .inr ⟨z.1, z.2, (nm1 h2).2.2⟩⟩
  have hln : X.env.kindOf en = some .local := by show X.env.scope.names.lookup en = _; rw [G.hs]; exact h6
  refine (ps_try_keep (i := i) (tb := fun W => liftS w (evS (sem T n) (gvs T) b) W) (ts := fun a cls d => tSeq (tAsg (tVar i) (gName h)) tNext) (Wout := W) G.stk G.frm G.exq (by rw [G.hN]; exact G.nd) (by rw [G.hN]; exact h5) hln nms G.tk (fun W' pn xe tk' po' => hb ?_) (fun a oe cls d pn hz hv => pss_cons (ps_set (X := X.suite a ((a, oe) :: pn)) (i := h) (by show X.N.Nodup; rw [G.hN]; exact G.nd) (by show X.N[h]? = _; rw [G.hN]; exact h8) (G.loc h9) (pe_var (X := X.suite a ((a, oe) :: pn)) (i := i) (by show X.N[i]? = _; rw [G.hN]; exact h5) (.inl hln) (nm1 h7).1 (nm1 h7).2.1) rfl (.inl (G.fnt hn))) pss_nil)).imp fun D σ H ⟨g, S, env, ok, re, p⟩ => ⟨g, S, env, ok, re, ?_⟩
  · exact ⟨⟨G.hN, G.nd, G.hs, G.hw, G.calm, G.room, tk', G.cst, G.blt, G.dct, G.cls, G.sub, G.fn, G.nof, G.mth, G.mks⟩, G.kind, po', G.fnt, G.exc, G.stk, G.frm, G.exq⟩
  · have p' : PgS w g W D (match evS (sem T n) (gvs T) b env S with
      | .exc c env' S' => match tb.lookup c with
        | some true => if i < env'.length then .nx ((env'.set h (some (.exn c))).set i none) S' else .bad
        | some false => .exc c env' S'
        | none => .bad
      | r => r) := p
    cases q : evS (sem T n) (gvs T) b env S with
    | nx env1 S1 => rw [q] at p'; exact p'
    | rt d1 S1 => rw [q] at p'; exact p'
    | bad => rw [q] at p'; exact p'
    | exc c env1 S1 =>
      rw [q] at p'
      simp only at p'
      intro g1 H1 σ1 l1 k1 re1 C hC
      cases q2 : tb.lookup c with
      | none => rw [q2] at p'; exact p'.elim
      | some b1 =>
        obtain ⟨C', hC', ec, hu⟩ := G.sub c x b1 (subB_mem h4 q2)
        rw [hC] at hC'
        cases hC'
        refine ⟨b1, (hu u nu).2, fun eb a ha => ?_, fun eb => ?_⟩
        · subst eb
          rw [q2] at p'
          simp only at p'
          by_cases hi0 : i < env1.length
          case neg => rw [if_neg hi0] at p'; exact p'.elim
          rw [if_pos hi0] at p'
          have hi : i < σ1.length := by
            rw [← re1.len]
            exact hi0
          refine ⟨.ref a, by rw [List.getElem?_set]; rw [if_pos rfl, if_pos hi], ?_⟩
          refine p' (g1.add a (ExH C a)) _ _ (l1.trans (Gh.add_le (k1.none ha))) (k1.addF ha) ?_
          have re2 := re1.mono (Gh.add_le (o := ExH C a) (k1.none ha))
          have rx : Rl w (g1.add a (ExH C a)) (.exn c) (.ref a) := .exn hC upd_same
          have re3 := (re2.set i rx).set h rx
          refine ⟨by simp [re1.len], fun j e z => ?_⟩
          by_cases cj : i = j
          · subst cj
            rw [List.getElem?_set] at z
            rw [if_pos rfl] at z
            split at z <;> cases z
          · rw [List.getElem?_set_ne cj] at z ⊢
            refine re3.get j e ?_
            rw [← z]
            by_cases ch : h = j
            · subst ch
              have aux : ∀ (l : Env) (y : Option ML.D), (l.set h y)[h]? = if h < l.length then some y else none := fun l y => by rw [List.getElem?_set, if_pos rfl]
              rw [aux, aux, List.length_set]
            · rw [List.getElem?_set_ne ch, List.getElem?_set_ne ch, List.getElem?_set_ne cj]
        · subst eb
          rw [q2] at p'
          exact p' g1 H1 σ1 l1 k1 re1 C hC
theorem t_ife (G : GoodS T w n N sc W X) {c : E} {a b : ST} {pos : Pos} {v : Expr} {x y : List Stmt} (h1 : chkT T N sc c v = true) (ha : PSs X x (liftS w (evS (sem T n) (gvs T) a) W)) (hb : PSs X y (liftS w (evS (sem T n) (gvs T) b) W)) :
    PS X (.If v x y pos) (liftS w (evS (sem T n) (gvs T) (.ife c a b)) W) := by
  refine (ps_if ((sound c).st G.toGood h1) ha hb).imp fun D σ H ⟨g, S, env, ok, re, p⟩ => ?_
  refine liftT_mono (fun t H1 ⟨g1, S1, l1, k1, p1⟩ => ?_) (bST ok re p)
  cases t with
  | true => exact iteT ⟨g1, S1, env, k1, re.mono l1, p1⟩
  | false => exact iteF ⟨g1, S1, env, k1, re.mono l1, p1⟩
theorem t_fr (G : GoodS T w n N sc W X) {i : Nat} {it : E} {b : ST} {x : Str} {py pos : Pos} {v : Expr} {y : List Stmt} (h1 : N[i]? = some x) (h2 : locB sc x = true) (h3 : noSet v = true) (h4 : chkI T N sc it v = true) (hb : PSs X y (liftS w (evS (sem T n) (gvs T) b) W)) :
    PS X (.For (.Name x py) v y [] pos) (liftS w (evS (sem T n) (gvs T) (.fr i it b)) W) := by
  refine (ps_for G.po G.calm ((sound it).si G.toGood h4) (pg_name (i := i) (by rw [G.hN]; exact G.nd) (by rw [G.hN]; exact h1) (G.loc h2) (.inl (G.fnt x))) hb (set2 h3 _)).imp fun D σ H ⟨g, S, env, ok, re, p⟩ => ?_
  refine liftI_mono (fun J H1 ⟨g1, S1, src, l1, k1, itk, p1⟩ => ?_) (bSI ok re p)
  refine ⟨fun j k σ H => j + k = src.num ∧ ∃ g' S' env', g1.Le g' ∧ Ok w g' S' H ∧ REnv w g' env' σ ∧ PgS w g' W D (loopF src (fun x env S => evS (sem T n) (gvs T) b (env.set i (some x)) S) k j env' S'), ⟨src.num, Nat.zero_add _, g1, S1, env, Gh.Le.refl _, k1, re.mono l1, p1⟩, ?_⟩
  rintro j k σ' H' ⟨hjk, g', S', env', l', k', re', p'⟩
  have itj := itk g' S' H' l' k' j
  cases k with
  | zero =>
    have p2 : PgS w g' W D (if src.over S' = true then .nx env' S' else .bad) := p'
    split at p2
    · rename_i ho
      exact .inl ⟨itj.2 (by omega) ho, p2 g' H' σ' (Gh.Le.refl _) k' re'⟩
    · exact p2.elim
  | succ k =>
    have p2 : PgS w g' W D (match src.get S' j with
      | none => .bad
      | some x => match evS (sem T n) (gvs T) b (env'.set i (some x)) S' with
        | .nx env' S' => loopF src (fun x env S => evS (sem T n) (gvs T) b (env.set i (some x)) S) k (j + 1) env' S'
        | .rt d S' => .rt d S'
        | .exc c env' S' => .exc c env' S'
        | .bad => .bad) := p'
    cases hg : src.get S' j with
    | none => rw [hg] at p2; exact p2.elim
    | some d =>
      rw [hg] at p2
      simp only at p2
      obtain ⟨go, yl⟩ := itj.1 d hg
      refine .inr ⟨go, fun σ'' H'' => ∃ g'' S'' env'', g1.Le g'' ∧ Ok w g'' S'' H'' ∧ REnv w g'' env'' σ'' ∧ PgS w g'' W D (loopF src (fun x env S => evS (sem T n) (gvs T) b (env.set i (some x)) S) k (j + 1) env'' S''), fun σ'' H'' ⟨g'', S'', env'', a1, a2, a3, a4⟩ => ⟨k, Nat.lt_succ_self _, by omega, g'', S'', env'', a1, a2, a3, a4⟩, fun x H'' y => ?_⟩
      obtain ⟨rfl, rx⟩ := yl x H'' y
      refine ⟨g', S', _, k', re'.set i rx, ?_⟩
      cases hb : evS (sem T n) (gvs T) b (env'.set i (some d)) S' with
      | nx env2 S2 =>
        rw [hb] at p2
        exact fun g2 H2 σ2 l2 k2 re2 => ⟨g2, S2, env2, l'.trans l2, k2, re2, PgS.mono l2 p2⟩
      | rt d2 S2 => rw [hb] at p2; exact p2
      | exc c env2 S2 => rw [hb] at p2; exact p2
      | bad => rw [hb] at p2; exact p2
theorem t_frT (G : GoodS T w n N sc W X) {is : List Nat} {it : E} {b : ST} {es : List Expr} {kt : Nat} {py pos : Pos} {v : Expr} {y : List Stmt} (h1 : nmsB N sc is es = true) (h3 : noSet v = true) (h4 : chkI T N sc it v = true) (hb : PSs X y (liftS w (evS (sem T n) (gvs T) b) W)) :
    PS X (.For (.Tuple es kt py) v y [] pos) (liftS w (evS (sem T n) (gvs T) (.frT is it b)) W) := by
  obtain ⟨P, L, Z⟩ := pgs_names G is h1
  refine (ps_for G.po G.calm ((sound it).si G.toGood h4) (pg_tup (n := is.length) G.calm P L Z) hb (set2 h3 _)).imp fun D σ H ⟨g, S, env, ok, re, p⟩ => ?_
  refine liftI_mono (fun J H1 ⟨g1, S1, src, l1, k1, itk, p1⟩ => ?_) (bSI ok re p)
  refine ⟨fun j k σ H => j + k = src.num ∧ ∃ g' S' env', g1.Le g' ∧ Ok w g' S' H ∧ REnv w g' env' σ ∧ PgS w g' W D (loopF src (fun x env S => match tupOf x with
    | some xs => if xs.length = is.length then evS (sem T n) (gvs T) b (setAll is xs env) S else .bad
    | none => .bad) k j env' S'), ⟨src.num, Nat.zero_add _, g1, S1, env, Gh.Le.refl _, k1, re.mono l1, p1⟩, ?_⟩
  rintro j k σ' H' ⟨hjk, g', S', env', l', k', re', p'⟩
  have itj := itk g' S' H' l' k' j
  cases k with
  | zero =>
    have p2 : PgS w g' W D (if src.over S' = true then .nx env' S' else .bad) := p'
    split at p2
    · rename_i ho
      exact .inl ⟨itj.2 (by omega) ho, p2 g' H' σ' (Gh.Le.refl _) k' re'⟩
    · exact p2.elim
  | succ k =>
    have p2 : PgS w g' W D (match src.get S' j with
      | none => .bad
      | some x => match (match tupOf x with
    | some xs => if xs.length = is.length then evS (sem T n) (gvs T) b (setAll is xs env') S' else .bad
    | none => .bad) with
        | .nx env' S' => loopF src (fun x env S => match tupOf x with
    | some xs => if xs.length = is.length then evS (sem T n) (gvs T) b (setAll is xs env) S else .bad
    | none => .bad) k (j + 1) env' S'
        | .rt d S' => .rt d S'
        | .exc c env' S' => .exc c env' S'
        | .bad => .bad) := p'
    cases hg : src.get S' j with
    | none => rw [hg] at p2; exact p2.elim
    | some d =>
      rw [hg] at p2
      simp only at p2
      obtain ⟨go, yl⟩ := itj.1 d hg
      refine .inr ⟨go, fun σ'' H'' => ∃ g'' S'' env'', g1.Le g'' ∧ Ok w g'' S'' H'' ∧ REnv w g'' env'' σ'' ∧ PgS w g'' W D (loopF src (fun x env S => match tupOf x with
    | some xs => if xs.length = is.length then evS (sem T n) (gvs T) b (setAll is xs env) S else .bad
    | none => .bad) k (j + 1) env'' S''), fun σ'' H'' ⟨g'', S'', env'', a1, a2, a3, a4⟩ => ⟨k, Nat.lt_succ_self _, by omega, g'', S'', env'', a1, a2, a3, a4⟩, fun x H'' y => ?_⟩
      obtain ⟨rfl, rx⟩ := yl x H'' y
      cases rx with
      | @tup ad vs ds sq rs =>
        have p3 : PgS w g' W D (match (if ds.length = is.length then evS (sem T n) (gvs T) b (setAll is ds env') S' else .bad) with
          | .nx env' S' => loopF src (fun x env S => match tupOf x with
    | some xs => if xs.length = is.length then evS (sem T n) (gvs T) b (setAll is xs env) S else .bad
    | none => .bad) k (j + 1) env' S'
          | .rt d S' => .rt d S'
          | .exc c env' S' => .exc c env' S'
          | .bad => .bad) := p2
        by_cases hl : ds.length = is.length
        · rw [if_pos hl] at p3
          refine ⟨ad, vs, rfl, by rw [G.hw]; exact k'.sqT sq, by rw [← rs.length]; exact hl, by rw [← rs.length]; exact hl, g', S', _, k', setAll_rel is rs re', ?_⟩
          cases hb : evS (sem T n) (gvs T) b (setAll is ds env') S' with
          | nx env2 S2 =>
            rw [hb] at p3
            exact fun g2 H2 σ2 l2 k2 re2 => ⟨g2, S2, env2, l'.trans l2, k2, re2, PgS.mono l2 p3⟩
          | rt d2 S2 => rw [hb] at p3; exact p3
          | exc c env2 S2 => rw [hb] at p3; exact p3
          | bad => rw [hb] at p3; exact p3
        · rw [if_neg hl] at p3; exact p3.elim
      | _ => exact p2.elim
theorem t_whl (G : GoodS T w n N sc W X) {c : E} {b : ST} {pos : Pos} {v : Expr} {y : List Stmt} (h1 : chkT T N sc c v = true) (hb : PSs X y (liftS w (evS (sem T n) (gvs T) b) W)) :
    PS X (.While v y [] pos) (liftS w (evS (sem T n) (gvs T) (.whl c b)) W) := by
  refine (ps_while G.po ((sound c).st G.toGood h1) hb).imp fun D σ H ⟨g, S, env, ok, re, p⟩ => ?_
  refine ⟨fun k σ H => ∃ g' S' env', Ok w g' S' H ∧ REnv w g' env' σ ∧ PgS w g' W D (loopW (evT (sem T n) (gvs T) c) (fun env S => evS (sem T n) (gvs T) b env S) k env' S'), ⟨wMost, g, S, env, ok, re, p⟩, ?_⟩
  rintro k σ' H' ⟨g', S', env', k', re', p'⟩
  cases k with
  | zero => exact p'.elim
  | succ k =>
    refine liftT_mono (fun t H1 ⟨g1, S1, l1, k1, p1⟩ => ?_) (bST k' re' p')
    cases t with
    | false => exact iteF (p1 g1 H1 _ (Gh.Le.refl g1) k1 (re'.mono l1))
    | true =>
      refine iteT ⟨fun σ'' H'' => ∃ g'' S'' env'', Ok w g'' S'' H'' ∧ REnv w g'' env'' σ'' ∧ PgS w g'' W D (loopW (evT (sem T n) (gvs T) c) (fun env S => evS (sem T n) (gvs T) b env S) k env'' S''), fun σ'' H'' ⟨g'', S'', env'', a2, a3, a4⟩ => ⟨k, Nat.lt_succ_self _, g'', S'', env'', a2, a3, a4⟩, g1, S1, env', k1, re'.mono l1, ?_⟩
      have p2 : PgS w g1 W D (match evS (sem T n) (gvs T) b env' S1 with
        | .nx env' S' => loopW (evT (sem T n) (gvs T) c) (fun env S => evS (sem T n) (gvs T) b env S) k env' S'
        | .rt d S' => .rt d S'
        | .exc c env' S' => .exc c env' S'
        | .bad => .bad) := p1
      cases hb : evS (sem T n) (gvs T) b env' S1 with
      | nx env2 S2 =>
        rw [hb] at p2
        exact fun g2 H2 σ2 l2 k2 re2 => ⟨g2, S2, env2, k2, re2, PgS.mono l2 p2⟩
      | rt d2 S2 => rw [hb] at p2; exact p2
      | exc c env2 S2 => rw [hb] at p2; exact p2
      | bad => rw [hb] at p2; exact p2
theorem t_seq {a b : ST} {s : Stmt} {r : List Stmt} (ha : PS X s (liftS w (evS (sem T n) (gvs T) a) W)) (hb : PSs X r (liftS w (evS (sem T n) (gvs T) b) W)) : PSs X (s :: r) (liftS w (evS (sem T n) (gvs T) (.seq a b)) W) := by
  refine (pss_cons ha hb).imp fun D σ H ⟨g, S, env, ok, re, p⟩ => ⟨g, S, env, ok, re, ?_⟩
  have p' : PgS w g W D (match evS (sem T n) (gvs T) a env S with
    | .nx env' S' => evS (sem T n) (gvs T) b env' S'
    | .rt d S' => .rt d S'
    | .exc c env' S' => .exc c env' S'
    | .bad => .bad) := p
  cases q : evS (sem T n) (gvs T) a env S with
  | nx env2 S2 => rw [q] at p'; exact fun g2 H2 σ2 l2 k2 re2 => ⟨g2, S2, env2, k2, re2, PgS.mono l2 p'⟩
  | rt d2 S2 => rw [q] at p'; exact p'
  | exc c env2 S2 => rw [q] at p'; exact p'
  | bad => rw [q] at p'; exact p'
end
end ML

/-! Blocks, defs, the whole program. -/
namespace ML
open PySem PySem.Spec PyProof.Rows L2
theorem tgName_some {ts : List Expr} {x : Str} {p : Pos} (h : tgName ts = some (x, p)) : ts = [.Name x p] := by
  unfold tgName at h
  split at h
  · cases h; rfl
  · cases h
theorem tgTup_some {ts es : List Expr} (h : tgTup ts = some es) : ∃ k p, ts = [.Tuple es k p] := by
  unfold tgTup at h
  split at h
  · cases h; exact ⟨_, _, rfl⟩
  · cases h
theorem tgAtt_some {ts : List Expr} {x : Expr} {f : Str} (h : tgAtt ts = some (x, f)) : ∃ p, ts = [.Attribute x f p] := by
  unfold tgAtt at h
  split at h
  · cases h; exact ⟨_, rfl⟩
  · cases h
theorem tgSub_some {ts : List Expr} {x y : Expr} (h : tgSub ts = some (x, y)) : ∃ p, ts = [.Subscript x y p] := by
  unfold tgSub at h
  split at h
  · cases h; exact ⟨_, rfl⟩
  · cases h
theorem excOf_some {e z : Option Expr} {x : Str} (h : excOf e z = some x) : z = none ∧ ∃ p s k p2 pos, e = some (.Call (.Name x p) [.Constant (.str s) k p2] [] pos) := by
  unfold excOf at h
  split at h
  · cases h; exact ⟨rfl, _, _, _, _, _, rfl⟩
  · cases h
section
variable {T : Tab} {w : Wd} {n : Nat}
structure SBoth (T : Tab) (w : Wd) (n : Nat) (st : ST) : Prop where
  s1 : ∀ {N : List Str} {sc : Scope} {W : WX} {X : Cx} {s : Stmt}, GoodS T w n N sc W X → chk1 T N sc st s = true → PS X s (liftS w (evS (sem T n) (gvs T) st) W)
  ss : ∀ {N : List Str} {sc : Scope} {W : WX} {X : Cx} {r : List Stmt}, GoodS T w n N sc W X → chkS T N sc st r = true → PSs X r (liftS w (evS (sem T n) (gvs T) st) W)
theorem SBoth.of1 {st : ST} (h : ∀ {N : List Str} {sc : Scope} {W : WX} {X : Cx} {s : Stmt}, GoodS T w n N sc W X → chk1 T N sc st s = true → PS X s (liftS w (evS (sem T n) (gvs T) st) W)) (hs : ∀ N sc r, chkS T N sc st r = false) : SBoth T w n st :=
  ⟨h, fun _ q => (Bool.false_ne_true ((hs _ _ _).symm.trans q)).elim⟩
theorem soundS : ∀ st : ST, SBoth T w n st := by
  intro st
  induction st with
  | asg i e =>
    refine .of1 (fun {N sc W X s} G h => ?_) fun _ _ _ => rfl
    cases s with
    | Assign ts v pos =>
      have h0 : (match tgName ts with
        | some (x, py) => decide (N[i]? = some x) && locB sc x && noDSC v && !swB sc x py v && chkE T N sc e v
        | none => false) = true := h
      cases q : tgName ts with
      | none => rw [q] at h0; cases h0
      | some p =>
        obtain ⟨x, py⟩ := p
        rw [q] at h0
        simp only [Bool.and_eq_true, decide_eq_true_eq, Bool.not_eq_true'] at h0
        obtain rfl := tgName_some q
        exact t_asg G h0.1.1.1.1 h0.1.1.1.2 h0.1.1.2 h0.1.2 h0.2
    | _ => exact absurd h Bool.false_ne_true
  | asgC i e =>
    refine .of1 (fun {N sc W X s} G h => ?_) fun _ _ _ => rfl
    cases s with
    | Assign ts v pos =>
      have h0 : (match tgName ts with
        | some (x, py) => decide (N[i]? = some x) && swB sc x py v && isLc e && chkE T N sc e v
        | none => false) = true := h
      cases q : tgName ts with
      | none => rw [q] at h0; cases h0
      | some p =>
        obtain ⟨x, py⟩ := p
        rw [q] at h0
        simp only [Bool.and_eq_true, decide_eq_true_eq] at h0
        obtain rfl := tgName_some q
        rcases t_asgC G (pos := pos) h0.1.1.1 h0.1.1.2 h0.2 with z | z
        · exact z
        · have hl := h0.1.2
          cases e with
          | lc m own j it c f => exact absurd rfl (z m own j it c f)
          | _ => cases hl
    | _ => exact absurd h Bool.false_ne_true
  | unp is e =>
    refine .of1 (fun {N sc W X s} G h => ?_) fun _ _ _ => rfl
    cases s with
    | Assign ts v pos =>
      have h0 : (match tgTup ts with
        | some es => nmsB N sc is es && noComp v && !isTup v && chkE T N sc e v
        | none => false) = true := h
      cases q : tgTup ts with
      | none => rw [q] at h0; cases h0
      | some es =>
        rw [q] at h0
        simp only [Bool.and_eq_true] at h0
        obtain ⟨k, p, rfl⟩ := tgTup_some q
        exact t_unp G h0.1.1.1 h0.1.1.2 h0.1.2 h0.2
    | _ => exact absurd h Bool.false_ne_true
  | stI o i e =>
    refine .of1 (fun {N sc W X s} G h => ?_) fun _ _ _ => rfl
    cases s with
    | Assign ts v pos =>
      have h0 : (match tgSub ts with
        | some (x, y) => noSlice y && noComp v && chkE T N sc o x && chkE T N sc i y && chkE T N sc e v
        | none => false) = true := h
      cases q : tgSub ts with
      | none => rw [q] at h0; cases h0
      | some p =>
        obtain ⟨x, y⟩ := p
        rw [q] at h0
        simp only [Bool.and_eq_true] at h0
        obtain ⟨p, rfl⟩ := tgSub_some q
        exact t_stI G h0.1.1.1.1 h0.1.1.1.2 h0.1.1.2 h0.1.2 h0.2
    | _ => exact absurd h Bool.false_ne_true
  | stD o i e =>
    refine .of1 (fun {N sc W X s} G h => ?_) fun _ _ _ => rfl
    cases s with
    | Assign ts v pos =>
      have h0 : (match tgSub ts with
        | some (x, y) => noSlice y && noComp v && chkE T N sc o x && chkE T N sc i y && chkE T N sc e v
        | none => false) = true := h
      cases q : tgSub ts with
      | none => rw [q] at h0; cases h0
      | some p =>
        obtain ⟨x, y⟩ := p
        rw [q] at h0
        simp only [Bool.and_eq_true] at h0
        obtain ⟨p, rfl⟩ := tgSub_some q
        exact t_stD G h0.1.1.1.1 h0.1.1.1.2 h0.1.1.2 h0.1.2 h0.2
    | _ => exact absurd h Bool.false_ne_true
  | stF o c f e =>
    refine .of1 (fun {N sc W X s} G h => ?_) fun _ _ _ => rfl
    cases s with
    | Assign ts v pos =>
      have h0 : (match tgAtt ts with
        | some (x, f') => decide (f' = f) && noComp v && nofB T c f && chkE T N sc o x && chkE T N sc e v
        | none => false) = true := h
      cases q : tgAtt ts with
      | none => rw [q] at h0; cases h0
      | some p =>
        obtain ⟨x, f'⟩ := p
        rw [q] at h0
        simp only [Bool.and_eq_true, decide_eq_true_eq] at h0
        obtain ⟨⟨⟨⟨rfl, z1⟩, z2⟩, z3⟩, z4⟩ := h0
        obtain ⟨p, rfl⟩ := tgAtt_some q
        exact t_stF G z1 z2 z3 z4
    | _ => exact absurd h Bool.false_ne_true
  | exp e =>
    refine .of1 (fun {N sc W X s} G h => ?_) fun _ _ _ => rfl
    cases s with
    | Expr v pos =>
      have h0 : (noComp v && chkE T N sc e v) = true := h
      rw [Bool.and_eq_true] at h0
      exact t_exp G h0.1 h0.2
    | _ => exact absurd h Bool.false_ne_true
  | ife c a b ha hb =>
    refine .of1 (fun {N sc W X s} G h => ?_) fun _ _ _ => rfl
    cases s with
    | If v x y pos =>
      have h0 : (chkT T N sc c v && chkS T N sc a x && chkS T N sc b y) = true := h
      simp only [Bool.and_eq_true] at h0
      exact t_ife G h0.1.1 (ha.ss G h0.1.2) (hb.ss G h0.2)
    | _ => exact absurd h Bool.false_ne_true
  | fr i it b hb =>
    refine .of1 (fun {N sc W X s} G h => ?_) fun _ _ _ => rfl
    cases s with
    | For tg v y z pos =>
      have h0 : (match tgName [tg] with
        | some (x, _) => z.isEmpty && decide (N[i]? = some x) && locB sc x && noSet v && chkI T N sc it v && chkS T N sc b y
        | none => false) = true := h
      cases q : tgName [tg] with
      | none => rw [q] at h0; cases h0
      | some p =>
        obtain ⟨x, py⟩ := p
        rw [q] at h0
        simp only [Bool.and_eq_true, decide_eq_true_eq] at h0
        cases z with
        | cons _ _ => cases h0.1.1.1.1.1
        | nil =>
          have q' := tgName_some q
          cases q'
          exact t_fr G h0.1.1.1.1.2 h0.1.1.1.2 h0.1.1.2 h0.1.2 (hb.ss G h0.2)
    | _ => exact absurd h Bool.false_ne_true
  | frT is it b hb =>
    refine .of1 (fun {N sc W X s} G h => ?_) fun _ _ _ => rfl
    cases s with
    | For tg v y z pos =>
      have h0 : (match tgTup [tg] with
        | some es => z.isEmpty && nmsB N sc is es && noSet v && chkI T N sc it v && chkS T N sc b y
        | none => false) = true := h
      cases q : tgTup [tg] with
      | none => rw [q] at h0; cases h0
      | some es =>
        rw [q] at h0
        simp only [Bool.and_eq_true] at h0
        cases z with
        | cons _ _ => cases h0.1.1.1.1
        | nil =>
          obtain ⟨k, py, q'⟩ := tgTup_some q
          cases q'
          exact t_frT G h0.1.1.1.2 h0.1.1.2 h0.1.2 (hb.ss G h0.2)
    | _ => exact absurd h Bool.false_ne_true
  | whl c b hb =>
    refine .of1 (fun {N sc W X s} G h => ?_) fun _ _ _ => rfl
    cases s with
    | While v y z pos =>
      have h0 : (z.isEmpty && chkT T N sc c v && chkS T N sc b y) = true := h
      simp only [Bool.and_eq_true] at h0
      cases z with
      | cons _ _ => cases h0.1.1
      | nil => exact t_whl G h0.1.2 (hb.ss G h0.2)
    | _ => exact absurd h Bool.false_ne_true
  | ret e =>
    refine .of1 (fun {N sc W X s} G h => ?_) fun _ _ _ => rfl
    cases s with
    | Return v pos =>
      cases v with
      | none => exact absurd h Bool.false_ne_true
      | some v => exact t_ret G h
    | _ => exact absurd h Bool.false_ne_true
  | retN =>
    refine .of1 (fun {N sc W X s} G h => ?_) fun _ _ _ => rfl
    cases s with
    | Return v pos =>
      cases v with
      | none => exact t_retN
      | some v => exact absurd h Bool.false_ne_true
    | _ => exact absurd h Bool.false_ne_true
  | pass =>
    refine .of1 (fun {N sc W X s} G h => ?_) fun _ _ _ => rfl
    cases s with
    | Pass pos => exact t_pass
    | _ => exact absurd h Bool.false_ne_true
  | tryK b x tb i h ih =>
    refine .of1 (fun {N sc W X s} G h0 => ?_) fun _ _ _ => rfl
    have h1 : (match tryOf s with
      | some (body, z, n, hn, en) => decide (z = x) && glB sc z && nmB z && decide (x ∈ T.cls) && subB T x tb && decide (N[i]? = some n) && decide (sc.names.lookup n = some .local) && nmB n && decide (N[h]? = some hn) && locB sc hn && decide (en = n) && decide (i ≠ h) && chkS T N sc b body
      | none => false) = true := h0
    cases q : tryOf s with
    | none => rw [q] at h1; cases h1
    | some r =>
      obtain ⟨body, z, n, hn, en⟩ := r
      rw [q] at h1
      obtain ⟨p1, p2, p3, p4, p5, p6, rfl⟩ := tryOf_some q
      simp only [Bool.and_eq_true, decide_eq_true_eq] at h1
      obtain ⟨⟨⟨⟨⟨⟨⟨⟨⟨⟨⟨⟨rfl, a1⟩, a2⟩, a3⟩, a4⟩, a5⟩, a6⟩, a7⟩, a8⟩, a9⟩, rfl⟩, a10⟩, a11⟩ := h1
      exact t_tryK G a1 a2 a3 a4 a5 a6 a7 a8 a9 a10 fun G' => ih.ss G' a11
  | rais c =>
    refine .of1 (fun {N sc W X s} G h => ?_) fun _ _ _ => rfl
    cases s with
    | Raise e z pos =>
      have h0 : (decide (excOf e z = some c) && decide (c ∈ T.exc) && glB sc c && nmB c) = true := h
      simp only [Bool.and_eq_true, decide_eq_true_eq] at h0
      obtain ⟨rfl, p, s, k, p2, pos2, rfl⟩ := excOf_some h0.1.1.1
      exact t_rais G h0.1.1.2 h0.1.2 h0.2
    | _ => exact absurd h Bool.false_ne_true
  | nil =>
    refine ⟨fun {N sc W X s} G h => absurd h Bool.false_ne_true, fun {N sc W X r} G h => ?_⟩
    cases r with
    | nil => exact pss_nil.imp fun D σ H ⟨g, S, env, ok, re, p⟩ => p g H σ (Gh.Le.refl g) ok re
    | cons _ _ => exact absurd h Bool.false_ne_true
  | seq a b ha hb =>
    refine ⟨fun {N sc W X s} G h => absurd h Bool.false_ne_true, fun {N sc W X r} G h => ?_⟩
    cases r with
    | nil => exact absurd h Bool.false_ne_true
    | cons s r =>
      have h0 : (chk1 T N sc a s && chkS T N sc b r) = true := h
      rw [Bool.and_eq_true] at h0
      exact t_seq (ha.s1 G h0.1) (hb.ss G h0.2)
end
end ML

/-! Every def keeps what the small language says of it; the end of a law. -/
namespace ML
open PySem PySem.Spec PyProof.Rows L2

/-- a def of the text stands at a -/
structure DefAt (T : Tab) (K : PySem.W.Frag) (mg : Str → Option Value) (f : Fn) (st : Stmt) (a : Addr) (fd : FuncData) : Prop where
  mg : f.own = false → mg f.name = some (.ref a)
  at_ : ∃ q, Fun K f.name q st a fd
  bd : Binds K fd f.ps []
  sc : FnScope f.N f.ps (defScope st)
  ck : chkS T f.N (defScope st) f.body (defBody st) = true
structure Prog (T : Tab) (w : Wd) (mg : Str → Option Value) (wd : World) : Prop where
  fn : ∀ (k : Nat) (f : Fn), T.fns[k]? = some f → f.own = false → ∃ st a fd, DefAt T w.K mg f st a fd
  cst : ∀ (k : Nat) (x : Str) (d : D), T.cst[k]? = some (x, d) → ∃ u v, mg x = some u ∧ RelV v u ∧ ∀ g, Rl w g d v
  blt : ∀ x, x ∈ T.blt → mg x = none
  exc : ∀ c, c ∈ T.exc → ∃ C, w.cl c = some C ∧ ExcAt w.K mg c C
  dct : ∀ x kvs, (x, kvs) ∈ T.dct → DctAt w.K wd mg x kvs
  cls : ∀ x, x ∈ T.cls → ClsAt mg x
  sub : ∀ c x b, ((c, x), b) ∈ T.sub → ∃ C, w.cl c = some C ∧ SubAt w.K mg C x b
  nof : ∀ c f, (c, f) ∈ T.nof → ∃ C, w.cl c = some C ∧ Cls w.K C ∧ NoAttr w.K C f
  mth : ∀ c m k, ((c, m), k) ∈ T.mth → ∃ C st a fd f, w.cl c = some C ∧ Cls w.K C ∧ Meth w.K C m a ∧ T.fns[k]? = some f ∧ DefAt T w.K mg f st a fd
  mks : ∀ c k, (c, k) ∈ T.mks → ∃ C st a fd f, w.cl c = some C ∧ mg c = some (.ref C) ∧ Mk w.K C a ∧ T.fns[k]? = some f ∧ DefAt T w.K mg f st a fd

theorem start_rel {w : Wd} {g : Gh} {N : List Str} {ds : List D} {vs : List V} (r : Rls w g ds vs) : REnv w g (startE N.length ds) (L2.start N vs) := by
  have hl := r.length
  refine ⟨by unfold startE L2.start; simp [hl], fun i d e => ?_⟩
  unfold startE at e
  by_cases hi : i < ds.length
  · rw [List.getElem?_append_left (by simpa using hi), List.getElem?_map] at e
    cases q : ds[i]? with
    | none => rw [q] at e; cases e
    | some d' =>
      rw [q] at e
      cases e
      obtain ⟨v, h1, h2⟩ := r.get q
      refine ⟨v, ?_, h2⟩
      unfold L2.start
      rw [List.getElem?_append_left (by simp [← hl, hi]), List.getElem?_map, h1]
      rfl
  · rw [List.getElem?_append_right (by simpa using hi), List.getElem?_replicate] at e
    split at e <;> cases e

section
variable {T : Tab} {w : Wd} {P : Program} {wd : World} {mg : Str → Option Value} {base : Heap}
theorem all_ok (F : Prog T w mg wd) : ∀ (n k : Nat) (f : Fn) (st : Stmt) (a : Addr) (fd : FuncData), T.fns[k]? = some f → DefAt T w.K mg f st a fd → FnOk P wd w.K mg base (L2.CX P wd) (2 * n) a fd f.ps (spF T w n k) := by
  intro n
  induction n with
  | zero =>
    intro k f st a fd hk hd
    have no : ∀ vs H Q E, ¬ spF T w 0 k vs H Q E := fun vs H Q E ⟨g, S, ds, _, _, _, p⟩ => p.elim
    exact ⟨fun vs H Q E h => absurd h (no vs H Q E), fun A outer s H args us vs Q E _ _ _ _ h => absurd h (no vs H Q E)⟩
  | succ n ih =>
    intro k f st a fd hk hd
    obtain ⟨q, Fa⟩ := hd.at_
    refine Fa.okX hd.sc (fun vs H Q E h => ?_) (fun cdv A outer s H vs Q E hr h => ?_)
    · obtain ⟨g, S, ds, _, r, ⟨f', e1, e2⟩, _⟩ := h
      rw [hk] at e1
      cases e1
      rw [← r.length]
      exact e2
    · obtain ⟨g, S, ds, ok, r, ⟨f', e1, e2⟩, p⟩ := h
      rw [hk] at e1
      cases e1
      have G : GoodS T w n f.N (defScope st) (fun cls d _ H => E cls d H) (cxOf (L2.CX P wd) P wd w.K mg base f.N q (defScope st) a cdv A outer s H E) :=
        { hN := rfl, nd := hd.sc.nd, hs := rfl, hw := rfl, calm := rfl, room := hr, tk := takes_of rfl rfl rfl rfl, cst := F.cst, blt := F.blt, dct := F.dct, cls := F.cls, sub := F.sub,
          fn := fun k' f' hk' ho' => by
            obtain ⟨st', a', fd', hd'⟩ := F.fn k' f' hk' ho'
            obtain ⟨q', Fa'⟩ := hd'.at_
            exact ⟨a', fd', hd'.mg ho', Fa'.kp, hd'.bd, ih k' f' st' a' fd' hk' hd'⟩
          nof := F.nof
          mth := fun c m k' hm' => by
            obtain ⟨C, st', a', fd', f', hC, hc, hm, hk', hd'⟩ := F.mth c m k' hm'
            exact ⟨C, a', fd', f', hC, hc, hm, hk', hd'.bd, ih k' f' st' a' fd' hk' hd'⟩
          mks := fun c k' hm' => by
            obtain ⟨C, st', a', fd', f', hC, hmg, M, hk', hd'⟩ := F.mks c k' hm'
            exact ⟨C, a', fd', f', hC, hmg, M, hk', hd'.bd, ih k' f' st' a' fd' hk' hd'⟩
          kind := hd.sc.kind, po := passes_of rfl, fnt := fun _ => rfl,
          exc := fun c hc => by
            obtain ⟨C, hC, X⟩ := F.exc c hc
            exact ⟨C, hC, X⟩
          stk := rfl, frm := rfl, exq := rfl }
      refine ⟨_, (soundS f.body).ss G hd.ck, g, S, startE f.N.length ds, ok, start_rel r, ?_⟩
      have p' : Pst w g (fun c H' => ∀ C, w.cl c = some C → E (.ref C) none H') Q (match T.fns[k]? with
        | some f => if ds.length = f.ps.length then endF (evS (sem T n) (T.cst.map (·.2)) f.body (startE f.N.length ds) S) else .bad
        | none => .bad) := p
      rw [hk] at p'
      simp only [e2, if_true] at p'
      show PgS w g (fun cls d _ H => E cls d H) { nx := fun _ H' => Q .non H', rt := Q } (evS (sem T n) (gvs T) f.body (startE f.N.length ds) S)
      have ge : T.cst.map (·.2) = gvs T := rfl
      rw [ge] at p'
      cases hq : evS (sem T n) (gvs T) f.body (startE f.N.length ds) S with
      | nx env' S' => rw [hq] at p'; exact fun g' H' σ' l k' _ => p' g' H' l k' _ .non
      | rt d S' => rw [hq] at p'; exact fun g' H' v l k' r => p' g' H' l k' v r
      | exc c env' S' => rw [hq] at p'; exact fun g' H' σ' l k' _ C hC => p' g' H' l k' C hC
      | bad => rw [hq] at p'; exact p'
end

/-! ### the law's end -/
def S0 : Store := ⟨0, fun _ => none⟩
def script (ns : List Int) : D := .cst (ns.map .int)
theorem rls_ints {w : Wd} {g : Gh} : ∀ ns : List Int, Rls w g (ns.map D.int) (ns.map V.int)
  | [] => .nil
  | n :: ns => .cons (.int n) (rls_ints ns)
theorem law_end {T : Tab} {w : Wd} {n k : Nat} {f : Fn} (hk : T.fns[k]? = some f) (h1 : f.ps.length = 1) (law : ∀ ns : List Int, ns.length ≤ 63 → ∃ S', sem T n k [script ns] S0 = .ok (.bl true) S') (H : Hp) (a : Addr) (ns : List Int) (hl : ns.length ≤ 63) (hs : SqL w.K H a (ns.map V.int)) :
    spF T w n k [.ref a] H (fun v _ => v = .bl true) fun _ _ _ => False := by
  obtain ⟨S', e⟩ := law ns hl
  refine ⟨⟨fun b => if b = a then H b else none, fun _ => 0, 0⟩, S0, [script ns], ⟨fun b o q => ?_, rfl, fun m n h => absurd h (Nat.not_lt_zero _), fun n h => absurd h (Nat.not_lt_zero _), fun n o q => (by cases q), fun n o q => (by cases q), fun n o q => (by cases q)⟩, .cons (.cst ?_ (rls_ints ns)) .nil, ⟨f, hk, by rw [h1]; rfl⟩, ?_⟩
  · have q' : (if b = a then H b else none) = some o := q
    split at q'
    · exact q'
    · cases q'
  · rcases hs with (hs | ⟨o, hs⟩) | hs
    · exact .inl (.inl (by show (if a = a then H a else none) = _; rw [if_pos rfl]; exact hs))
    · exact .inl (.inr ⟨o, by show (if a = a then H a else none) = _; rw [if_pos rfl]; exact hs⟩)
    · exact .inr hs
  · rw [e]
    exact fun g' H' _ _ v r => by cases r; rfl
theorem cx_no {P : Program} {wd : World} {H : Hp} {s : Shared} {e : Value} {s' : Shared} (h : L2.CX P wd [] H s (fun _ _ _ => False) e s') : False := by
  obtain ⟨_, _, _, _, _, _, _, _, _, _, _, _, z⟩ := h
  exact z
/-- the addresses of the classes, as the written part tells them -/
def wdOf (K : PySem.W.Frag) : Wd := ⟨K, fun c => match PySem.W.nsIn K mainGlobals c with
  | some (some (.ref C)) => some C
  | _ => none⟩
theorem walk {l : PySem.W.OpenLaw} {n k : Nat} {q : Program} {loose : List Str} {XP : (Str → Option Value) → Heap → Prop} {YP : World → Heap → Prop} {d : DefRec} {K : Params → PySem.W.Frag} {T : Tab} {f : Fn} {x : Str}
    (hk : T.fns[k]? = some f) (hps : f.ps = [x]) (hn : l.most = some 63) (hdf : d.params.defaults = []) (hr : Room (2 * n) callerA)
    (hY : ∀ (w : World) (h : Heap), YP w h → (K w.params).In h)
    (law : ∀ ns : List Int, ns.length ≤ 63 → ∃ S', sem T n k [script ns] S0 = .ok (.bl true) S')
    (F : ∀ (w : World) (mg : Str → Option Value) (fa : Addr) (h : Heap), (K w.params).In h → h.Ns mainGlobals mg → mg d.name = some (.ref fa) →
      ∃ (st : Stmt) (fd : FuncData), (∀ (s : Shared) (u : Value), BindsTo s fd ⟨[u], []⟩ [(x, u)]) ∧ Prog T (wdOf (K w.params)) mg w ∧ DefAt T (K w.params) mg f st fa fd) :
    PySem.W.WalkO q loose XP YP l.row.toRowW d [] (fun f vs => PySem.call f vs) := by
  refine L2.walk_of (n := 63) (k := 2 * n) (x := x) (CX := fun w => L2.CX l.prog w) (sp := fun w => spF T (wdOf (K w.params)) n k) hn (by decide) hdf hr hY (fun w mg fa h KX G hmg => ?_) (fun w H a ns hl _ hs => law_end (w := wdOf (K w.params)) hk (by rw [hps]; rfl) law H a ns hl hs) fun w H s e s' => cx_no
  obtain ⟨st, fd, hb, hp, hd⟩ := F w mg fa h KX G hmg
  refine ⟨fd, hb, fun base _ _ => ?_⟩
  have z := all_ok (P := l.prog) (wd := w) (base := base) hp n k f st fa fd hk hd
  rw [hps] at z
  exact z
/-! ### written dicts, from the written part -/
theorem dct_keys {K : PySem.W.Frag} {p : Addr} {es : Array DictEntry} {n : Nat} {ks : List (Option (Str × Int))} (h : K.lookup p = some ⟨.type "dict", none, .dict es n, #[]⟩) (hd : He.dicW K p = some ks) : es.toList.map He.keyOf = ks := by
  unfold He.dicW at hd
  rw [h] at hd
  simp only at hd
  split at hd
  · exact Option.some.inj hd
  · cases hd
theorem miss {P : Params} : ∀ {l : List DictEntry} {ks : List Str} {z : Str}, l.map He.keyOf = He.keysIn P ks → z ∉ ks → l.find? (·.key.isStr z) = none ∧ l.any (·.refKey) = false
  | [], _, _, _, _ => ⟨rfl, rfl⟩
  | e :: r, [], _, h, _ => by cases h
  | e :: r, k :: ks, z, h, hz => by
    have h1 : He.keyOf e :: r.map He.keyOf = some (k, PyData.keyHash P k) :: He.keysIn P ks := h
    injection h1 with h2 h3
    obtain ⟨i1, i2⟩ := miss h3 fun q => hz (.tail _ q)
    unfold He.keyOf at h2
    split at h2
    · rename_i x t q
      have h5 := (Prod.mk.inj (Option.some.inj h2)).1
      have ne : (e.key.isStr z) = false := by
        rw [q, h5]
        show (k == z) = false
        exact beq_eq_false_iff_ne.mpr fun q => hz (q ▸ .head _)
      refine ⟨by rw [List.find?_cons, ne]; exact i1, ?_⟩
      have nr : e.refKey = false := by
        unfold PySem.DictEntry.refKey
        rw [q]
      rw [List.any_cons, nr, i2]
      rfl
    · cases h2
theorem dct_mk {K : PySem.W.Frag} {wd : World} {mg : Str → Option Value} {x : Str} {kvs : List (Str × Key)} {p : Addr} (hm : mg x = some (.ref p)) (hd : He.dicW K p = some (He.keysIn wd.params (kvs.map (·.1))))
    (hv : ∀ q ∈ kvs, ∃ u, PySem.W.nsIn K p q.1 = some (some u) ∧ RelV (kV q.2) u) : DctAt K wd mg x kvs := by
  obtain ⟨es, n, kd⟩ := He.dicW_ok hd
  refine ⟨p, es, n, hm, kd, fun z => ?_⟩
  cases q : kvs.lookup z with
  | some k =>
    have hmem : (z, k) ∈ kvs := by
      clear hd hv
      induction kvs with
      | nil => cases q
      | cons a r ih =>
        obtain ⟨a1, a2⟩ := a
        rw [List.lookup_cons] at q
        split at q
        · rename_i e
          cases q
          rw [eq_of_beq e]
          exact .head _
        · exact .tail _ (ih q)
    obtain ⟨u, e1, e2⟩ := hv _ hmem
    exact ⟨some u, e1, u, rfl, e2⟩
  | none =>
    have hno : z ∉ kvs.map (·.1) := by
      clear hd hv
      induction kvs with
      | nil => simp
      | cons a r ih =>
        obtain ⟨a1, a2⟩ := a
        rw [List.lookup_cons] at q
        split at q
        · cases q
        · rename_i e
          intro z'
          rcases List.mem_cons.mp z' with z' | z'
          · have z2 : z = a1 := z'
            rw [z2] at e
            simp at e
          · exact ih q z'
    obtain ⟨m1, m2⟩ := miss (dct_keys kd.at_ hd) hno
    refine ⟨none, ?_, rfl⟩
    unfold PySem.W.nsIn
    rw [kd.at_]
    simp only
    rw [m1]
    simp only
    rw [m2]
    rfl
theorem dicW_of {K : PySem.W.Frag} {p : Addr} {es : Array DictEntry} {n : Nat} (h : K.lookup p = some ⟨.type "dict", none, .dict es n, #[]⟩) (low : (p == sysModules) = false) : He.dicW K p = some (es.toList.map He.keyOf) := by
  unfold He.dicW
  rw [h]
  simp [low]
theorem subAt_own {K : PySem.W.Frag} {mg : Str → Option Value} {C : Addr} {x : Str} {b : Bool} {v : Value} (ec : ExcC K C) (h : mg x = some v) (k : PySem.W.kitOne K (.ref C) v = some b) (e : PySem.W.exmOne K (.ref C) v = some b) : SubAt K mg C x b :=
  ⟨ec, fun u hu => by
    rcases hu with hu | ⟨hu, _⟩
    · rw [h] at hu; cases hu; exact ⟨k, e⟩
    · rw [h] at hu; cases hu⟩
theorem subAt_blt {K : PySem.W.Frag} {mg : Str → Option Value} {C : Addr} {x : Str} {b : Bool} {v : Value} (ec : ExcC K C) (h : mg x = none) (hv : bootBuiltins x = some v) (k : PySem.W.kitOne K (.ref C) v = some b) (e : PySem.W.exmOne K (.ref C) v = some b) : SubAt K mg C x b :=
  ⟨ec, fun u hu => by
    rcases hu with hu | ⟨_, hu⟩
    · rw [h] at hu; cases hu
    · rw [hv] at hu; cases hu; exact ⟨k, e⟩⟩
end ML

/-! Reasoning about the small language. -/
namespace ML
open PySem L2

/-- what is wanted of an end -/
def wpr {α : Type} (r : Rs α) (Q : α → Store → Prop) (E : Str → Store → Prop) : Prop := match r with
  | .ok a S => Q a S
  | .exc c S => E c S
  | .bad => False
def wrs (r : RS) (N : Env → Store → Prop) (R : D → Store → Prop) (E : Str → Env → Store → Prop) : Prop := match r with
  | .nx env S => N env S
  | .rt d S => R d S
  | .exc c env S => E c env S
  | .bad => False
section
variable {α β : Type} {Q : α → Store → Prop} {E : Str → Store → Prop} {S : Store}
theorem wpr_ok {a : α} : wpr (.ok a S) Q E = Q a S := rfl
theorem wpr_exc {c : Str} : wpr (.exc c S : Rs α) Q E = E c S := rfl
theorem wpr_bad : wpr (.bad : Rs α) Q E = False := rfl
theorem wpr_pure {a : α} : wpr (M.pure a S) Q E = Q a S := rfl
theorem wpr_mbad : wpr ((M.bad : M α) S) Q E = False := rfl
theorem wpr_bind {m : M β} {k : β → M α} : wpr (M.bind m k S) Q E = wpr (m S) (fun a S' => wpr (k a S') Q E) E := by
  unfold M.bind
  cases m S <;> rfl
theorem wpr_ite {c : Prop} [Decidable c] {a b : M α} : wpr ((if c then a else b) S) Q E = if c then wpr (a S) Q E else wpr (b S) Q E := by
  split <;> rfl
theorem wpr_iteR {c : Prop} [Decidable c] {a b : Rs α} : wpr (if c then a else b) Q E = if c then wpr a Q E else wpr b Q E := by
  split <;> rfl
theorem wpr_mono {r : Rs α} {Q' : α → Store → Prop} {E' : Str → Store → Prop} (h : wpr r Q E) (hq : ∀ a S, Q a S → Q' a S) (he : ∀ c S, E c S → E' c S) : wpr r Q' E' := by
  cases r with
  | ok a S => exact hq a S h
  | exc c S => exact he c S h
  | bad => exact h
theorem wpr_of {r : Rs α} {a : α} {S' : Store} (e : r = .ok a S') (h : Q a S') : wpr r Q E := by rw [e]; exact h
theorem wpr_elim {r : Rs α} (h : wpr r Q (fun _ _ => False)) : ∃ a S', r = .ok a S' ∧ Q a S' := by
  cases r with
  | ok a S => exact ⟨a, S, rfl, h⟩
  | exc c S => exact h.elim
  | bad => exact h.elim
end
section
variable {α : Type} {N : Env → Store → Prop} {R : D → Store → Prop} {E : Str → Env → Store → Prop} {S : Store} {env : Env}
theorem wrs_nx : wrs (.nx env S) N R E = N env S := rfl
theorem wrs_rt {d : D} : wrs (.rt d S) N R E = R d S := rfl
theorem wrs_exc {c : Str} : wrs (.exc c env S) N R E = E c env S := rfl
theorem wrs_bad : wrs .bad N R E = False := rfl
theorem wrs_thenS {r : Rs α} {k : α → Store → RS} : wrs (r.thenS env k) N R E = wpr r (fun a S => wrs (k a S) N R E) (fun c S => E c env S) := by
  cases r <;> rfl
theorem wrs_ite {c : Prop} [Decidable c] {a b : RS} : wrs (if c then a else b) N R E = if c then wrs a N R E else wrs b N R E := by
  split <;> rfl
theorem wrs_mono {r : RS} {N' : Env → Store → Prop} {R' : D → Store → Prop} {E' : Str → Env → Store → Prop} (h : wrs r N R E) (hn : ∀ e S, N e S → N' e S) (hr : ∀ d S, R d S → R' d S) (he : ∀ c e S, E c e S → E' c e S) : wrs r N' R' E' := by
  cases r with
  | nx e S => exact hn e S h
  | rt d S => exact hr d S h
  | exc c e S => exact he c e S h
  | bad => exact h
variable {Γ : Nat → List D → M D} {gv : List D}
theorem wrs_seq {a b : ST} : wrs (evS Γ gv (.seq a b) env S) N R E = wrs (evS Γ gv a env S) (fun env' S' => wrs (evS Γ gv b env' S') N R E) R E := by
  show wrs (match evS Γ gv a env S with
    | .nx env' S' => evS Γ gv b env' S'
    | .rt d S' => .rt d S'
    | .exc c env' S' => .exc c env' S'
    | .bad => .bad) N R E = _
  cases evS Γ gv a env S <;> rfl
theorem wrs_end {r : RS} {Q : D → Store → Prop} {X : Str → Store → Prop} : wpr (endF r) Q X = wrs r (fun _ S => Q .non S) Q (fun c _ S => X c S) := by
  cases r <;> rfl
/-- a for over written items: by an invariant over what was taken -/
theorem wrs_for {b : ST} {i : Nat} {xs : List D} (I : Nat → Env → Store → Prop) (h0 : I 0 env S)
    (hs : ∀ (j : Nat) (x : D) (env' : Env) (S' : Store), xs[j]? = some x → I j env' S' → wrs (evS Γ gv b (env'.set i (some x)) S') (I (j + 1)) R E)
    (hd : ∀ env' S', I xs.length env' S' → N env' S') : wrs (loopF (.vals xs) (fun x env S => evS Γ gv b (env.set i (some x)) S) (Src.vals xs).num 0 env S) N R E := by
  have gen : ∀ (k j : Nat) (env' : Env) (S' : Store), j + k = xs.length → I j env' S' → wrs (loopF (.vals xs) (fun x env S => evS Γ gv b (env.set i (some x)) S) k j env' S') N R E := by
    intro k
    induction k with
    | zero =>
      intro j env' S' hj hI
      have e : j = xs.length := by omega
      subst e
      exact hd env' S' hI
    | succ k ih =>
      intro j env' S' hj hI
      have hlt : j < xs.length := by omega
      show wrs (match (xs[j]? : Option D) with
        | none => .bad
        | some x => match evS Γ gv b (env'.set i (some x)) S' with
          | .nx env' S' => loopF (.vals xs) (fun x env S => evS Γ gv b (env.set i (some x)) S) k (j + 1) env' S'
          | .rt d S' => .rt d S'
          | .exc c env' S' => .exc c env' S'
          | .bad => .bad) N R E
      rw [List.getElem?_eq_getElem hlt]
      dsimp only
      have z := hs j xs[j] env' S' (List.getElem?_eq_getElem hlt) hI
      revert z
      cases evS Γ gv b (env'.set i (some xs[j])) S' with
      | nx e2 S2 => exact fun z => ih (j + 1) e2 S2 (by omega) z
      | rt d S2 => exact fun z => z
      | exc c e2 S2 => exact fun z => z
      | bad => exact fun z => z
  exact gen xs.length 0 env S (Nat.zero_add _) h0
/-- a while, by an invariant and a number that falls -/
theorem wrs_while {b : ST} {c : ML.E} (I : Nat → Env → Store → Prop) {m : Nat} (hm : m < wMost) (h0 : I m env S)
    (hs : ∀ (k : Nat) (env' : Env) (S' : Store), I k env' S' → wpr (evT Γ gv c env' S') (fun t S1 => if t = true then wrs (evS Γ gv b env' S1) (fun e2 S2 => ∃ k', k' < k ∧ I k' e2 S2) R E else N env' S1) (fun c S1 => E c env' S1)) :
    wrs (loopW (evT Γ gv c) (fun env S => evS Γ gv b env S) wMost env S) N R E := by
  have gen : ∀ (f k : Nat) (env' : Env) (S' : Store), k < f → I k env' S' → wrs (loopW (evT Γ gv c) (fun env S => evS Γ gv b env S) f env' S') N R E := by
    intro f
    induction f with
    | zero => intro k env' S' hk; exact absurd hk (Nat.not_lt_zero _)
    | succ f ih =>
      intro k env' S' hk hI
      show wrs ((evT Γ gv c env' S').thenS env' fun t S1 => if t = true then match evS Γ gv b env' S1 with
          | .nx env' S' => loopW (evT Γ gv c) (fun env S => evS Γ gv b env S) f env' S'
          | .rt d S' => .rt d S'
          | .exc c env' S' => .exc c env' S'
          | .bad => .bad
        else .nx env' S1) N R E
      rw [wrs_thenS]
      refine wpr_mono (hs k env' S' hI) (fun t S1 h => ?_) fun c S1 h => h
      cases t with
      | false => exact h
      | true =>
        simp only [if_true] at h ⊢
        revert h
        cases evS Γ gv b env' S1 with
        | nx e2 S2 => exact fun ⟨k', h1, h2⟩ => ih k' e2 S2 (by omega) h2
        | rt d S2 => exact fun z => z
        | exc c e2 S2 => exact fun z => z
        | bad => exact fun z => z
  exact gen wMost m env S hm h0
end

/-! ### stores -/
/-- nothing beyond -/
def Store.WF (S : Store) : Prop := ∀ n, S.nx ≤ n → S.ob n = none
def Store.up (S : Store) (k : Nat) : Store := ⟨S.nx + k, S.ob⟩
theorem Store.WF.up {S : Store} (h : S.WF) (k : Nat) : (S.up k).WF := fun n hn => h n (Nat.le_trans (Nat.le_add_right _ _) hn)
theorem Store.up_up (S : Store) (a b : Nat) : (S.up a).up b = S.up (a + b) := by
  unfold Store.up
  rw [Nat.add_assoc]
theorem Store.up_zero (S : Store) : S.up 0 = S := rfl
theorem Store.up_ob (S : Store) (k n : Nat) : (S.up k).ob n = S.ob n := rfl
theorem Store.new_ob {S : Store} {o : Ob} : (S.new o).ob S.nx = some o := by
  show (if S.nx = S.nx then some o else _) = _
  rw [if_pos rfl]
theorem Store.new_set_del {S : Store} {o o' : Ob} (h : S.WF) : ((S.new o).set S.nx o').del S.nx = S.up 1 := by
  unfold Store.new Store.set Store.del Store.up
  congr 1
  funext n
  by_cases c : n = S.nx
  · simp [c, h S.nx (Nat.le_refl _)]
  · simp [c]
theorem Store.new_del {S : Store} {o : Ob} (h : S.WF) : (S.new o).del S.nx = S.up 1 := by
  unfold Store.new Store.del Store.up
  congr 1
  funext n
  by_cases c : n = S.nx
  · simp [c, h S.nx (Nat.le_refl _)]
  · simp [c]
theorem Store.set_set {S : Store} {n : Nat} {o o' : Ob} : (S.set n o).set n o' = S.set n o' := by
  unfold Store.set
  congr 1
  funext m
  by_cases c : m = n
  · simp [c]
  · simp [c]
theorem Store.set_ob {S : Store} {n : Nat} {o : Ob} : (S.set n o).ob n = some o := by
  show (if n = n then some o else _) = _
  rw [if_pos rfl]
theorem Store.set_ne {S : Store} {n m : Nat} {o : Ob} (h : m ≠ n) : (S.set n o).ob m = S.ob m := by
  show (if m = n then some o else _) = _
  rw [if_neg h]
theorem Store.set_up {S : Store} {n k : Nat} {o : Ob} : (S.up k).set n o = (S.set n o).up k := rfl
theorem Store.new_WF {S : Store} {o : Ob} (h : S.WF) : (S.new o).WF := fun n hn => by
  have hn' : S.nx + 1 ≤ n := hn
  show (if n = S.nx then some o else S.ob n) = none
  rw [if_neg (by omega)]
  exact h n (by omega)
theorem Store.set_WF {S : Store} {m : Nat} {o : Ob} (h : S.WF) (hm : m < S.nx) : (S.set m o).WF := fun n hn => by
  have hn' : S.nx ≤ n := hn
  show (if n = m then some o else S.ob n) = none
  rw [if_neg (by omega)]
  exact h n hn'

/-! ### the store only grown -/
structure Gr (S S' : Store) : Prop where
  nx : S.nx ≤ S'.nx
  wf : S'.WF
  ob : ∀ n, n < S.nx → S'.ob n = S.ob n
theorem Gr.refl {S : Store} (h : S.WF) : Gr S S := ⟨Nat.le_refl _, h, fun _ _ => rfl⟩
theorem Gr.trans {a b c : Store} (h : Gr a b) (k : Gr b c) : Gr a c := ⟨Nat.le_trans h.nx k.nx, k.wf, fun n q => (k.ob n (Nat.lt_of_lt_of_le q h.nx)).trans (h.ob n q)⟩
theorem Gr.new {S : Store} {o : Ob} (h : S.WF) : Gr S (S.new o) := ⟨Nat.le_succ _, Store.new_WF h, fun n q => by
  show (if n = S.nx then some o else S.ob n) = S.ob n
  rw [if_neg (Nat.ne_of_lt q)]⟩
theorem Store.del_WF {S : Store} {m : Nat} (h : S.WF) : (S.del m).WF := fun n hn => by
  show (if n = m then Option.none else S.ob n) = Option.none
  split
  · rfl
  · exact h n hn
/-- what is new may be written and thrown away -/
theorem Gr.set {S S' : Store} {k : Nat} {o : Ob} (h : Gr S S') (hk : S.nx ≤ k) (hk' : k < S'.nx) : Gr S (S'.set k o) := ⟨h.nx, Store.set_WF h.wf hk', fun n q => by
  rw [Store.set_ne (by omega)]
  exact h.ob n q⟩
theorem Gr.del {S S' : Store} {k : Nat} (h : Gr S S') (hk : S.nx ≤ k) : Gr S (S'.del k) := ⟨h.nx, Store.del_WF h.wf, fun n q => by
  show (if n = k then Option.none else S'.ob n) = S.ob n
  rw [if_neg (by omega)]
  exact h.ob n q⟩
def Ups {α : Type} (r : Rs α) (S : Store) (a : α) : Prop := ∃ S', r = .ok a S' ∧ Gr S S'
theorem Ups.wpr {α : Type} {r : Rs α} {S : Store} {a : α} {Q : α → Store → Prop} {E : Str → Store → Prop} (h : Ups r S a) (q : ∀ S', Gr S S' → Q a S') : wpr r Q E := by
  obtain ⟨S', e, g⟩ := h
  rw [e]
  exact q S' g
theorem Ups.of {α : Type} {r : Rs α} {S : Store} {a : α} (h : ML.wpr r (fun a' S' => a' = a ∧ Gr S S') fun _ _ => False) : Ups r S a := by
  obtain ⟨a', S', e, h1, g⟩ := wpr_elim h
  exact ⟨S', by rw [e, h1], g⟩
theorem loopC_pure {xs : List D} {n : Nat} {f : D → M (Option D)} {p : D → Bool} {g : D → D}
    (hf : ∀ x ∈ xs, ∀ S : Store, S.WF → Ups (f x S) S (if p x = true then some (g x) else none)) :
    ∀ (k j : Nat) (S : Store) (acc : List D), j + k = xs.length → S.WF → n < S.nx → acc.length + k < nMax → S.ob n = some (.lst acc) →
      ∃ S', loopC (.vals xs) n f k j S = .ok () S' ∧ S.nx ≤ S'.nx ∧ S'.WF ∧ S'.ob n = some (.lst (acc ++ ((xs.drop j).filter p).map g)) ∧ ∀ m, m < S.nx → m ≠ n → S'.ob m = S.ob m := by
  intro k
  induction k with
  | zero =>
    intro j S acc hj hS hn hl he
    have e : xs.drop j = [] := List.drop_eq_nil_of_le (by omega)
    rw [e]
    refine ⟨S, ?_, Nat.le_refl _, hS, by simpa using he, fun _ _ _ => rfl⟩
    show (if true = true then Rs.ok () S else .bad) = _
    rw [if_pos rfl]
  | succ k ih =>
    intro j S acc hj hS hn hl he
    have hlt : j < xs.length := by omega
    have hx : xs[j]? = some xs[j] := List.getElem?_eq_getElem hlt
    have hm : xs[j] ∈ xs := List.getElem_mem hlt
    have hd : xs.drop j = xs[j] :: xs.drop (j + 1) := List.drop_eq_getElem_cons hlt
    show ∃ S', (match (xs[j]? : Option D) with
      | none => Rs.bad
      | some x => match f x S with
        | .ok none S1 => loopC (.vals xs) n f k (j + 1) S1
        | .ok (some y) S1 => match obLst (S1.ob n) with
          | some acc => if acc.length < nMax then loopC (.vals xs) n f k (j + 1) (S1.set n (.lst (acc ++ [y]))) else .bad
          | none => .bad
        | _ => .bad) = _ ∧ _
    rw [hx]
    obtain ⟨S1, hv, G⟩ := hf _ hm S hS
    have he1 : S1.ob n = some (.lst acc) := (G.ob n hn).trans he
    have hn1 : n < S1.nx := Nat.lt_of_lt_of_le hn G.nx
    simp only
    rw [hv]
    cases hp : p xs[j] with
    | false =>
      simp only [Bool.false_eq_true, if_false]
      obtain ⟨S2, hu, a1, a2, a3, a4⟩ := ih (j + 1) S1 acc (by omega) G.wf hn1 (by omega) he1
      refine ⟨S2, hu, Nat.le_trans G.nx a1, a2, ?_, fun m h1 h2 => (a4 m (Nat.lt_of_lt_of_le h1 G.nx) h2).trans (G.ob m h1)⟩
      rw [a3, hd, List.filter_cons_of_neg (by simp [hp])]
    | true =>
      simp only [if_true]
      rw [he1]
      simp only [obLst]
      obtain ⟨S2, hu, a1, a2, a3, a4⟩ := ih (j + 1) (S1.set n (.lst (acc ++ [g xs[j]]))) (acc ++ [g xs[j]]) (by omega) (Store.set_WF G.wf hn1) hn1 (by simp; omega) Store.set_ob
      refine ⟨S2, by rw [if_pos (by omega)]; exact hu, Nat.le_trans G.nx a1, a2, ?_, fun m h1 h2 => ?_⟩
      · rw [a3, hd, List.filter_cons_of_pos (by simp [hp]), List.map_cons]
        simp
      · rw [a4 m (Nat.lt_of_lt_of_le h1 G.nx) h2, Store.set_ne h2]
        exact G.ob m h1
theorem compM_pure {xs : List D} {f : D → M (Option D)} (p : D → Bool) (g : D → D) {S : Store} (hS : S.WF) (hl : xs.length < nMax)
    (hf : ∀ x ∈ xs, ∀ S : Store, S.WF → Ups (f x S) S (if p x = true then some (g x) else none)) :
    Ups (compM false (.vals xs) f S) S (.lst ((xs.filter p).map g)) := by
  rw [compM_eq]
  obtain ⟨S', e, a1, a2, a3, a4⟩ := loopC_pure (n := S.nx) hf xs.length 0 (S.new (.lst [])) [] (Nat.zero_add _) (Store.new_WF hS) (Nat.lt_succ_self _) (by simpa using hl) Store.new_ob
  refine ⟨S'.del S.nx, ?_, ?_⟩
  · show finishC false S.nx (loopC (.vals xs) S.nx f xs.length 0 (S.new (.lst []))) = _
    rw [e]
    show (match obLst (S'.ob S.nx) with
      | some acc => Rs.ok (D.lst acc) (S'.del S.nx)
      | none => .bad) = _
    rw [a3]
    simp only [obLst, List.nil_append, List.drop_zero]
  · refine Gr.del ⟨Nat.le_trans (Nat.le_succ _) a1, a2, fun n q => ?_⟩ (Nat.le_refl _)
    rw [a4 n (Nat.lt_succ_of_lt q) (Nat.ne_of_lt q)]
    exact (Gr.new hS).ob n q
/-- .. without a test -/
theorem compM_map {xs : List D} {f : D → M (Option D)} (g : D → D) {S : Store} (hS : S.WF) (hl : xs.length < nMax)
    (hf : ∀ x ∈ xs, ∀ S : Store, S.WF → Ups (f x S) S (some (g x))) : Ups (compM false (.vals xs) f S) S (.lst (xs.map g)) := by
  have z := compM_pure (fun _ => true) g hS hl fun x hx S hS => by simpa using hf x hx S hS
  rw [List.filter_eq_self.mpr (fun _ _ => rfl)] at z
  exact z
end ML

/-! The steps of the small language, as equations. -/
namespace ML
open PySem L2
section
variable {Γ : Nat → List D → M D} {gv : List D} {env : Env} {S : Store} {Q : D → Store → Prop} {X : Str → Store → Prop} {QA : List D → Store → Prop} {QT : Bool → Store → Prop} {QI : Src → Store → Prop}
/-- a new value, a new list -/
def wpF (m : Bool) (o : Option PR) (Q : D → Store → Prop) (S : Store) : Prop := match o with
  | some (.val d) => Q d S
  | some (.newt xs) => Q (.tup xs) S
  | some (.newl xs) => if m = true then Q (.loc S.nx) (S.new (.lst xs)) else Q (.lst xs) S
  | none => False
theorem wpr_finO {m : Bool} {o : Option PR} : wpr (finO m o S) Q X = wpF m o Q S := by
  cases o with
  | none => rfl
  | some r =>
    cases r with
    | val d => rfl
    | newt d => rfl
    | newl d => cases m <;> rfl
def wpO {α : Type} (o : Option α) (Q : α → Prop) : Prop := match o with
  | some a => Q a
  | none => False
theorem wpO_some {α : Type} {a : α} {Q : α → Prop} : wpO (some a) Q = Q a := rfl
theorem wE_var {i : Nat} : wpr (evE Γ gv (.var i) env S) Q X = wpO ((env[i]?).join) (fun d => Q d S) := by
  show wpr (match env[i]? with
    | some (some d) => Rs.ok d S
    | _ => Rs.bad) Q X = _
  cases env[i]? with
  | none => rfl
  | some o => cases o <;> rfl
theorem wE_cI {i : Int} : wpr (evE Γ gv (.cI i) env S) Q X = Q (.int i) S := rfl
theorem wE_cS {i : Str} : wpr (evE Γ gv (.cS i) env S) Q X = Q (.str i) S := rfl
theorem wE_cB {i : Bool} : wpr (evE Γ gv (.cB i) env S) Q X = Q (.bl i) S := rfl
theorem wE_cN : wpr (evE Γ gv .cN env S) Q X = Q .non S := rfl
theorem wE_glb {k : Nat} : wpr (evE Γ gv (.glb k) env S) Q X = wpO (gv[k]?) (fun d => Q d S) := by
  show wpr (match gv[k]? with
    | some d => Rs.ok d S
    | none => Rs.bad) Q X = _
  cases gv[k]? <;> rfl
theorem wE_bop {m : Bool} {op : Operator} {a b : E} : wpr (evE Γ gv (.bop m op a b) env S) Q X = wpr (evE Γ gv a env S) (fun x S1 => wpr (evE Γ gv b env S1) (fun y S2 => wpF m (binP S2 op x y) Q S2) X) X := by
  show wpr (M.bind (evE Γ gv a env) (fun x => M.bind (evE Γ gv b env) fun y S => finO m (binP S op x y) S) S) Q X = _
  rw [wpr_bind]
  congr 1
  funext x S1
  rw [wpr_bind]
  congr 1
  funext y S2
  exact wpr_finO
theorem wE_neg {a : E} : wpr (evE Γ gv (.neg a) env S) Q X = wpr (evE Γ gv a env S) (fun x S1 => match x with
    | .int i => Q (.int (-i)) S1
    | _ => False) X := by
  show wpr (M.bind (evE Γ gv a env) (fun x => match x with
    | .int i => M.pure (.int (-i))
    | _ => M.bad) S) Q X = _
  rw [wpr_bind]
  congr 1
  funext x S1
  cases x <;> rfl
theorem wpr_tru {x : D} {β : Type} {k : Bool → M β} {Q : β → Store → Prop} : wpr (M.bind (truM x) k S) Q X = wpO (truP S x) (fun b => wpr (k b S) Q X) := by
  rw [wpr_bind]
  unfold truM
  cases truP S x <;> rfl
theorem wE_nt {a : E} : wpr (evE Γ gv (.nt a) env S) Q X = wpr (evE Γ gv a env S) (fun x S1 => wpO (truP S1 x) fun b => Q (.bl (!b)) S1) X := by
  show wpr (M.bind (evE Γ gv a env) (fun x => M.bind (truM x) fun b => M.pure (.bl (!b))) S) Q X = _
  rw [wpr_bind]
  congr 1
  funext x S1
  exact wpr_tru
theorem wE_cmp {op : CmpOp} {a b : E} : wpr (evE Γ gv (.cmp op a b) env S) Q X = wpr (evE Γ gv a env S) (fun x S1 => wpr (evE Γ gv b env S1) (fun y S2 => wpO (cmpP S2 op x y) fun r => Q (.bl r) S2) X) X := by
  show wpr (M.bind (evE Γ gv a env) (fun x => M.bind (evE Γ gv b env) fun y S => finO false (bV (cmpP S op x y)) S) S) Q X = _
  rw [wpr_bind]
  congr 1
  funext x S1
  rw [wpr_bind]
  congr 1
  funext y S2
  rw [wpr_finO]
  cases cmpP S2 op x y <;> rfl
theorem wE_chn {op op' : CmpOp} {a b c : E} : wpr (evE Γ gv (.chn op op' a b c) env S) Q X = wpr (evE Γ gv a env S) (fun x S1 => wpr (evE Γ gv b env S1) (fun y S2 => wpO (cmpP S2 op x y) fun r => if r = true then wpr (evE Γ gv c env S2) (fun z S3 => wpO (cmpP S3 op' y z) fun r => Q (.bl r) S3) X else Q (.bl false) S2) X) X := by
  show wpr (M.bind (evE Γ gv a env) (fun x => M.bind (evE Γ gv b env) fun y S => match cmpP S op x y with
    | some true => M.bind (evE Γ gv c env) (fun z S => finO false (bV (cmpP S op' y z)) S) S
    | some false => .ok (.bl false) S
    | none => .bad) S) Q X = _
  rw [wpr_bind]
  congr 1
  funext x S1
  rw [wpr_bind]
  congr 1
  funext y S2
  cases cmpP S2 op x y with
  | none => rfl
  | some r =>
    cases r with
    | false => rfl
    | true =>
      show wpr (M.bind (evE Γ gv c env) (fun z S => finO false (bV (cmpP S op' y z)) S) S2) Q X = _
      rw [wpr_bind, wpO_some, if_pos rfl]
      congr 1
      funext z S3
      rw [wpr_finO]
      cases cmpP S3 op' y z <;> rfl
theorem wE_one {a : E} : wpr (evE Γ gv (.one a) env S) Q X = wpr (evE Γ gv a env S) Q X := rfl
theorem wE_and {a b : E} : wpr (evE Γ gv (.con .And a b) env S) Q X = wpr (evE Γ gv a env S) (fun x S1 => wpO (truP S1 x) fun t => if t = true then wpr (evE Γ gv b env S1) Q X else Q x S1) X := by
  show wpr (M.bind (evE Γ gv a env) (fun x => M.bind (truM x) fun t => if t = true then evE Γ gv b env else M.pure x) S) Q X = _
  rw [wpr_bind]
  congr 1
  funext x S1
  rw [wpr_tru]
  congr 1
  funext t
  cases t <;> rfl
theorem wE_or {a b : E} : wpr (evE Γ gv (.con .Or a b) env S) Q X = wpr (evE Γ gv a env S) (fun x S1 => wpO (truP S1 x) fun t => if t = true then Q x S1 else wpr (evE Γ gv b env S1) Q X) X := by
  show wpr (M.bind (evE Γ gv a env) (fun x => M.bind (truM x) fun t => if t = true then M.pure x else evE Γ gv b env) S) Q X = _
  rw [wpr_bind]
  congr 1
  funext x S1
  rw [wpr_tru]
  congr 1
  funext t
  cases t <;> rfl
theorem wE_ite {c a b : E} : wpr (evE Γ gv (.ite c a b) env S) Q X = wpr (evT Γ gv c env S) (fun t S1 => if t = true then wpr (evE Γ gv a env S1) Q X else wpr (evE Γ gv b env S1) Q X) X := by
  show wpr (M.bind (evT Γ gv c env) (fun t => if t = true then evE Γ gv a env else evE Γ gv b env) S) Q X = _
  rw [wpr_bind]
  congr 1
  funext t S1
  cases t <;> rfl
theorem wE_tup {es : E} : wpr (evE Γ gv (.tup es) env S) Q X = wpr (evA Γ gv es env S) (fun xs S1 => xs.length ≤ nMax ∧ Q (.tup xs) S1) X := by
  show wpr (M.bind (evA Γ gv es env) (fun xs => if xs.length ≤ nMax then M.pure (.tup xs) else M.bad) S) Q X = _
  rw [wpr_bind]
  congr 1
  funext xs S1
  by_cases h : xs.length ≤ nMax
  · rw [if_pos h]
    exact propext ⟨fun z => ⟨h, z⟩, fun z => z.2⟩
  · rw [if_neg h]
    exact propext ⟨fun z => z.elim, fun z => (h z.1).elim⟩
theorem wE_lst {m : Bool} {es : E} : wpr (evE Γ gv (.lst m es) env S) Q X = wpr (evA Γ gv es env S) (fun xs S1 => xs.length ≤ nMax ∧ wpF m (some (.newl xs)) Q S1) X := by
  show wpr (M.bind (evA Γ gv es env) (fun xs => if xs.length ≤ nMax then fin m (.newl xs) else M.bad) S) Q X = _
  rw [wpr_bind]
  congr 1
  funext xs S1
  by_cases h : xs.length ≤ nMax
  · rw [if_pos h]
    exact propext ⟨fun z => ⟨h, (wpr_finO (o := some (.newl xs))).mp z⟩, fun z => (wpr_finO (o := some (.newl xs))).mpr z.2⟩
  · rw [if_neg h]
    exact propext ⟨fun z => z.elim, fun z => (h z.1).elim⟩
theorem wE_idx {a b : E} : wpr (evE Γ gv (.idx a b) env S) Q X = wpr (evE Γ gv a env S) (fun x S1 => wpr (evE Γ gv b env S1) (fun y S2 => wpO (ixP S2 x y) fun d => Q d S2) X) X := by
  show wpr (M.bind (evE Γ gv a env) (fun x => M.bind (evE Γ gv b env) fun y S => finO false ((ixP S x y).map PR.val) S) S) Q X = _
  rw [wpr_bind]
  congr 1
  funext x S1
  rw [wpr_bind]
  congr 1
  funext y S2
  rw [wpr_finO]
  cases ixP S2 x y <;> rfl
/-- a slice's part -/
def wpL (Γ : Nat → List D → M D) (gv : List D) (e : E) (env : Env) (S : Store) (Q : Option Int → Store → Prop) (X : Str → Store → Prop) : Prop := wpr ((if isOff e = true then M.pure none else (evE Γ gv e env).bind toInt) S) Q X
theorem wL_off {Q : Option Int → Store → Prop} : wpL Γ gv .off env S Q X = Q none S := rfl
theorem wL_some {e : E} {Q : Option Int → Store → Prop} (h : isOff e = false) : wpL Γ gv e env S Q X = wpr (evE Γ gv e env S) (fun x S1 => match x with
    | .int i => Q (some i) S1
    | _ => False) X := by
  unfold wpL
  rw [h, if_neg Bool.false_ne_true, wpr_bind]
  congr 1
  funext x S1
  cases x <;> rfl
theorem wE_slc {m : Bool} {a lo hi : E} : wpr (evE Γ gv (.slc m a lo hi) env S) Q X = wpr (evE Γ gv a env S) (fun x S1 => wpL Γ gv lo env S1 (fun l S2 => wpL Γ gv hi env S2 (fun h S3 => wpF m (slP S3 x l h) Q S3) X) X) X := by
  show wpr (M.bind (evE Γ gv a env) (fun x => M.bind (if isOff lo = true then M.pure none else (evE Γ gv lo env).bind toInt) fun l => M.bind (if isOff hi = true then M.pure none else (evE Γ gv hi env).bind toInt) fun h S => finO m (slP S x l h) S) S) Q X = _
  rw [wpr_bind]
  congr 1
  funext x S1
  rw [wpr_bind]
  unfold wpL
  congr 1
  funext l S2
  rw [wpr_bind]
  congr 1
  funext h S3
  exact wpr_finO
theorem wE_blt {m : Bool} {f : Bf} {es : E} : wpr (evE Γ gv (.blt m f es) env S) Q X = wpr (evA Γ gv es env S) (fun xs S1 => wpF m (bfP S1 f xs) Q S1) X := by
  show wpr (M.bind (evA Γ gv es env) (fun xs S => finO m (bfP S f xs) S) S) Q X = _
  rw [wpr_bind]
  congr 1
  funext xs S1
  exact wpr_finO
theorem wE_met {m : Bool} {f : Mf} {o es : E} : wpr (evE Γ gv (.met m f o es) env S) Q X = wpr (evE Γ gv o env S) (fun x S1 => isTy S1 f.ty x = true ∧ wpr (evA Γ gv es env S1) (fun xs S2 => wpr (mfM m f x xs S2) Q X) X) X := by
  show wpr (M.bind (evE Γ gv o env) (fun x S => if isTy S f.ty x = true then M.bind (evA Γ gv es env) (fun xs => mfM m f x xs) S else .bad) S) Q X = _
  rw [wpr_bind]
  congr 1
  funext x S1
  by_cases h : isTy S1 f.ty x = true
  · rw [if_pos h, wpr_bind]
    exact propext ⟨fun z => ⟨h, z⟩, fun z => z.2⟩
  · rw [if_neg h]
    exact propext ⟨fun z => z.elim, fun z => (h z.1).elim⟩
theorem wE_call {k : Nat} {es : E} : wpr (evE Γ gv (.call k es) env S) Q X = wpr (evA Γ gv es env S) (fun xs S1 => wpr (Γ k xs S1) Q X) X := by
  show wpr (M.bind (evA Γ gv es env) (fun xs => Γ k xs) S) Q X = _
  rw [wpr_bind]
theorem wE_isT {a : E} {t : String} : wpr (evE Γ gv (.isT a t) env S) Q X = wpr (evE Γ gv a env S) (fun x S1 => wpO ((typD S1 x).bind (instB · t)) fun b => Q (.bl b) S1) X := by
  show wpr (M.bind (evE Γ gv a env) (fun x S => finO false (bV ((typD S x).bind (instB · t))) S) S) Q X = _
  rw [wpr_bind]
  congr 1
  funext x S1
  rw [wpr_finO]
  cases (typD S1 x).bind (instB · t) <;> rfl
theorem wE_lc {m : Bool} {own : List (Str × Nat)} {i : Nat} {it c e : E} : wpr (evE Γ gv (.lc m own i it c e) env S) Q X = wpr (evI Γ gv it env S) (fun src S1 => wpr (compM m src (turnC env (own.map (·.2)) i (fun env => if isOff c = true then M.pure true else evT Γ gv c env) (evE Γ gv e)) S1) Q X) X := by
  show wpr (M.bind (evI Γ gv it env) (fun src => compM m src (turnC env (own.map (·.2)) i (fun env => if isOff c = true then M.pure true else evT Γ gv c env) (evE Γ gv e))) S) Q X = _
  rw [wpr_bind]
theorem wE_frz {a : E} : wpr (evE Γ gv (.frz a) env S) Q X = wpr (evE Γ gv a env S) (fun x S1 => match x with
    | .loc n => wpO (obLst (S1.ob n)) fun xs => Q (.lst xs) (S1.del n)
    | _ => False) X := by
  show wpr (M.bind (evE Γ gv a env) frzM S) Q X = _
  rw [wpr_bind]
  congr 1
  funext x S1
  cases x with
  | loc n =>
    show wpr (match obLst (S1.ob n) with
      | some xs => Rs.ok (.lst xs) (S1.del n)
      | none => .bad) Q X = wpO (obLst (S1.ob n)) fun xs => Q (.lst xs) (S1.del n)
    cases obLst (S1.ob n) <;> rfl
  | _ => rfl
theorem wE_lset {a : E} : wpr (evE Γ gv (.lset a) env S) Q X = wpr (evE Γ gv a env S) (fun x S1 => wpF false (lsetP S1 x) Q S1) X := by
  show wpr (M.bind (evE Γ gv a env) (fun x S => finO false (lsetP S x) S) S) Q X = _
  rw [wpr_bind]
  congr 1
  funext x S1
  exact wpr_finO
theorem wE_inW {x : Str} {kvs : List (Str × Key)} {a : E} : wpr (evE Γ gv (.inW x kvs a) env S) Q X = wpr (evE Γ gv a env S) (fun y S1 => wpO (inWP kvs y) fun r => Q (.bl r) S1) X := by
  show wpr (M.bind (evE Γ gv a env) (fun y S => finO false (bV (inWP kvs y)) S) S) Q X = _
  rw [wpr_bind]
  congr 1
  funext y S1
  rw [wpr_finO]
  cases inWP kvs y <;> rfl
theorem wE_isE {x : Str} {tb : List (Str × Bool)} {a : E} : wpr (evE Γ gv (.isE a x tb) env S) Q X = wpr (evE Γ gv a env S) (fun y S1 => wpO (isEP tb y) fun r => Q (.bl r) S1) X := by
  show wpr (M.bind (evE Γ gv a env) (fun y S => finO false (bV (isEP tb y)) S) S) Q X = _
  rw [wpr_bind]
  congr 1
  funext y S1
  rw [wpr_finO]
  cases isEP tb y <;> rfl
theorem wE_ixW {x : Str} {kvs : List (Str × Key)} {a : E} : wpr (evE Γ gv (.ixW x kvs a) env S) Q X = wpr (evE Γ gv a env S) (fun y S1 => wpO (ixWP kvs y) fun d => Q d S1) X := by
  show wpr (M.bind (evE Γ gv a env) (fun y S => finO false ((ixWP kvs y).map PR.val) S) S) Q X = _
  rw [wpr_bind]
  congr 1
  funext y S1
  rw [wpr_finO]
  cases ixWP kvs y <;> rfl
theorem wE_fld {a : E} {c f : Str} : wpr (evE Γ gv (.fld a c f) env S) Q X = wpr (evE Γ gv a env S) (fun x S1 => wpO (fldP S1 c f x) fun d => Q d S1) X := by
  show wpr (M.bind (evE Γ gv a env) (fun x S => finO false ((fldP S c f x).map PR.val) S) S) Q X = _
  rw [wpr_bind]
  congr 1
  funext y S1
  rw [wpr_finO]
  cases fldP S1 c f y <;> rfl
theorem wE_mcl {k : Nat} {c m : Str} {o es : E} : wpr (evE Γ gv (.mcl k c m o es) env S) Q X = wpr (evE Γ gv o env S) (fun x S1 => insB S1 c m x = true ∧ wpr (evA Γ gv es env S1) (fun xs S2 => wpr (Γ k (x :: xs) S2) Q X) X) X := by
  show wpr (M.bind (evE Γ gv o env) (fun x S => if insB S c m x = true then (M.bind (evA Γ gv es env) fun xs => Γ k (x :: xs)) S else .bad) S) Q X = _
  rw [wpr_bind]
  congr 1
  funext x S1
  split
  · rename_i h
    rw [wpr_bind]
    exact propext ⟨fun z => ⟨h, z⟩, fun z => z.2⟩
  · rename_i h
    exact propext ⟨fun z => z.elim, fun z => absurd z.1 h⟩
theorem wE_mk {k : Nat} {c : Str} {es : E} : wpr (evE Γ gv (.mk k c es) env S) Q X = wpr (evA Γ gv es env S) (fun xs S1 => wpr (Γ k (.loc S1.nx :: xs) (S1.new (.ins c []))) (fun d S2 => d = .non ∧ Q (.loc S1.nx) S2) X) X := by
  show wpr (M.bind (evA Γ gv es env) (fun xs => mkM Γ k c xs) S) Q X = _
  rw [wpr_bind]
  congr 1
  funext xs S1
  unfold mkM
  cases Γ k (.loc S1.nx :: xs) (S1.new (.ins c [])) with
  | ok d S2 =>
    cases d with
    | non => exact propext ⟨fun z => ⟨rfl, z⟩, fun z => z.2⟩
    | _ => exact propext ⟨fun z => z.elim, fun z => (by have := z.1; cases this)⟩
  | exc e S2 => rfl
  | bad => rfl
theorem wE_rev {m : Bool} {a : E} : wpr (evE Γ gv (.rev m a) env S) Q X = wpr (evE Γ gv a env S) (fun x S1 => wpF m ((lstOf S1 x).map fun xs => .newl xs.reverse) Q S1) X := by
  show wpr (M.bind (evE Γ gv a env) (fun x S => finO m ((lstOf S x).map fun xs => .newl xs.reverse) S) S) Q X = _
  rw [wpr_bind]
  congr 1
  funext x S1
  exact wpr_finO
theorem wE_cmn {m : Bool} {a b : E} : wpr (evE Γ gv (.cmn m a b) env S) Q X = wpr (evE Γ gv a env S) (fun x S1 => wpr (evE Γ gv b env S1) (fun y S2 => wpO (eqN S2 m x y) fun r => Q (.bl r) S2) X) X := by
  show wpr (M.bind (evE Γ gv a env) (fun x => M.bind (evE Γ gv b env) fun y S => finO false (bV (eqN S m x y)) S) S) Q X = _
  rw [wpr_bind]
  congr 1
  funext x S1
  rw [wpr_bind]
  congr 1
  funext y S2
  rw [wpr_finO]
  cases eqN S2 m x y <;> rfl
theorem wE_dnw : wpr (evE Γ gv .dnw env S) Q X = Q (.loc S.nx) (S.new (.dct [])) := rfl
theorem wE_dgt {a i : E} : wpr (evE Γ gv (.dgt a i) env S) Q X = wpr (evE Γ gv a env S) (fun x S1 => wpr (evE Γ gv i env S1) (fun y S2 => wpO ((dgtP S2 x y).join) fun d => Q d S2) X) X := by
  show wpr (M.bind (evE Γ gv a env) (fun x => M.bind (evE Γ gv i env) fun y S => match dgtP S x y with
    | some (some d) => .ok d S
    | _ => .bad) S) Q X = _
  rw [wpr_bind]
  congr 1
  funext x S1
  rw [wpr_bind]
  congr 1
  funext y S2
  cases dgtP S2 x y with
  | none => rfl
  | some o => cases o <;> rfl
theorem wE_din {m : Bool} {i a : E} : wpr (evE Γ gv (.din m i a) env S) Q X = wpr (evE Γ gv i env S) (fun y S1 => wpr (evE Γ gv a env S1) (fun x S2 => wpO (dgtP S2 x y) fun r => Q (.bl (m != r.isSome)) S2) X) X := by
  show wpr (M.bind (evE Γ gv i env) (fun y => M.bind (evE Γ gv a env) fun x S => match dgtP S x y with
    | some r => .ok (.bl (m != r.isSome)) S
    | none => .bad) S) Q X = _
  rw [wpr_bind]
  congr 1
  funext y S1
  rw [wpr_bind]
  congr 1
  funext x S2
  cases dgtP S2 x y <;> rfl
theorem wE_dcp {a : E} : wpr (evE Γ gv (.dcp a) env S) Q X = wpr (evE Γ gv a env S) (fun x S1 => wpO (dctOf S1 x) fun kvs => Q (.loc S1.nx) (S1.new (.dct kvs))) X := by
  show wpr (M.bind (evE Γ gv a env) dcpM S) Q X = _
  rw [wpr_bind]
  congr 1
  funext x S1
  unfold dcpM
  cases dctOf S1 x <;> rfl
theorem wE_pop {a : E} : wpr (evE Γ gv (.pop a) env S) Q X = wpr (evE Γ gv a env S) (fun x S1 => wpr (popM x S1) Q X) X := by
  show wpr (M.bind (evE Γ gv a env) popM S) Q X = _
  rw [wpr_bind]
theorem wE_dlt {es : E} : wpr (evE Γ gv (.dlt es) env S) Q X = wpr (evA Γ gv es env (S.new (.dct []))) (fun xs S1 => wpr (dltM S.nx xs S1) Q X) X := by
  show wpr (M.bind (evA Γ gv es env) (fun xs => dltM S.nx xs) (S.new (.dct []))) Q X = _
  rw [wpr_bind]
theorem wE_dg2 {a i z : E} : wpr (evE Γ gv (.dg2 a i z) env S) Q X = wpr (evE Γ gv a env S) (fun d S1 => (dctOf S1 d).isSome = true ∧ wpr (evE Γ gv i env S1) (fun y S2 => wpr (evE Γ gv z env S2) (fun u S3 => wpO (dgtP S3 d y) fun r => Q (r.getD u) S3) X) X) X := by
  show wpr (M.bind (evE Γ gv a env) (fun d S => if (dctOf S d).isSome = true then (M.bind (evE Γ gv i env) fun y => M.bind (evE Γ gv z env) fun z S => match dgtP S d y with
    | some r => .ok (r.getD z) S
    | none => .bad) S else .bad) S) Q X = _
  rw [wpr_bind]
  congr 1
  funext d S1
  split
  · rename_i h
    rw [wpr_bind]
    refine Eq.trans ?_ (propext ⟨fun z => ⟨h, z⟩, fun z => z.2⟩)
    congr 1
    funext y S2
    rw [wpr_bind]
    congr 1
    funext u S3
    cases dgtP S3 d y <;> rfl
  · rename_i h
    exact propext ⟨fun z => z.elim, fun z => absurd z.1 h⟩
theorem wE_dpp {a i : E} : wpr (evE Γ gv (.dpp a i) env S) Q X = wpr (evE Γ gv a env S) (fun d S1 => (dctOf S1 d).isSome = true ∧ wpr (evE Γ gv i env S1) (fun y S2 => wpr (dpopM d y S2) Q X) X) X := by
  show wpr (M.bind (evE Γ gv a env) (fun d S => if (dctOf S d).isSome = true then (M.bind (evE Γ gv i env) fun y => dpopM d y) S else .bad) S) Q X = _
  rw [wpr_bind]
  congr 1
  funext d S1
  split
  · rename_i h
    rw [wpr_bind]
    exact propext ⟨fun z => ⟨h, z⟩, fun z => z.2⟩
  · rename_i h
    exact propext ⟨fun z => z.elim, fun z => absurd z.1 h⟩
theorem wA_nil : wpr (evA Γ gv .nil env S) QA X = QA [] S := rfl
theorem wA_kv {a b c : E} : wpr (evA Γ gv (.kv a b c) env S) QA X = wpr (evE Γ gv a env S) (fun x S1 => wpr (evE Γ gv b env S1) (fun y S2 => wpr (evA Γ gv c env S2) (fun xs S3 => QA (x :: y :: xs) S3) X) X) X := by
  show wpr (M.bind (evE Γ gv a env) (fun x => M.bind (evE Γ gv b env) fun y => M.bind (evA Γ gv c env) fun xs => M.pure (x :: y :: xs)) S) QA X = _
  rw [wpr_bind]
  congr 1
  funext x S1
  rw [wpr_bind]
  congr 1
  funext y S2
  rw [wpr_bind]
  rfl
theorem wA_cons {a b : E} : wpr (evA Γ gv (.cons a b) env S) QA X = wpr (evE Γ gv a env S) (fun x S1 => wpr (evA Γ gv b env S1) (fun xs S2 => QA (x :: xs) S2) X) X := by
  show wpr (M.bind (evE Γ gv a env) (fun x => M.bind (evA Γ gv b env) fun xs => M.pure (x :: xs)) S) QA X = _
  rw [wpr_bind]
  congr 1
  funext x S1
  rw [wpr_bind]
  rfl
theorem wT_nt {a : E} : wpr (evT Γ gv (.nt a) env S) QT X = wpr (evT Γ gv a env S) (fun b S1 => QT (!b) S1) X := by
  show wpr (M.bind (evT Γ gv a env) (fun b => M.pure (!b)) S) QT X = _
  rw [wpr_bind]
  rfl
theorem wT_one {a : E} : wpr (evT Γ gv (.one a) env S) QT X = wpr (evT Γ gv a env S) QT X := rfl
theorem wT_and {a b : E} : wpr (evT Γ gv (.con .And a b) env S) QT X = wpr (evT Γ gv a env S) (fun t S1 => if t = true then wpr (evT Γ gv b env S1) QT X else QT false S1) X := by
  show wpr (M.bind (evT Γ gv a env) (fun t => if t = true then evT Γ gv b env else M.pure false) S) QT X = _
  rw [wpr_bind]
  congr 1
  funext t S1
  cases t <;> rfl
theorem wT_or {a b : E} : wpr (evT Γ gv (.con .Or a b) env S) QT X = wpr (evT Γ gv a env S) (fun t S1 => if t = true then QT true S1 else wpr (evT Γ gv b env S1) QT X) X := by
  show wpr (M.bind (evT Γ gv a env) (fun t => if t = true then M.pure true else evT Γ gv b env) S) QT X = _
  rw [wpr_bind]
  congr 1
  funext t S1
  cases t <;> rfl
theorem wT_cmp {op : CmpOp} {a b : E} : wpr (evT Γ gv (.cmp op a b) env S) QT X = wpr (evE Γ gv a env S) (fun x S1 => wpr (evE Γ gv b env S1) (fun y S2 => wpO (cmpP S2 op x y) fun r => QT r S2) X) X := by
  show wpr (M.bind (evE Γ gv a env) (fun x => M.bind (evE Γ gv b env) fun y S => match cmpP S op x y with
    | some b => Rs.ok b S
    | none => .bad) S) QT X = _
  rw [wpr_bind]
  congr 1
  funext x S1
  rw [wpr_bind]
  congr 1
  funext y S2
  cases cmpP S2 op x y <;> rfl
theorem wT_chn {op op' : CmpOp} {a b c : E} : wpr (evT Γ gv (.chn op op' a b c) env S) QT X = wpr (evE Γ gv a env S) (fun x S1 => wpr (evE Γ gv b env S1) (fun y S2 => wpO (cmpP S2 op x y) fun r => if r = true then wpr (evE Γ gv c env S2) (fun z S3 => wpO (cmpP S3 op' y z) fun r => QT r S3) X else QT false S2) X) X := by
  show wpr (M.bind (evE Γ gv a env) (fun x => M.bind (evE Γ gv b env) fun y S => match cmpP S op x y with
    | some true => M.bind (evE Γ gv c env) (fun z S => match cmpP S op' y z with
      | some b => Rs.ok b S
      | none => .bad) S
    | some false => .ok false S
    | none => .bad) S) QT X = _
  rw [wpr_bind]
  congr 1
  funext x S1
  rw [wpr_bind]
  congr 1
  funext y S2
  cases cmpP S2 op x y with
  | none => rfl
  | some r =>
    cases r with
    | false => rfl
    | true =>
      show wpr (M.bind (evE Γ gv c env) (fun z S => match cmpP S op' y z with
        | some b => Rs.ok b S
        | none => .bad) S2) QT X = _
      rw [wpr_bind, wpO_some, if_pos rfl]
      congr 1
      funext z S3
      cases cmpP S3 op' y z <;> rfl
theorem wT_inW {x : Str} {kvs : List (Str × Key)} {a : E} : wpr (evT Γ gv (.inW x kvs a) env S) QT X = wpr (evE Γ gv a env S) (fun y S1 => wpO (inWP kvs y) fun r => QT r S1) X := by
  show wpr (M.bind (evE Γ gv a env) (fun y S => match inWP kvs y with
    | some b => .ok b S
    | none => .bad) S) QT X = _
  rw [wpr_bind]
  congr 1
  funext y S1
  cases inWP kvs y <;> rfl
theorem wT_cmn {m : Bool} {a b : E} : wpr (evT Γ gv (.cmn m a b) env S) QT X = wpr (evE Γ gv a env S) (fun x S1 => wpr (evE Γ gv b env S1) (fun y S2 => wpO (eqN S2 m x y) fun r => QT r S2) X) X := by
  show wpr (M.bind (evE Γ gv a env) (fun x => M.bind (evE Γ gv b env) fun y S => match eqN S m x y with
    | some b => .ok b S
    | none => .bad) S) QT X = _
  rw [wpr_bind]
  congr 1
  funext x S1
  rw [wpr_bind]
  congr 1
  funext y S2
  cases eqN S2 m x y <;> rfl
theorem wT_din {m : Bool} {i a : E} : wpr (evT Γ gv (.din m i a) env S) QT X = wpr (evE Γ gv i env S) (fun y S1 => wpr (evE Γ gv a env S1) (fun x S2 => wpO (dgtP S2 x y) fun r => QT (m != r.isSome) S2) X) X := by
  show wpr (M.bind (evE Γ gv i env) (fun y => M.bind (evE Γ gv a env) fun x S => match dgtP S x y with
    | some r => .ok (m != r.isSome) S
    | none => .bad) S) QT X = _
  rw [wpr_bind]
  congr 1
  funext y S1
  rw [wpr_bind]
  congr 1
  funext x S2
  cases dgtP S2 x y <;> rfl
theorem wT_tru {a : E} : wpr (evT Γ gv (.tru a) env S) QT X = wpr (evE Γ gv a env S) (fun x S1 => wpO (truP S1 x) fun b => QT b S1) X := by
  show wpr (M.bind (evE Γ gv a env) truM S) QT X = _
  rw [wpr_bind]
  congr 1
  funext x S1
  unfold truM
  cases truP S1 x <;> rfl
theorem wI_rng {a : E} : wpr (evI Γ gv (.rng a) env S) QI X = wpr (evE Γ gv a env S) (fun x S1 => match x with
    | .int j => (j ≤ (nMax : Int) ∧ -(nMax : Int) ≤ j) ∧ QI (.vals (intL 0 j.toNat)) S1
    | _ => False) X := by
  show wpr (M.bind (evE Γ gv a env) (fun x => match x with
    | .int j => if j ≤ (nMax : Int) ∧ -(nMax : Int) ≤ j then M.pure (.vals (intL 0 j.toNat)) else M.bad
    | _ => M.bad) S) QI X = _
  rw [wpr_bind]
  congr 1
  funext x S1
  cases x with
  | int j =>
    show wpr ((if j ≤ (nMax : Int) ∧ -(nMax : Int) ≤ j then M.pure (.vals (intL 0 j.toNat)) else M.bad) S1) QI X = _
    by_cases h : j ≤ (nMax : Int) ∧ -(nMax : Int) ≤ j
    · rw [if_pos h]
      exact propext ⟨fun z => ⟨h, z⟩, fun z => z.2⟩
    · rw [if_neg h]
      exact propext ⟨fun z => z.elim, fun z => (h z.1).elim⟩
  | _ => rfl
theorem wI_rng2 {a b : E} : wpr (evI Γ gv (.rng2 a b) env S) QI X = wpr (evE Γ gv a env S) (fun x S1 => wpr (evE Γ gv b env S1) (fun y S2 => match x, y with
    | .int i, .int j => ((i ≤ (nMax : Int) ∧ -(nMax : Int) ≤ i) ∧ j ≤ (nMax : Int) ∧ -(nMax : Int) ≤ j) ∧ QI (.vals (intL i (j - i).toNat)) S2
    | _, _ => False) X) X := by
  show wpr (M.bind (evE Γ gv a env) (fun x => M.bind (evE Γ gv b env) fun y => match x, y with
    | .int i, .int j => if (i ≤ (nMax : Int) ∧ -(nMax : Int) ≤ i) ∧ j ≤ (nMax : Int) ∧ -(nMax : Int) ≤ j then M.pure (.vals (intL i (j - i).toNat)) else M.bad
    | _, _ => M.bad) S) QI X = _
  rw [wpr_bind]
  congr 1
  funext x S1
  rw [wpr_bind]
  congr 1
  funext y S2
  cases x with
  | int i =>
    cases y with
    | int j =>
      show wpr ((if (i ≤ (nMax : Int) ∧ -(nMax : Int) ≤ i) ∧ j ≤ (nMax : Int) ∧ -(nMax : Int) ≤ j then M.pure (.vals (intL i (j - i).toNat)) else M.bad) S2) QI X = _
      by_cases h : (i ≤ (nMax : Int) ∧ -(nMax : Int) ≤ i) ∧ j ≤ (nMax : Int) ∧ -(nMax : Int) ≤ j
      · rw [if_pos h]
        exact propext ⟨fun z => ⟨h, z⟩, fun z => z.2⟩
      · rw [if_neg h]
        exact propext ⟨fun z => z.elim, fun z => (h z.1).elim⟩
    | _ => rfl
  | _ => cases y <;> rfl
theorem wI_itr {a : E} : wpr (evI Γ gv (.itr a) env S) QI X = wpr (evE Γ gv a env S) (fun x S1 => wpO (srcOf S1 x) fun s => QI s S1) X := by
  show wpr (M.bind (evE Γ gv a env) (fun x S => match srcOf S x with
    | some s => Rs.ok s S
    | none => .bad) S) QI X = _
  rw [wpr_bind]
  congr 1
  funext x S1
  cases srcOf S1 x <;> rfl
end
section
variable {Γ : Nat → List D → M D} {gv : List D} {env : Env} {S : Store} {N : Env → Store → Prop} {R : D → Store → Prop} {X : Str → Env → Store → Prop}
theorem wS_asg {i : Nat} {e : E} : wrs (evS Γ gv (.asg i e) env S) N R X = wpr (evE Γ gv e env S) (fun d S1 => N (env.set i (some d)) S1) (fun c S1 => X c env S1) := wrs_thenS
theorem wS_asgC {i : Nat} {e : E} : wrs (evS Γ gv (.asgC i e) env S) N R X = wpr (evE Γ gv e env S) (fun d S1 => N (env.set i (some d)) S1) (fun c S1 => X c env S1) := wrs_thenS
theorem wS_unp {is : List Nat} {e : E} : wrs (evS Γ gv (.unp is e) env S) N R X = wpr (evE Γ gv e env S) (fun d S1 => wpO (tupOf d) fun xs => xs.length = is.length ∧ N (setAll is xs env) S1) (fun c S1 => X c env S1) := by
  refine wrs_thenS.trans ?_
  congr 1
  funext d S1
  cases tupOf d with
  | none => rfl
  | some xs =>
    show wrs (if xs.length = is.length then .nx (setAll is xs env) S1 else .bad) N R X = (xs.length = is.length ∧ N (setAll is xs env) S1)
    by_cases h : xs.length = is.length
    · rw [if_pos h]
      exact propext ⟨fun z => ⟨h, z⟩, fun z => z.2⟩
    · rw [if_neg h]
      exact propext ⟨fun z => z.elim, fun z => (h z.1).elim⟩
theorem wS_stI {o i e : E} : wrs (evS Γ gv (.stI o i e) env S) N R X = wpr (evE Γ gv e env S) (fun v S1 => wpr (evE Γ gv o env S1) (fun x S2 => wpr (evE Γ gv i env S2) (fun y S3 => wpr (storeM x y v S3) (fun _ S4 => N env S4) (fun c S1 => X c env S1)) (fun c S1 => X c env S1)) (fun c S1 => X c env S1)) (fun c S1 => X c env S1) := by
  refine wrs_thenS.trans ?_
  congr 1
  funext v S1
  refine wrs_thenS.trans ?_
  congr 1
  funext x S2
  refine wrs_thenS.trans ?_
  congr 1
  funext y S3
  exact wrs_thenS
theorem wS_stF {o e : E} {c f : Str} : wrs (evS Γ gv (.stF o c f e) env S) N R X = wpr (evE Γ gv e env S) (fun v S1 => wpr (evE Γ gv o env S1) (fun x S2 => wpr (stfM c f x v S2) (fun _ S4 => N env S4) (fun c S1 => X c env S1)) (fun c S1 => X c env S1)) (fun c S1 => X c env S1) := by
  show wrs ((evE Γ gv e env S).thenS env fun v S1 => (evE Γ gv o env S1).thenS env fun x S2 => (stfM c f x v S2).thenS env fun _ S3 => .nx env S3) N R X = _
  rw [wrs_thenS]
  congr 1
  funext v S1
  rw [wrs_thenS]
  congr 1
  funext x S2
  rw [wrs_thenS]
  rfl
theorem wS_stD {o i e : E} : wrs (evS Γ gv (.stD o i e) env S) N R X = wpr (evE Γ gv e env S) (fun v S1 => wpr (evE Γ gv o env S1) (fun x S2 => wpr (evE Γ gv i env S2) (fun y S3 => wpr (dputM x y v S3) (fun _ S4 => N env S4) (fun c S1 => X c env S1)) (fun c S1 => X c env S1)) (fun c S1 => X c env S1)) (fun c S1 => X c env S1) := by
  show wrs ((evE Γ gv e env S).thenS env fun v S1 => (evE Γ gv o env S1).thenS env fun x S2 => (evE Γ gv i env S2).thenS env fun y S3 => (dputM x y v S3).thenS env fun _ S4 => .nx env S4) N R X = _
  rw [wrs_thenS]
  congr 1
  funext v S1
  rw [wrs_thenS]
  congr 1
  funext x S2
  rw [wrs_thenS]
  congr 1
  funext y S3
  rw [wrs_thenS]
  rfl
theorem wS_exp {e : E} : wrs (evS Γ gv (.exp e) env S) N R X = wpr (evE Γ gv e env S) (fun _ S1 => N env S1) (fun c S1 => X c env S1) := wrs_thenS
theorem wS_ife {c : E} {a b : ST} : wrs (evS Γ gv (.ife c a b) env S) N R X = wpr (evT Γ gv c env S) (fun t S1 => if t = true then wrs (evS Γ gv a env S1) N R X else wrs (evS Γ gv b env S1) N R X) (fun c S1 => X c env S1) := by
  refine wrs_thenS.trans ?_
  congr 1
  funext t S1
  cases t <;> rfl
theorem wS_fr {i : Nat} {it : E} {b : ST} : wrs (evS Γ gv (.fr i it b) env S) N R X = wpr (evI Γ gv it env S) (fun src S1 => wrs (loopF src (fun x env S => evS Γ gv b (env.set i (some x)) S) src.num 0 env S1) N R X) (fun c S1 => X c env S1) := wrs_thenS
theorem wS_frT {is : List Nat} {it : E} {b : ST} : wrs (evS Γ gv (.frT is it b) env S) N R X = wpr (evI Γ gv it env S) (fun src S1 => wrs (loopF src (fun x env S => match tupOf x with
    | some xs => if xs.length = is.length then evS Γ gv b (setAll is xs env) S else .bad
    | none => .bad) src.num 0 env S1) N R X) (fun c S1 => X c env S1) := wrs_thenS
theorem wS_whl {c : E} {b : ST} : wrs (evS Γ gv (.whl c b) env S) N R X = wrs (loopW (evT Γ gv c) (fun env S => evS Γ gv b env S) wMost env S) N R X := rfl
theorem wS_ret {e : E} : wrs (evS Γ gv (.ret e) env S) N R X = wpr (evE Γ gv e env S) R (fun c S1 => X c env S1) := wrs_thenS
theorem wS_retN : wrs (evS Γ gv .retN env S) N R X = R .non S := rfl
theorem wS_pass : wrs (evS Γ gv .pass env S) N R X = N env S := rfl
theorem wS_rais {c : Str} : wrs (evS Γ gv (.rais c) env S) N R X = X c env S := rfl
theorem wS_tryK {b : ST} {x : Str} {tb : List (Str × Bool)} {i h : Nat} : wrs (evS Γ gv (.tryK b x tb i h) env S) N R X = wrs (evS Γ gv b env S) N R (fun c env' S' => match tb.lookup c with
    | some true => i < env'.length ∧ N ((env'.set h (some (.exn c))).set i none) S'
    | some false => X c env' S'
    | none => False) := by
  show wrs (match evS Γ gv b env S with
    | .exc c env' S' => match tb.lookup c with
      | some true => if i < env'.length then .nx ((env'.set h (some (.exn c))).set i none) S' else .bad
      | some false => .exc c env' S'
      | none => .bad
    | r => r) N R X = _
  cases evS Γ gv b env S with
  | exc c env' S' =>
    simp only
    show _ = (match tb.lookup c with
      | some true => i < env'.length ∧ N ((env'.set h (some (.exn c))).set i none) S'
      | some false => X c env' S'
      | none => False)
    cases tb.lookup c with
    | none => rfl
    | some t =>
      cases t with
      | false => rfl
      | true =>
        simp only
        split
        · rename_i hl
          exact propext ⟨fun z => ⟨hl, z⟩, fun z => z.2⟩
        · rename_i hl
          exact propext ⟨fun z => z.elim, fun z => absurd z.1 hl⟩
  | _ => rfl
theorem wS_nil : wrs (evS Γ gv .nil env S) N R X = N env S := rfl
end
end ML

/-! Operations on data of known kinds. -/
namespace ML
open PySem L2
section
variable {S : Store}
theorem c_lt {i j : Int} : cmpP S .Lt (.int i) (.int j) = some (decide (i < j)) := rfl
theorem c_le {i j : Int} : cmpP S .LtE (.int i) (.int j) = some (decide (i ≤ j)) := rfl
theorem c_gt {i j : Int} : cmpP S .Gt (.int i) (.int j) = some (decide (j < i)) := rfl
theorem c_ge {i j : Int} : cmpP S .GtE (.int i) (.int j) = some (decide (j ≤ i)) := rfl
theorem c_is {d : D} : cmpP S .Is d .non = some (isNon d) := by cases d <;> rfl
theorem c_isnot {d : D} : cmpP S .IsNot d .non = some (!isNon d) := by cases d <;> rfl
theorem dcV_int {i j : Int} : decide (V.int i = V.int j) = decide (i = j) := by
  by_cases h : i = j
  · subst h; simp
  · simp [h]
theorem dcV_str {i j : Str} : decide (V.str i = V.str j) = decide (i = j) := by
  by_cases h : i = j
  · subst h; simp
  · simp [h]
theorem dcV_bl {i j : Bool} : decide (V.bl i = V.bl j) = decide (i = j) := by
  by_cases h : i = j
  · subst h; simp
  · simp [h]
theorem c_eq_int {i j : Int} : cmpP S .Eq (.int i) (.int j) = some (decide (i = j)) := congrArg some dcV_int
theorem c_eq_str {i j : Str} : cmpP S .Eq (.str i) (.str j) = some (decide (i = j)) := congrArg some dcV_str
theorem c_ne_int {i j : Int} : cmpP S .NotEq (.int i) (.int j) = some (!decide (i = j)) := congrArg (fun b => some (!b)) dcV_int
theorem c_ne_str {i j : Str} : cmpP S .NotEq (.str i) (.str j) = some (!decide (i = j)) := congrArg (fun b => some (!b)) dcV_str
theorem c_in_str {a b : Str} : cmpP S .In (.str a) (.str b) = some (subIn a b) := rfl
theorem c_notin_str {a b : Str} : cmpP S .NotIn (.str a) (.str b) = some (!subIn a b) := rfl
theorem flats_txt : ∀ xs : List Str, flats (xs.map D.str) = some (xs.map V.str)
  | [] => rfl
  | x :: xs => by
    show (flat (.str x)).bind _ = _
    simp only [flat, Option.bind_some, flats_txt xs, Option.map_some, List.map_cons]
theorem inV_txt {a : Str} : ∀ xs : List Str, inV (.str a) (xs.map V.str) = decide (a ∈ xs)
  | [] => by simp [inV]
  | x :: xs => by
    have ih := inV_txt (a := a) xs
    unfold inV at ih ⊢
    rw [List.map_cons, List.any_cons, ih]
    show ((x == a) || decide (a ∈ xs)) = decide (a ∈ x :: xs)
    by_cases h : a = x
    · subst h; simp
    · have h' : (x == a) = false := by
        rw [beq_eq_false_iff_ne]
        exact fun e => h e.symm
      simp [h, h']
theorem in_txt {a : Str} {e : D} {xs : List Str} (h : seqOf S e = some (xs.map D.str)) : inP S (.str a) e = some (decide (a ∈ xs)) := by
  have gen : (match flat (D.str a), (seqOf S e).bind flats with
    | some x, some xs => some (inV x xs)
    | _, _ => match inM S (.str a) e with
      | some b => some b
      | none => inD S (.str a) e) = some (decide (a ∈ xs)) := by
    rw [h]
    simp only [flat, Option.bind_some, flats_txt, inV_txt]
  cases e with
  | str b => cases h
  | _ => exact gen
theorem c_in_txt {a : Str} {e : D} {xs : List Str} (h : seqOf S e = some (xs.map D.str)) : cmpP S .In (.str a) e = some (decide (a ∈ xs)) := in_txt h
theorem c_notin_txt {a : Str} {e : D} {xs : List Str} (h : seqOf S e = some (xs.map D.str)) : cmpP S .NotIn (.str a) e = some (!decide (a ∈ xs)) := by
  show (inP S (.str a) e).map (!·) = _
  rw [in_txt h]
  rfl
theorem b_len_str {s : Str} (h : s.length ≤ 1000) : bfP S .len [.str s] = some (.val (.int (s.length : Int))) := by
  show (if s.length ≤ nMax then some s.length else none).map _ = _
  rw [if_pos (Nat.le_trans h (by decide))]
  rfl
theorem b_len_lst {xs : List D} : bfP S .len [.lst xs] = some (.val (.int (xs.length : Int))) := rfl
theorem b_len_cst {xs : List D} : bfP S .len [.cst xs] = some (.val (.int (xs.length : Int))) := rfl
theorem b_len_tup {xs : List D} : bfP S .len [.tup xs] = some (.val (.int (xs.length : Int))) := rfl
theorem b_len_loc {n : Nat} {xs : List D} (h : S.ob n = some (.lst xs)) : bfP S .len [.loc n] = some (.val (.int (xs.length : Int))) := by
  show ((obLst (S.ob n)).map (·.length)).map _ = _
  rw [h]
  rfl
theorem bools_map : ∀ bs : List Bool, bools (bs.map D.bl) = some bs
  | [] => rfl
  | b :: bs => by
    show (bools (bs.map D.bl)).map (b :: ·) = _
    rw [bools_map bs]
    rfl
theorem b_all {α : Type} {xs : List α} {f : α → Bool} : bfP S .all [.lst (xs.map fun x => .bl (f x))] = some (.val (.bl (xs.all f))) := by
  have e : (xs.map fun x => D.bl (f x)) = (xs.map f).map D.bl := by rw [List.map_map]; rfl
  show ((some (xs.map fun x => D.bl (f x))).bind bools).map _ = _
  rw [e, Option.bind_some, bools_map]
  simp [List.all_map]
theorem add_str {a b : Str} (h : a.length + b.length ≤ 1000) : binP S .Add (.str a) (.str b) = some (.val (.str (a ++ b))) := by
  show guardP (decide (a.length + b.length ≤ nMax)) _ = _
  rw [decide_eq_true (Nat.le_trans h (by decide))]
  rfl
theorem add_int {i j : Int} : binP S .Add (.int i) (.int j) = some (.val (.int (i + j))) := rfl
theorem sub_int {i j : Int} : binP S .Sub (.int i) (.int j) = some (.val (.int (i - j))) := rfl
theorem mod_int {i j : Int} (h : 0 < j) : binP S .Mod (.int i) (.int j) = some (.val (.int (i % j))) := by
  show guardP (decide (0 < j)) _ = _
  rw [decide_eq_true h]
  rfl
theorem fdiv_int {i j : Int} (h : 0 < j) (h2 : j < 1073741824) : binP S .FloorDiv (.int i) (.int j) = some (.val (.int (i / j))) := by
  show guardP (decide (0 < j) && decide (j < 1073741824)) _ = _
  rw [decide_eq_true h, decide_eq_true h2]
  rfl
theorem mul_int {i j : Int} (h : (-(2 ^ 64) < i ∧ i < 2 ^ 64) ∨ (-(2 ^ 64) < j ∧ j < 2 ^ 64)) : binP S .Mult (.int i) (.int j) = some (.val (.int (i * j))) := by
  show guardP (decide (-(2 ^ 64) < i ∧ i < 2 ^ 64) || decide (-(2 ^ 64) < j ∧ j < 2 ^ 64)) _ = _
  rcases h with h | h
  · rw [decide_eq_true h]; rfl
  · rw [decide_eq_true h, Bool.or_true]; rfl
theorem pow_int {i j : Int} (h : 0 ≤ j) (h2 : j ≤ 1000000) (h3 : i.natAbs < 2 ^ 64) : binP S .Pow (.int i) (.int j) = some (.val (.int (i ^ j.toNat))) := by
  show guardP (decide (0 ≤ j) && decide (j ≤ 1000000) && decide (i.natAbs < 2 ^ 64)) _ = _
  rw [decide_eq_true h, decide_eq_true h2, decide_eq_true h3]
  rfl
theorem t_bl {b : Bool} : truP S (.bl b) = some b := rfl
theorem t_cst {xs : List D} : truP S (.cst xs) = some (!xs.isEmpty) := rfl
theorem t_lst {xs : List D} : truP S (.lst xs) = some (!xs.isEmpty) := rfl
theorem ixN_nat {n k : Nat} (h : k < n) : ixN n (k : Int) = some k := by
  unfold ixN
  rw [if_pos (by omega), if_pos (by omega)]
  simp
theorem atI_nat' {α : Type} {xs : List α} {k : Nat} {a : α} (h : xs[k]? = some a) : atI xs (k : Int) = some a := by
  obtain ⟨hk, _⟩ := List.getElem?_eq_some_iff.mp h
  unfold atI
  rw [ixN_nat hk]
  exact h
theorem atI_int {α : Type} {xs : List α} {i : Int} (h0 : 0 ≤ i) (h1 : i < xs.length) : ∃ a, a ∈ xs ∧ atI xs i = some a := by
  have hk : i.toNat < xs.length := by omega
  have e : i = (i.toNat : Int) := by omega
  refine ⟨xs[i.toNat], List.getElem_mem hk, ?_⟩
  have z := atI_nat' (List.getElem?_eq_getElem hk)
  rw [← e] at z
  exact z
theorem ix_cst {xs : List D} {i : Int} : ixP S (.cst xs) (.int i) = atI xs i := rfl
theorem ix_lst {xs : List D} {i : Int} : ixP S (.lst xs) (.int i) = atI xs i := rfl
theorem ix_tup {xs : List D} {i : Int} : ixP S (.tup xs) (.int i) = atI xs i := rfl
theorem ix_str {s : Str} {i : Int} (h : s.length ≤ 1000) : ixP S (.str s) (.int i) = (atI s.cps.toList i).map fun c => .str (oneStr c) := by
  show (if s.length ≤ nMax then _ else none) = _
  rw [if_pos (Nat.le_trans h (by decide))]
theorem len_cps (s : Str) : s.cps.toList.length = s.length := by simp [Str.length]
end
end ML

namespace ML
open PySem L2
section
variable {T : Tab} {S : Store}
theorem sem_call {n k : Nat} {f : Fn} {ds : List D} (h : T.fns[k]? = some f) (hl : ds.length = f.ps.length) : sem T (n + 1) k ds S = endF (evS (sem T n) (gvs T) f.body (startE f.N.length ds) S) := by
  show (match T.fns[k]? with
    | some f => if ds.length = f.ps.length then endF (evS (sem T n) (gvs T) f.body (startE f.N.length ds) S) else .bad
    | none => .bad) = _
  rw [h]
  simp only
  rw [if_pos hl]
/-! ### the drawn numbers of every law -/
def cellF : Fn := { name := ("_law_cell" : Str), ps := [("script" : Str), ("k" : Str)], N := [("script" : Str), ("k" : Str)], body := .seq (.ife (.tru (.var 0)) (.seq (.ret (.idx (.var 0) (.bop false .Mod (.var 1) (.blt false .len (.cons (.var 0) (.nil)))))) (.nil)) (.nil)) (.seq (.ret (.cI 0)) (.nil)) }
def mixF (kc : Nat) : Fn := { name := ("_law_mix" : Str), ps := [("script" : Str), ("k" : Str)], N := [("script" : Str), ("k" : Str), ("number" : Str)], body := .seq (.asg 2 (.bop false .Mod (.bop false .Add (.call kc (.cons (.var 0) (.cons (.var 1) (.nil)))) (.bop false .Mult (.cI 104729) (.bop false .Add (.var 1) (.cI 1)))) (.cI 4294967291))) (.seq (.asg 2 (.bop false .Mod (.bop false .Pow (.var 2) (.cI 5)) (.cI 4294967279))) (.seq (.ret (.bop false .Mod (.bop false .Add (.bop false .Mult (.bop false .FloorDiv (.var 2) (.cI 64)) (.cI 69621)) (.var 2)) (.cI 4294967231))) (.nil))) }
def drawF (km : Nat) : Fn := { name := ("_law_draw" : Str), ps := [("script" : Str), ("town" : Str), ("many" : Str)], N := [("script" : Str), ("town" : Str), ("many" : Str)], body := .seq (.exp (.met false .append (.var 1) (.cons (.cI 0) (.nil)))) (.seq (.ret (.bop false .Mod (.bop false .FloorDiv (.call km (.cons (.var 0) (.cons (.blt false .len (.cons (.var 1) (.nil))) (.nil)))) (.cI 8)) (.var 2))) (.nil)) }
def pickF (kd : Nat) : Fn := { name := ("_law_pick" : Str), ps := [("script" : Str), ("town" : Str), ("some" : Str)], N := [("script" : Str), ("town" : Str), ("some" : Str)], body := .seq (.ret (.idx (.var 2) (.call kd (.cons (.var 0) (.cons (.var 1) (.cons (.blt false .len (.cons (.var 2) (.nil))) (.nil))))))) (.nil) }
theorem ok_cell {n kc : Nat} {ns : List Int} {k : Int} {Q : D → Store → Prop} {X : Str → Store → Prop} (h : T.fns[kc]? = some cellF) (hk : 0 ≤ k) (q : ∀ i, Q (.int i) S) : wpr (sem T (n + 1) kc [script ns, .int k] S) Q X := by
  rw [sem_call h rfl, wrs_end]
  show wrs (evS (sem T n) (gvs T) cellF.body [some (script ns), some (.int k)] S) _ _ _
  simp only [cellF, wrs_seq, wS_ife, wS_ret, wS_nil, wT_tru, wE_idx, wE_bop, wE_blt, wE_cI, wE_var, wA_cons, wA_nil, wpO, wpF, script, t_cst, b_len_cst, List.getElem?_cons_zero, List.getElem?_cons_succ, Option.join_some, List.length_map]
  cases ns with
  | nil => exact q 0
  | cons a ns =>
    have hp : (0 : Int) < (((a :: ns).length : Nat) : Int) := by rw [List.length_cons]; omega
    have e := Int.emod_nonneg k (Int.ne_of_gt hp)
    have e2 := Int.emod_lt_of_pos k hp
    obtain ⟨d, hd, ha⟩ := atI_int (xs := (a :: ns).map D.int) e (by rw [List.length_map]; exact e2)
    obtain ⟨i, _, rfl⟩ := List.mem_map.mp hd
    rw [if_pos (show (!((a :: ns).map D.int).isEmpty) = true from rfl), mod_int hp]
    simp only [ix_cst, ha]
    exact q i
theorem ok_mix {n kc km : Nat} {ns : List Int} {k : Int} {Q : D → Store → Prop} {X : Str → Store → Prop} (hc : T.fns[kc]? = some cellF) (h : T.fns[km]? = some (mixF kc)) (hk : 0 ≤ k) (q : ∀ i, 0 ≤ i → Q (.int i) S) : wpr (sem T (n + 2) km [script ns, .int k] S) Q X := by
  rw [sem_call h rfl, wrs_end]
  show wrs (evS (sem T (n + 1)) (gvs T) (mixF kc).body [some (script ns), some (.int k), none] S) _ _ _
  simp only [mixF, wrs_seq, wS_asg, wE_bop, wE_call, wE_var, wA_cons, wA_nil, wpO, List.getElem?_cons_zero, List.getElem?_cons_succ, Option.join_some]
  refine ok_cell hc hk fun c => ?_
  simp only [wE_cI, wE_bop, wE_var, wpO, List.getElem?_cons_zero, List.getElem?_cons_succ, Option.join_some, add_int, wpF]
  rw [mul_int (.inl (by decide))]
  simp only [wpF, add_int]
  rw [mod_int (by decide)]
  simp only [wpF, List.set, wE_bop, wE_cI, wE_var, wpO, List.getElem?_cons_zero, List.getElem?_cons_succ, Option.join_some]
  generalize hx : (c + 104729 * (k + 1)) % 4294967291 = x
  have x0 : 0 ≤ x := by rw [← hx]; exact Int.emod_nonneg _ (by decide)
  have x1 : x < 4294967291 := by rw [← hx]; exact Int.emod_lt_of_pos _ (by decide)
  rw [pow_int (by decide) (by decide) (by omega)]
  simp only [wpF]
  rw [mod_int (by decide)]
  simp only [wpF, wS_ret, wE_bop, wE_cI, wE_var, wpO, List.getElem?_cons_zero, List.getElem?_cons_succ, Option.join_some]
  rw [fdiv_int (by decide) (by decide)]
  simp only [wpF]
  rw [mul_int (.inr (by decide))]
  simp only [wpF, add_int]
  rw [mod_int (by decide)]
  exact q _ (Int.emod_nonneg _ (by decide))
/-- the list of draws lies at t and is no longer than m -/
structure Tn (t m : Nat) (S : Store) : Prop where
  wf : S.WF
  lt : t < S.nx
  ob : ∃ xs, S.ob t = some (.lst xs) ∧ xs.length ≤ m
/-- everything older but t is kept -/
structure Kp (t : Nat) (S S' : Store) : Prop where
  nx : S.nx ≤ S'.nx
  ob : ∀ n, n < S.nx → n ≠ t → S'.ob n = S.ob n
theorem Kp.refl {t : Nat} {S : Store} : Kp t S S := ⟨Nat.le_refl _, fun _ _ _ => rfl⟩
theorem Kp.trans {t : Nat} {a b c : Store} (h : Kp t a b) (k : Kp t b c) : Kp t a c := ⟨Nat.le_trans h.nx k.nx, fun n q z => (k.ob n (Nat.lt_of_lt_of_le q h.nx) z).trans (h.ob n q z)⟩
theorem Kp.of {t : Nat} {a b : Store} (h : Gr a b) : Kp t a b := ⟨h.nx, fun n q _ => h.ob n q⟩
theorem Tn.mono {t m m' : Nat} {S : Store} (h : Tn t m S) (k : m ≤ m') : Tn t m' S := ⟨h.wf, h.lt, by obtain ⟨xs, a, b⟩ := h.ob; exact ⟨xs, a, by omega⟩⟩
theorem Tn.gr {t m : Nat} {S S' : Store} (h : Tn t m S) (k : Gr S S') : Tn t m S' := ⟨k.wf, Nat.lt_of_lt_of_le h.lt k.nx, by obtain ⟨xs, a, b⟩ := h.ob; exact ⟨xs, (k.ob t h.lt).trans a, b⟩⟩
theorem ok_draw {n kc km kd t m : Nat} {ns : List Int} {k : Int} (hc : T.fns[kc]? = some cellF) (hm : T.fns[km]? = some (mixF kc)) (hd : T.fns[kd]? = some (drawF km)) (h : Tn t m S) (hl : m < 90000) (hk : 0 < k) :
    wpr (sem T (n + 3) kd [script ns, .loc t, .int k] S) (fun d S' => (∃ r, d = .int r ∧ 0 ≤ r ∧ r < k) ∧ Tn t (m + 1) S' ∧ Kp t S S') fun _ _ => False := by
  obtain ⟨wf, lt, xs, ho, hx⟩ := h
  rw [sem_call hd rfl, wrs_end]
  have ety : isTy S Mf.append.ty (.loc t) = true := by
    show (("list" : String) == "list" && (obLst (S.ob t)).isSome) = true
    rw [ho]
    rfl
  have ea : mfM false .append (.loc t) [D.int 0] S = .ok .non (S.set t (.lst (xs ++ [D.int 0]))) := by
    show (match S.ob t with
      | some (.lst xs) => if xs.length < nMax then Rs.ok D.non (S.set t (.lst (xs ++ [D.int 0]))) else .bad
      | _ => .bad) = _
    rw [ho]
    exact if_pos (Nat.lt_of_lt_of_le (by omega : xs.length < 90001) (by decide))
  show wrs (evS (sem T (n + 2)) (gvs T) (drawF km).body [some (script ns), some (.loc t), some (.int k)] S) _ _ _
  simp only [drawF, wrs_seq, wS_exp, wE_met, wE_cI, wE_var, wA_cons, wA_nil, wpO, List.getElem?_cons_zero, List.getElem?_cons_succ, Option.join_some]
  refine ⟨ety, ?_⟩
  rw [ea, wpr_ok]
  have ho' : (S.set t (.lst (xs ++ [D.int 0]))).ob t = some (.lst (xs ++ [D.int 0])) := Store.set_ob
  simp only [wS_ret, wE_bop, wE_blt, wE_call, wE_var, wA_cons, wA_nil, wpO, List.getElem?_cons_zero, List.getElem?_cons_succ, Option.join_some]
  rw [b_len_loc ho']
  simp only [wpF]
  refine ok_mix hc hm (Int.natCast_nonneg _) fun i hi => ?_
  simp only [wE_cI, wE_var, wpO, List.getElem?_cons_zero, List.getElem?_cons_succ, Option.join_some]
  rw [fdiv_int (by decide) (by decide)]
  simp only [wpF]
  rw [mod_int hk]
  exact ⟨⟨_, rfl, Int.emod_nonneg _ (Int.ne_of_gt hk), Int.emod_lt_of_pos _ hk⟩, ⟨Store.set_WF wf lt, lt, _, ho', by rw [List.length_append]; simp; omega⟩, Nat.le_refl _, fun n q z => Store.set_ne z⟩
theorem ok_pick {n kc km kd kp t m : Nat} {ns : List Int} {x : D} {k : Int} {P : D → Prop} (hc : T.fns[kc]? = some cellF) (hm : T.fns[km]? = some (mixF kc)) (hd : T.fns[kd]? = some (drawF km)) (hp : T.fns[kp]? = some (pickF kd)) (h : Tn t m S) (hl : m < 90000)
    (hx : bfP S .len [x] = some (.val (.int k))) (hk : 0 < k) (hi : ∀ S' r, Kp t S S' → 0 ≤ r → r < k → ∃ d, ixP S' x (.int r) = some d ∧ P d) :
    wpr (sem T (n + 4) kp [script ns, .loc t, x] S) (fun d S' => P d ∧ Tn t (m + 1) S' ∧ Kp t S S') fun _ _ => False := by
  rw [sem_call hp rfl, wrs_end]
  show wrs (evS (sem T (n + 3)) (gvs T) (pickF kd).body [some (script ns), some (.loc t), some x] S) _ _ _
  simp only [pickF, wrs_seq, wS_ret, wS_nil, wE_idx, wE_blt, wE_call, wE_var, wA_cons, wA_nil, wpO, List.getElem?_cons_zero, List.getElem?_cons_succ, Option.join_some, hx, wpF]
  refine wpr_mono (ok_draw (n := n) (ns := ns) hc hm hd h hl hk) (fun d S1 ⟨⟨r, e, r0, r1⟩, h2, h3⟩ => ?_) (fun _ _ z => z)
  subst e
  obtain ⟨d, e, hd⟩ := hi S1 r h3 r0 r1
  rw [e]
  exact ⟨hd, h2, h3⟩
theorem ok_pickL {n kc km kd kp t m : Nat} {ns : List Int} {xs : List D} (hc : T.fns[kc]? = some cellF) (hm : T.fns[km]? = some (mixF kc)) (hd : T.fns[kd]? = some (drawF km)) (hp : T.fns[kp]? = some (pickF kd)) (h : Tn t m S) (hl : m < 90000) (hx : 0 < xs.length) :
    wpr (sem T (n + 4) kp [script ns, .loc t, .lst xs] S) (fun d S' => d ∈ xs ∧ Tn t (m + 1) S' ∧ Kp t S S') fun _ _ => False :=
  ok_pick hc hm hd hp h hl b_len_lst (by omega) fun S' r _ r0 r1 => by
    obtain ⟨a, ha, e⟩ := atI_int r0 r1
    exact ⟨a, by rw [ix_lst]; exact e, ha⟩
theorem ok_pickO {n kc km kd kp t m q : Nat} {ns : List Int} {xs : List D} (hc : T.fns[kc]? = some cellF) (hm : T.fns[km]? = some (mixF kc)) (hd : T.fns[kd]? = some (drawF km)) (hp : T.fns[kp]? = some (pickF kd)) (h : Tn t m S) (hl : m < 90000) (hx : 0 < xs.length) (hq : q ≠ t) (hq2 : q < S.nx) (ho : S.ob q = some (.lst xs)) :
    wpr (sem T (n + 4) kp [script ns, .loc t, .loc q] S) (fun d S' => d ∈ xs ∧ Tn t (m + 1) S' ∧ Kp t S S') fun _ _ => False :=
  ok_pick hc hm hd hp h hl (b_len_loc ho) (by omega) fun S' r K r0 r1 => by
    obtain ⟨a, ha, e⟩ := atI_int r0 r1
    refine ⟨a, ?_, ha⟩
    show (obLst (S'.ob q)).bind _ = _
    rw [K.ob q hq2 hq, ho]
    exact e
theorem ok_pickS {n kc km kd kp t m : Nat} {ns : List Int} {s : Str} (hc : T.fns[kc]? = some cellF) (hm : T.fns[km]? = some (mixF kc)) (hd : T.fns[kd]? = some (drawF km)) (hp : T.fns[kp]? = some (pickF kd)) (h : Tn t m S) (hl : m < 90000) (hx : 0 < s.length) (hx2 : s.length ≤ 1000) :
    wpr (sem T (n + 4) kp [script ns, .loc t, .str s] S) (fun d S' => (∃ c ∈ s.cps.toList, d = .str (oneStr c)) ∧ Tn t (m + 1) S' ∧ Kp t S S') fun _ _ => False :=
  ok_pick hc hm hd hp h hl (b_len_str hx2) (by omega) fun S' r _ r0 r1 => by
    obtain ⟨a, ha, e⟩ := atI_int (xs := s.cps.toList) r0 (by rw [len_cps]; exact r1)
    exact ⟨_, by rw [ix_str hx2, e]; rfl, a, ha, rfl⟩
end
/-- a comprehension, by an invariant of the list so far -/
theorem wpr_comp {m : Bool} {xs : List D} {f : D → M (Option D)} {S : Store} {Q : D → Store → Prop} {X : Str → Store → Prop} (I : Nat → List D → Store → Prop) (hl : xs.length < nMax)
    (h0 : I 0 [] (S.new (.lst [])))
    (hob : ∀ j acc S', I j acc S' → S'.ob S.nx = some (.lst acc) ∧ acc.length ≤ j)
    (hs : ∀ j x acc S', xs[j]? = some x → I j acc S' → wpr (f x S') (fun o S1 => match o with
      | none => I (j + 1) acc S1
      | some y => S1.ob S.nx = some (.lst acc) ∧ I (j + 1) (acc ++ [y]) (S1.set S.nx (.lst (acc ++ [y])))) fun _ _ => False)
    (hd : ∀ acc S', I xs.length acc S' → if m = true then Q (.loc S.nx) S' else Q (.lst acc) (S'.del S.nx)) : wpr (compM m (.vals xs) f S) Q X := by
  have gen : ∀ (k j : Nat) (acc : List D) (S' : Store), j + k = xs.length → I j acc S' → ∃ acc' S2, loopC (.vals xs) S.nx f k j S' = .ok () S2 ∧ I xs.length acc' S2 := by
    intro k
    induction k with
    | zero =>
      intro j acc S' hj hI
      have e : j = xs.length := by omega
      subst e
      exact ⟨acc, S', rfl, hI⟩
    | succ k ih =>
      intro j acc S' hj hI
      have hlt : j < xs.length := by omega
      have hx : xs[j]? = some xs[j] := List.getElem?_eq_getElem hlt
      show ∃ acc' S2, (match (xs[j]? : Option D) with
        | none => Rs.bad
        | some x => match f x S' with
          | .ok none S1 => loopC (.vals xs) S.nx f k (j + 1) S1
          | .ok (some y) S1 => match obLst (S1.ob S.nx) with
            | some acc => if acc.length < nMax then loopC (.vals xs) S.nx f k (j + 1) (S1.set S.nx (.lst (acc ++ [y]))) else .bad
            | none => .bad
          | _ => .bad) = _ ∧ _
      rw [hx]
      obtain ⟨o, S1, e, z⟩ := wpr_elim (hs j _ acc S' hx hI)
      simp only
      rw [e]
      cases o with
      | none => exact ih (j + 1) acc S1 (by omega) z
      | some y =>
        simp only
        rw [z.1]
        simp only [obLst]
        have := (hob j acc S' hI).2
        rw [if_pos (by omega)]
        exact ih (j + 1) (acc ++ [y]) _ (by omega) z.2
  obtain ⟨acc, S2, e, hI⟩ := gen xs.length 0 [] (S.new (.lst [])) (Nat.zero_add _) h0
  have hq := hd acc S2 hI
  show wpr (match loopC (.vals xs) S.nx f xs.length 0 (S.new (.lst [])) with
    | .ok _ S2 => if m = true then .ok (.loc S.nx) S2 else match obLst (S2.ob S.nx) with
      | some acc => .ok (.lst acc) (S2.del S.nx)
      | none => .bad
    | _ => .bad) Q X
  rw [e]
  simp only
  cases m with
  | true => exact hq
  | false =>
    simp only [Bool.false_eq_true, if_false] at hq ⊢
    rw [(hob _ acc S2 hI).1]
    exact hq
theorem Kp.new {t : Nat} {S S' : Store} {o : Ob} (h : Kp t S S') (w : S'.WF) : Kp t S (S'.new o) := h.trans (.of (Gr.new w))
theorem Kp.setN {t q : Nat} {S S' : Store} {o : Ob} (h : Kp t S S') (hq : S.nx ≤ q) : Kp t S (S'.set q o) := ⟨h.nx, fun n a b => (Store.set_ne (by omega)).trans (h.ob n a b)⟩
theorem Tn.setN {t q m : Nat} {S : Store} {o : Ob} (h : Tn t m S) (hq : q < S.nx) (hn : q ≠ t) : Tn t m (S.set q o) := ⟨Store.set_WF h.wf hq, h.lt, by obtain ⟨xs, a, b⟩ := h.ob; exact ⟨xs, (Store.set_ne (Ne.symm hn)).trans a, b⟩⟩
theorem turn_off {env : ML.Env} {vs : List Nat} {i : Nat} {ft : ML.Env → M Bool} {fe : ML.Env → M D} {x : D} {S : Store} {Q : Option D → Store → Prop} {X : Str → Store → Prop} (h1 : ft ((wipeE env vs).set i (some x)) S = .ok true S)
    (h2 : wpr (fe ((wipeE env vs).set i (some x)) S) (fun d S1 => Q (some d) S1) X) : wpr (turnC env vs i ft fe x S) Q X := by
  unfold turnC
  rw [wpr_bind, h1, wpr_ok, if_pos rfl, wpr_bind]
  exact h2
end ML

namespace ML
open PySem L2
theorem ofS_inj (a b : String) : (Str.ofString a = Str.ofString b) = (a = b) := by
  refine propext ⟨fun h => ?_, fun h => by rw [h]⟩
  rw [Str.ofString_eq_toList, Str.ofString_eq_toList] at h
  have h2 : a.toList.map Char.toNat = b.toList.map Char.toNat := by
    have := congrArg (fun x : Str => x.cps.toList) h
    simpa using this
  have inj : ∀ (x y : List Char), x.map Char.toNat = y.map Char.toNat → x = y := by
    intro x
    induction x with
    | nil => intro y h; cases y with
      | nil => rfl
      | cons _ _ => cases h
    | cons c x ih =>
      intro y h
      cases y with
      | nil => cases h
      | cons d y =>
        simp only [List.map_cons, List.cons.injEq] at h
        rw [ih y h.2]
        congr 1
        exact Char.ext (UInt32.toNat_inj.mp h.1)
  exact String.toList_inj.mp (inj _ _ h2)
/-- a comprehension whose turns leave what is older -/
theorem comp_keep {xs : List D} {f : D → M (Option D)} (p : D → Bool) (g : D → D) {S : Store} (hS : S.WF) (hl : xs.length < nMax)
    (hf : ∀ x ∈ xs, ∀ S' : Store, Gr S S' → Ups (f x S') S' (if p x = true then some (g x) else none)) :
    Ups (compM false (.vals xs) f S) S (.lst ((xs.filter p).map g)) := by
  refine .of ?_
  refine wpr_comp (fun j acc S' => Gr S S' ∧ S.nx < S'.nx ∧ S'.ob S.nx = some (.lst acc) ∧ acc = ((xs.take j).filter p).map g) hl ⟨Gr.new hS, Nat.lt_succ_self _, Store.new_ob, rfl⟩ (fun j acc S' z => ⟨z.2.2.1, ?_⟩) ?_ ?_
  · rw [z.2.2.2, List.length_map]
    refine Nat.le_trans (List.length_filter_le _ _) ?_
    rw [List.length_take]
    omega
  · rintro j x acc S' hx ⟨G, nx, ob, e⟩
    have hm : x ∈ xs := List.mem_of_getElem? hx
    have ht : xs.take (j + 1) = xs.take j ++ [x] := by rw [List.take_succ, hx]; rfl
    refine (hf x hm S' G).wpr fun S1 G1 => ?_
    cases hp : p x with
    | false =>
      refine ⟨G.trans G1, Nat.lt_of_lt_of_le nx G1.nx, (G1.ob _ nx).trans ob, ?_⟩
      rw [e, ht, List.filter_append]
      simp [hp]
    | true =>
      refine ⟨(G1.ob _ nx).trans ob, (G.trans G1).set (Nat.le_refl _) (Nat.lt_of_lt_of_le nx G1.nx), Nat.lt_of_lt_of_le nx G1.nx, Store.set_ob, ?_⟩
      rw [e, ht, List.filter_append]
      simp [hp]
  · rintro acc S' ⟨G, nx, ob, e⟩
    rw [List.take_length] at e
    rw [if_neg Bool.false_ne_true]
    exact ⟨by rw [e], G.del (Nat.le_refl _)⟩
theorem comp_keep_all {xs : List D} {f : D → M (Option D)} (g : D → D) {S : Store} (hS : S.WF) (hl : xs.length < nMax)
    (hf : ∀ x ∈ xs, ∀ S' : Store, Gr S S' → Ups (f x S') S' (some (g x))) : Ups (compM false (.vals xs) f S) S (.lst (xs.map g)) := by
  have z := comp_keep (fun _ => true) g hS hl fun x hx S' G => by simpa using hf x hx S' G
  rw [List.filter_eq_self.mpr (fun _ _ => rfl)] at z
  exact z
/-- a turn with a test -/
theorem turn_if {env : ML.Env} {vs : List Nat} {i : Nat} {ft : ML.Env → M Bool} {fe : ML.Env → M D} {x : D} {S : Store} {b : Bool} {d : D} (h1 : Ups (ft ((wipeE env vs).set i (some x)) S) S b)
    (h2 : b = true → ∀ S', Gr S S' → Ups (fe ((wipeE env vs).set i (some x)) S') S' d) : Ups (turnC env vs i ft fe x S) S (if b = true then some d else none) := by
  obtain ⟨S1, e1, G1⟩ := h1
  unfold turnC M.bind
  rw [e1]
  cases b with
  | false => exact ⟨S1, rfl, G1⟩
  | true =>
    obtain ⟨S2, e2, G2⟩ := h2 rfl S1 G1
    refine ⟨S2, ?_, G1.trans G2⟩
    show ((fe _ S1).andThen _) = _
    rw [e2]
    rfl
/-! ### one statement at a time -/
def Later (Γ : Nat → List D → M D) (gv : List D) (b : ST) (N : ML.Env → Store → Prop) (R : D → Store → Prop) (E : Str → ML.Env → Store → Prop) : ML.Env → Store → Prop := fun env S => wrs (evS Γ gv b env S) N R E
section
variable {Γ : Nat → List D → M D} {gv : List D} {N : ML.Env → Store → Prop} {R : D → Store → Prop} {E : Str → ML.Env → Store → Prop} {env : ML.Env} {S : Store}
theorem wrs_seqL {a b : ST} : wrs (evS Γ gv (.seq a b) env S) N R E = wrs (evS Γ gv a env S) (Later Γ gv b N R E) R E := wrs_seq
theorem later {b : ST} : Later Γ gv b N R E env S = wrs (evS Γ gv b env S) N R E := rfl
theorem later_nil : Later Γ gv .nil N R E env S = N env S := rfl
end
/-- a part of a law that draws: what it gives, how many it draws -/
def Sp (t m c : Nat) (S : Store) (P : D → Prop) (r : Rs D) : Prop := wpr r (fun d S' => P d ∧ Tn t (m + c) S' ∧ Kp t S S') fun _ _ => False
theorem Sp.use {t m c : Nat} {S : Store} {P : D → Prop} {r : Rs D} {Q : D → Store → Prop} {X : Str → Store → Prop} (h : Sp t m c S P r) (k : ∀ d S', P d → Tn t (m + c) S' → Kp t S S' → Q d S') : wpr r Q X :=
  wpr_mono h (fun d S' z => k d S' z.1 z.2.1 z.2.2) fun _ _ z => z.elim
theorem Sp.mono {t m c c' : Nat} {S : Store} {P P' : D → Prop} {r : Rs D} (h : Sp t m c S P r) (hc : c ≤ c') (hP : ∀ d, P d → P' d) : Sp t m c' S P' r :=
  wpr_mono h (fun d S' z => ⟨hP d z.1, z.2.1.mono (by omega), z.2.2⟩) fun _ _ z => z
/-- a comprehension of drawn things -/
theorem comp_draws {mm : Bool} {t m c : Nat} {xs : List D} {env : ML.Env} {vs : List Nat} {i : Nat} {ft : ML.Env → M Bool} {fe : ML.Env → M D} {S : Store} {P : D → Prop} {Q : D → Store → Prop} {X : Str → Store → Prop} (h : Tn t m S) (hl : xs.length < nMax)
    (hft : ∀ e S, ft e S = .ok true S)
    (hf : ∀ (j : Nat) (x : D) (S' : Store), xs[j]? = some x → Tn t (m + c * j) S' → Sp t (m + c * j) c S' P (fe ((wipeE env vs).set i (some x)) S'))
    (hq : ∀ acc S', acc.length = xs.length → (∀ d ∈ acc, P d) → Tn t (m + c * xs.length) S' → Kp t S S' → (mm = true → S'.ob S.nx = some (.lst acc) ∧ S.nx < S'.nx) → Q (if mm = true then .loc S.nx else .lst acc) S') :
    wpr (compM mm (.vals xs) (turnC env vs i ft fe) S) Q X := by
  have hne : S.nx ≠ t := Nat.ne_of_gt h.lt
  refine wpr_comp (fun j acc S' => Tn t (m + c * j) S' ∧ Kp t S S' ∧ S.nx < S'.nx ∧ S'.ob S.nx = some (.lst acc) ∧ acc.length = j ∧ ∀ d ∈ acc, P d) hl ?_ (fun j acc S' z => ⟨z.2.2.2.1, by omega⟩) ?_ ?_
  · exact ⟨h.gr (Gr.new h.wf), .of (Gr.new h.wf), Nat.lt_succ_self _, Store.new_ob, rfl, fun d z => (by cases z)⟩
  · rintro j x acc S' hj ⟨T4, K4, n4, o4, el, ha⟩
    refine turn_off (hft _ _) ?_
    refine (hf j x S' hj T4).use fun d S5 hd T5 K5 => ?_
    have o5 := (K5.ob _ n4 hne).trans o4
    have n5 := Nat.lt_of_lt_of_le n4 K5.nx
    refine ⟨o5, (T5.setN n5 hne).mono (by rw [Nat.mul_succ]; omega), (K4.trans K5).setN (Nat.le_refl _), n5, Store.set_ob, by rw [List.length_append, el]; rfl, fun y hy => ?_⟩
    rcases List.mem_append.mp hy with hy | hy
    · exact ha y hy
    · rw [List.mem_singleton.mp hy]; exact hd
  · rintro acc S4 ⟨T4, K4, n4, o4, el, ha⟩
    cases mm with
    | true => exact hq acc S4 el ha T4 K4 fun _ => ⟨o4, n4⟩
    | false =>
      refine hq acc (S4.del S.nx) el ha ⟨Store.del_WF T4.wf, T4.lt, ?_⟩ ⟨K4.nx, fun q h1 h2 => ?_⟩ fun z => absurd z Bool.false_ne_true
      · obtain ⟨zs, z1, z2⟩ := T4.ob
        exact ⟨zs, by rw [← z1]; exact if_neg (Ne.symm hne), z2⟩
      · rw [← K4.ob q h1 h2]
        exact if_neg (Nat.ne_of_lt h1)
end ML

namespace ML
open PySem L2
theorem add_lw' {S : Store} {xs ys : List D} (h : xs.length + ys.length ≤ 16000000) : binP S .Add (.lst xs) (.lst ys) = some (.newl (xs ++ ys)) := by
  show guardP (decide (xs.length + ys.length ≤ nMax)) _ = _
  rw [decide_eq_true (show xs.length + ys.length ≤ nMax from h)]
  rfl
/-- a comprehension, by an invariant of the list so far -/
theorem wpr_compP {q : Nat} {m : Bool} {xs : List D} {f : D → M (Option D)} {S : Store} {Q : D → Store → Prop} {X : Str → Store → Prop} (I : Nat → List D → Store → Prop) (hl : xs.length < nMax) (hp : ∀ j acc S', I j acc S' → S'.ob q = some (.lst xs))
    (h0 : I 0 [] (S.new (.lst [])))
    (hob : ∀ j acc S', I j acc S' → S'.ob S.nx = some (.lst acc) ∧ acc.length ≤ j)
    (hs : ∀ j x acc S', xs[j]? = some x → I j acc S' → wpr (f x S') (fun o S1 => match o with
      | none => I (j + 1) acc S1
      | some y => S1.ob S.nx = some (.lst acc) ∧ I (j + 1) (acc ++ [y]) (S1.set S.nx (.lst (acc ++ [y])))) fun _ _ => False)
    (hd : ∀ acc S', I xs.length acc S' → if m = true then Q (.loc S.nx) S' else Q (.lst acc) (S'.del S.nx)) : wpr (compM m (.plc q xs.length) f S) Q X := by
  have gen : ∀ (k j : Nat) (acc : List D) (S' : Store), j + k = xs.length → I j acc S' → ∃ acc' S2, loopC (.plc q xs.length) S.nx f k j S' = .ok () S2 ∧ I xs.length acc' S2 := by
    intro k
    induction k with
    | zero =>
      intro j acc S' hj hI
      have e : j = xs.length := by omega
      subst e
      refine ⟨acc, S', ?_, hI⟩
      show (if (match obLst (S'.ob q) with | some ys => decide (ys.length ≤ xs.length) | none => false) = true then Rs.ok () S' else .bad) = _
      rw [hp _ _ _ hI]
      simp [obLst]
    | succ k ih =>
      intro j acc S' hj hI
      have hlt : j < xs.length := by omega
      have hx : xs[j]? = some xs[j] := List.getElem?_eq_getElem hlt
      show ∃ acc' S2, (match ((obLst (S'.ob q)).bind fun (ys : List D) => ys[j]? : Option D) with
        | none => Rs.bad
        | some x => match f x S' with
          | .ok none S1 => loopC (.plc q xs.length) S.nx f k (j + 1) S1
          | .ok (some y) S1 => match obLst (S1.ob S.nx) with
            | some acc => if acc.length < nMax then loopC (.plc q xs.length) S.nx f k (j + 1) (S1.set S.nx (.lst (acc ++ [y]))) else .bad
            | none => .bad
          | _ => .bad) = _ ∧ _
      rw [hp _ _ _ hI, show (obLst (some (Ob.lst xs))).bind (fun (ys : List D) => ys[j]?) = xs[j]? from rfl, hx]
      obtain ⟨o, S1, e, z⟩ := wpr_elim (hs j _ acc S' hx hI)
      simp only
      rw [e]
      cases o with
      | none => exact ih (j + 1) acc S1 (by omega) z
      | some y =>
        simp only
        rw [z.1]
        simp only [obLst]
        have := (hob j acc S' hI).2
        rw [if_pos (by omega)]
        exact ih (j + 1) (acc ++ [y]) _ (by omega) z.2
  obtain ⟨acc, S2, e, hI⟩ := gen xs.length 0 [] (S.new (.lst [])) (Nat.zero_add _) h0
  have hq := hd acc S2 hI
  show wpr (match loopC (.plc q xs.length) S.nx f xs.length 0 (S.new (.lst [])) with
    | .ok _ S2 => if m = true then .ok (.loc S.nx) S2 else match obLst (S2.ob S.nx) with
      | some acc => .ok (.lst acc) (S2.del S.nx)
      | none => .bad
    | _ => .bad) Q X
  rw [e]
  simp only
  cases m with
  | true => exact hq
  | false =>
    simp only [Bool.false_eq_true, if_false] at hq ⊢
    rw [(hob _ acc S2 hI).1]
    exact hq
/-- a comprehension whose turns leave what is older -/
theorem comp_keepP {q : Nat} {xs : List D} {f : D → M (Option D)} (p : D → Bool) (g : D → D) {S : Store} (hS : S.WF) (hq : q < S.nx) (ho : S.ob q = some (.lst xs)) (hl : xs.length < nMax)
    (hf : ∀ x ∈ xs, ∀ S' : Store, Gr S S' → Ups (f x S') S' (if p x = true then some (g x) else none)) :
    Ups (compM false (.plc q xs.length) f S) S (.lst ((xs.filter p).map g)) := by
  refine .of ?_
  refine wpr_compP (fun j acc S' => Gr S S' ∧ S.nx < S'.nx ∧ S'.ob S.nx = some (.lst acc) ∧ acc = ((xs.take j).filter p).map g) hl (fun j acc S' z => (z.1.ob q hq).trans ho) ⟨Gr.new hS, Nat.lt_succ_self _, Store.new_ob, rfl⟩ (fun j acc S' z => ⟨z.2.2.1, ?_⟩) ?_ ?_
  · rw [z.2.2.2, List.length_map]
    refine Nat.le_trans (List.length_filter_le _ _) ?_
    rw [List.length_take]
    omega
  · rintro j x acc S' hx ⟨G, nx, ob, e⟩
    have hm : x ∈ xs := List.mem_of_getElem? hx
    have ht : xs.take (j + 1) = xs.take j ++ [x] := by rw [List.take_succ, hx]; rfl
    refine (hf x hm S' G).wpr fun S1 G1 => ?_
    cases hp : p x with
    | false =>
      refine ⟨G.trans G1, Nat.lt_of_lt_of_le nx G1.nx, (G1.ob _ nx).trans ob, ?_⟩
      rw [e, ht, List.filter_append]
      simp [hp]
    | true =>
      refine ⟨(G1.ob _ nx).trans ob, (G.trans G1).set (Nat.le_refl _) (Nat.lt_of_lt_of_le nx G1.nx), Nat.lt_of_lt_of_le nx G1.nx, Store.set_ob, ?_⟩
      rw [e, ht, List.filter_append]
      simp [hp]
  · rintro acc S' ⟨G, nx, ob, e⟩
    rw [List.take_length] at e
    rw [if_neg Bool.false_ne_true]
    exact ⟨by rw [e], G.del (Nat.le_refl _)⟩
/-- a for over written items: by an invariant over what was taken -/
theorem wrs_forP {q : Nat} {Γ : Nat → List D → M D} {gv : List D} {N : ML.Env → Store → Prop} {R : D → Store → Prop} {E : Str → ML.Env → Store → Prop} {env : ML.Env} {S : Store} {b : ST} {i : Nat} {xs : List D} (I : Nat → ML.Env → Store → Prop) (hp : ∀ j env' S', I j env' S' → S'.ob q = some (.lst xs)) (h0 : I 0 env S)
    (hs : ∀ (j : Nat) (x : D) (env' : ML.Env) (S' : Store), xs[j]? = some x → I j env' S' → wrs (evS Γ gv b (env'.set i (some x)) S') (I (j + 1)) R E)
    (hd : ∀ env' S', I xs.length env' S' → N env' S') : wrs (loopF (.plc q xs.length) (fun x env S => evS Γ gv b (env.set i (some x)) S) (Src.plc q xs.length).num 0 env S) N R E := by
  have gen : ∀ (k j : Nat) (env' : ML.Env) (S' : Store), j + k = xs.length → I j env' S' → wrs (loopF (.plc q xs.length) (fun x env S => evS Γ gv b (env.set i (some x)) S) k j env' S') N R E := by
    intro k
    induction k with
    | zero =>
      intro j env' S' hj hI
      have e : j = xs.length := by omega
      subst e
      show wrs (if (match obLst (S'.ob q) with | some ys => decide (ys.length ≤ xs.length) | none => false) = true then RS.nx env' S' else .bad) N R E
      rw [hp _ _ _ hI]
      simp only [obLst, Nat.le_refl, decide_true, if_true]
      exact hd env' S' hI
    | succ k ih =>
      intro j env' S' hj hI
      have hlt : j < xs.length := by omega
      show wrs (match ((obLst (S'.ob q)).bind fun (ys : List D) => ys[j]? : Option D) with
        | none => .bad
        | some x => match evS Γ gv b (env'.set i (some x)) S' with
          | .nx env' S' => loopF (.plc q xs.length) (fun x env S => evS Γ gv b (env.set i (some x)) S) k (j + 1) env' S'
          | .rt d S' => .rt d S'
          | .exc c env' S' => .exc c env' S'
          | .bad => .bad) N R E
      rw [hp _ _ _ hI, show (obLst (some (Ob.lst xs))).bind (fun (ys : List D) => ys[j]?) = xs[j]? from rfl, List.getElem?_eq_getElem hlt]
      dsimp only
      have z := hs j xs[j] env' S' (List.getElem?_eq_getElem hlt) hI
      revert z
      cases evS Γ gv b (env'.set i (some xs[j])) S' with
      | nx e2 S2 => exact fun z => ih (j + 1) e2 S2 (by omega) z
      | rt d S2 => exact fun z => z
      | exc c e2 S2 => exact fun z => z
      | bad => exact fun z => z
  exact gen xs.length 0 env S (Nat.zero_add _) h0

/-- a list, as a value or at a place -/
def LsAt (S : Store) (d : D) (xs : List D) : Prop := d = .lst xs ∨ ∃ q, d = .loc q ∧ q < S.nx ∧ S.ob q = some (.lst xs)
theorem LsAt.gr {S S' : Store} {d : D} {xs : List D} (h : LsAt S d xs) (g : Gr S S') : LsAt S' d xs := by
  rcases h with h | ⟨q, h1, h2, h3⟩
  · exact .inl h
  · exact .inr ⟨q, h1, Nat.lt_of_lt_of_le h2 g.nx, (g.ob q h2).trans h3⟩
theorem LsAt.lst {S : Store} {d : D} {xs : List D} (h : LsAt S d xs) : lstOf S d = some xs := by
  rcases h with rfl | ⟨q, rfl, _, h3⟩
  · rfl
  · show obLst (S.ob q) = _
    rw [h3]; rfl
theorem LsAt.seq {S : Store} {d : D} {xs : List D} (h : LsAt S d xs) : seqOf S d = some xs := by
  rcases h with rfl | ⟨q, rfl, _, h3⟩
  · rfl
  · show obLst (S.ob q) = _
    rw [h3]; rfl
theorem LsAt.len {S : Store} {d : D} {xs : List D} (h : LsAt S d xs) : bfP S .len [d] = some (.val (.int (xs.length : Int))) := by
  rcases h with rfl | ⟨q, rfl, _, h3⟩
  · rfl
  · exact b_len_loc h3
theorem add_la {S : Store} {d : D} {xs ys : List D} (h : LsAt S d ys) (hl : xs.length + ys.length ≤ 1000) : binP S .Add (.lst xs) d = some (.newl (xs ++ ys)) := by
  rcases h with rfl | ⟨q, rfl, _, h3⟩
  · exact add_lw' (by omega)
  · have e : binP S .Add (.lst xs) (.loc q) = match lstOf S (.lst xs), lstOf S (.loc q) with
      | some xs, some ys => guardP (decide (xs.length + ys.length ≤ nMax)) (.newl (xs ++ ys))
      | _, _ => none := rfl
    rw [e, show lstOf S (.lst xs) = some xs from rfl, show lstOf S (.loc q) = some ys by show obLst (S.ob q) = _; rw [h3]; rfl]
    simp only
    rw [decide_eq_true (Nat.le_trans hl (by decide))]
    rfl
theorem wrs_forA {Γ : Nat → List D → M D} {gv : List D} {N : ML.Env → Store → Prop} {R : D → Store → Prop} {E : Str → ML.Env → Store → Prop} {env : ML.Env} {S : Store} {b : ST} {i : Nat} {d : D} {xs : List D} (h : LsAt S d xs) (I : Nat → ML.Env → Store → Prop) (hp : ∀ j env' S', I j env' S' → Gr S S') (h0 : I 0 env S)
    (hs : ∀ (j : Nat) (x : D) (env' : ML.Env) (S' : Store), xs[j]? = some x → I j env' S' → wrs (evS Γ gv b (env'.set i (some x)) S') (I (j + 1)) R E)
    (hd : ∀ env' S', I xs.length env' S' → N env' S') : wpO (srcOf S d) fun src => wrs (loopF src (fun x env S => evS Γ gv b (env.set i (some x)) S) src.num 0 env S) N R E := by
  rcases h with rfl | ⟨q, rfl, h2, h3⟩
  · exact wrs_for I h0 hs hd
  · have es : srcOf S (.loc q) = some (.plc q xs.length) := by
      show (obLst (S.ob q)).map (fun xs => Src.plc q xs.length) = _
      rw [h3]; rfl
    rw [es]
    exact wrs_forP I (fun j env' S' z => ((hp j env' S' z).ob q h2).trans h3) h0 hs hd
structure Ch (ls : List Nat) (S S' : Store) : Prop where
  nx : S.nx ≤ S'.nx
  wf : S'.WF
  ob : ∀ n, n < S.nx → n ∉ ls → S'.ob n = S.ob n
theorem Ch.of {ls : List Nat} {S S' : Store} (h : Gr S S') : Ch ls S S' := ⟨h.nx, h.wf, fun n q _ => h.ob n q⟩
theorem Ch.trans {ls : List Nat} {a b c : Store} (h : Ch ls a b) (k : Ch ls b c) : Ch ls a c := ⟨Nat.le_trans h.nx k.nx, k.wf, fun n q z => (k.ob n (Nat.lt_of_lt_of_le q h.nx) z).trans (h.ob n q z)⟩
theorem Ch.set {ls : List Nat} {S S' : Store} {k : Nat} {o : Ob} (h : Ch ls S S') (hk : k ∈ ls ∨ S.nx ≤ k) (hk' : k < S'.nx) : Ch ls S (S'.set k o) := ⟨h.nx, Store.set_WF h.wf hk', fun n q z => by
  rw [Store.set_ne (fun e => by
    subst e
    rcases hk with hk | hk
    · exact z hk
    · omega)]
  exact h.ob n q z⟩
theorem Ch.new {ls : List Nat} {S S' : Store} {o : Ob} (h : Ch ls S S') : Ch ls S (S'.new o) := h.trans (.of (Gr.new h.wf))
theorem Ch.mono {ls ks : List Nat} {S S' : Store} (h : Ch ls S S') (hk : ∀ n ∈ ls, n ∈ ks) : Ch ks S S' := ⟨h.nx, h.wf, fun n q z => h.ob n q fun y => z (hk n y)⟩
/-- a for over written items, whatever its body: by an invariant over what was taken -/
theorem wrs_forG {N : Env → Store → Prop} {R : D → Store → Prop} {E : Str → Env → Store → Prop} {env : Env} {S : Store} {body : D → Env → Store → RS} {xs : List D} (I : Nat → Env → Store → Prop) (h0 : I 0 env S)
    (hs : ∀ (j : Nat) (x : D) (env' : Env) (S' : Store), xs[j]? = some x → I j env' S' → wrs (body x env' S') (I (j + 1)) R E)
    (hd : ∀ env' S', I xs.length env' S' → N env' S') : wrs (loopF (.vals xs) body (Src.vals xs).num 0 env S) N R E := by
  have gen : ∀ (k j : Nat) (env' : Env) (S' : Store), j + k = xs.length → I j env' S' → wrs (loopF (.vals xs) body k j env' S') N R E := by
    intro k
    induction k with
    | zero =>
      intro j env' S' hj hI
      have e : j = xs.length := by omega
      subst e
      exact hd env' S' hI
    | succ k ih =>
      intro j env' S' hj hI
      have hlt : j < xs.length := by omega
      show wrs (match (xs[j]? : Option D) with
        | none => .bad
        | some x => match body x env' S' with
          | .nx env' S' => loopF (.vals xs) body k (j + 1) env' S'
          | .rt d S' => .rt d S'
          | .exc c env' S' => .exc c env' S'
          | .bad => .bad) N R E
      rw [List.getElem?_eq_getElem hlt]
      dsimp only
      have z := hs j xs[j] env' S' (List.getElem?_eq_getElem hlt) hI
      revert z
      cases body xs[j] env' S' with
      | nx e2 S2 => exact fun z => ih (j + 1) e2 S2 (by omega) z
      | rt d S2 => exact fun z => z
      | exc c e2 S2 => exact fun z => z
      | bad => exact fun z => z
  exact gen xs.length 0 env S (Nat.zero_add _) h0
end ML

namespace K41
open PySem L2 ML
def f_is_worded : Fn := { name := ("is_worded" : Str), ps := [("text" : Str), ("firsts" : Str)], N := [("text" : Str), ("firsts" : Str), ("sign" : Str)], body := .seq (.ife (.con .Or (.nt (.chn .LtE .LtE (.cI 1) (.blt false .len (.cons (.var 0) (.nil))) (.glb 5))) (.one (.cmp .NotIn (.idx (.var 0) (.cI 0)) (.var 1)))) (.seq (.ret (.cB false)) (.nil)) (.nil)) (.seq (.ret (.blt false .all (.cons (.lc false [(("sign" : Str), 2)] 2 (.itr (.var 0)) (.off) (.cmp .In (.var 2) (.bop false .Add (.bop false .Add (.glb 0) (.glb 1)) (.glb 2)))) (.nil)))) (.nil)) }
def f_is_name : Fn := { name := ("is_name" : Str), ps := [("text" : Str)], N := [("text" : Str)], body := .seq (.ret (.con .And (.call 0 (.cons (.var 0) (.cons (.glb 0) (.nil)))) (.one (.cmp .NotIn (.var 0) (.glb 4))))) (.nil) }
def f_words_of : Fn := { name := ("words_of" : Str), ps := [("message" : Str)], N := [("message" : Str), ("found" : Str), ("rest" : Str), ("word" : Str), ("colon" : Str)], body := .seq (.asg 1 (.lst true (.nil))) (.seq (.asg 2 (.var 0)) (.seq (.whl (.cmp .In (.cS (":" : Str)) (.var 2)) (.seq (.unp [3, 4, 2] (.met false .partition (.var 2) (.cons (.cS (":" : Str)) (.nil)))) (.seq (.exp (.met false .append (.var 1) (.cons (.bop false .Add (.var 3) (.cS (":" : Str))) (.nil)))) (.nil)))) (.seq (.ret (.ite (.cmp .Eq (.var 2) (.cS ("" : Str))) (.frz (.var 1)) (.lst false (.nil)))) (.nil)))) }
def f_arity_of : Fn := { name := ("arity_of" : Str), ps := [("message" : Str)], N := [("message" : Str), ("words" : Str), ("word" : Str)], body := .seq (.ife (.tru (.call 1 (.cons (.var 0) (.nil)))) (.seq (.ret (.cI 0)) (.nil)) (.nil)) (.seq (.ife (.con .And (.cmp .Eq (.blt false .len (.cons (.var 0) (.nil))) (.cI 1)) (.one (.cmp .In (.var 0) (.glb 3)))) (.seq (.ret (.cI 1)) (.nil)) (.nil)) (.seq (.asg 1 (.call 2 (.cons (.var 0) (.nil)))) (.seq (.ife (.con .And (.chn .LtE .LtE (.cI 1) (.blt false .len (.cons (.var 1) (.nil))) (.glb 6)) (.one (.tru (.blt false .all (.cons (.lc false [(("word" : Str), 2)] 2 (.itr (.var 1)) (.off) (.call 1 (.cons (.slc false (.var 2) (.off) (.neg (.cI 1))) (.nil)))) (.nil)))))) (.seq (.ret (.blt false .len (.cons (.var 1) (.nil)))) (.nil)) (.nil)) (.seq (.ret (.cN)) (.nil))))) }
def f_taken_by : Fn := { name := ("taken_by" : Str), ps := [("code" : Str)], N := [("code" : Str)], body := .seq (.ife (.cmp .In (.idx (.var 0) (.cI 0)) (.tup (.cons (.cS ("send" : Str)) (.cons (.cS ("super" : Str)) (.nil))))) (.seq (.ret (.bop false .Add (.call 3 (.cons (.idx (.var 0) (.cI 1)) (.nil))) (.cI 1))) (.nil)) (.nil)) (.seq (.ret (.ite (.inW ("TAKEN" : Str) [(("push" : Str), .inl 0), (("self" : Str), .inl 0), (("read" : Str), .inl 0), (("slot" : Str), .inl 0), (("block" : Str), .inl 0), (("write" : Str), .inl 1), (("store" : Str), .inl 1), (("drop" : Str), .inl 1), (("jump" : Str), .inl 0)] (.idx (.var 0) (.cI 0))) (.ixW ("TAKEN" : Str) [(("push" : Str), .inl 0), (("self" : Str), .inl 0), (("read" : Str), .inl 0), (("slot" : Str), .inl 0), (("block" : Str), .inl 0), (("write" : Str), .inl 1), (("store" : Str), .inl 1), (("drop" : Str), .inl 1), (("jump" : Str), .inl 0)] (.idx (.var 0) (.cI 0))) (.ixW ("MORE_TAKEN" : Str) [(("choose" : Str), .inl 1), (("turn" : Str), .inl 0), (("give" : Str), .inl 1), (("back" : Str), .inl 1)] (.idx (.var 0) (.cI 0))))) (.nil)) }
def f_left_by : Fn := { name := ("left_by" : Str), ps := [("code" : Str)], N := [("code" : Str)], body := .seq (.ife (.cmp .In (.idx (.var 0) (.cI 0)) (.tup (.cons (.cS ("send" : Str)) (.cons (.cS ("super" : Str)) (.nil))))) (.seq (.ret (.cI 1)) (.nil)) (.nil)) (.seq (.ret (.ite (.inW ("LEFT" : Str) [(("push" : Str), .inl 1), (("self" : Str), .inl 1), (("read" : Str), .inl 1), (("slot" : Str), .inl 1), (("block" : Str), .inl 1), (("write" : Str), .inl 1), (("store" : Str), .inl 1), (("drop" : Str), .inl 0), (("jump" : Str), .inl 0)] (.idx (.var 0) (.cI 0))) (.ixW ("LEFT" : Str) [(("push" : Str), .inl 1), (("self" : Str), .inl 1), (("read" : Str), .inl 1), (("slot" : Str), .inl 1), (("block" : Str), .inl 1), (("write" : Str), .inl 1), (("store" : Str), .inl 1), (("drop" : Str), .inl 0), (("jump" : Str), .inl 0)] (.idx (.var 0) (.cI 0))) (.ixW ("MORE_LEFT" : Str) [(("choose" : Str), .inl 0), (("turn" : Str), .inl 0), (("give" : Str), .inl 0), (("back" : Str), .inl 0)] (.idx (.var 0) (.cI 0))))) (.nil)) }
def f_goals_of : Fn := { name := ("goals_of" : Str), ps := [("codes" : Str), ("at" : Str)], N := [("codes" : Str), ("at" : Str), ("code" : Str)], body := .seq (.asg 2 (.idx (.var 0) (.var 1))) (.seq (.ife (.cmp .In (.idx (.var 2) (.cI 0)) (.tup (.cons (.cS ("give" : Str)) (.cons (.cS ("back" : Str)) (.nil))))) (.seq (.ret (.lst false (.nil))) (.nil)) (.nil)) (.seq (.ife (.cmp .Eq (.idx (.var 2) (.cI 0)) (.cS ("jump" : Str))) (.seq (.ret (.lst false (.cons (.bop false .Add (.bop false .Add (.var 1) (.cI 1)) (.idx (.var 2) (.cI 1))) (.nil)))) (.nil)) (.nil)) (.seq (.ret (.ite (.cmp .Eq (.idx (.var 2) (.cI 0)) (.cS ("choose" : Str))) (.lst false (.cons (.bop false .Add (.var 1) (.cI 1)) (.cons (.bop false .Add (.bop false .Add (.var 1) (.cI 1)) (.idx (.var 2) (.cI 1))) (.nil)))) (.lst false (.cons (.bop false .Add (.var 1) (.cI 1)) (.nil))))) (.nil)))) }
def f_look_code : Fn := { name := ("look_code" : Str), ps := [("code" : Str), ("deep" : Str), ("sizes" : Str), ("is_block" : Str)], N := [("code" : Str), ("deep" : Str), ("sizes" : Str), ("is_block" : Str)], body := .seq (.ife (.cmp .Lt (.var 1) (.call 4 (.cons (.var 0) (.nil)))) (.seq (.rais ("BadCodes" : Str)) (.nil)) (.nil)) (.seq (.ife (.cmp .In (.idx (.var 0) (.cI 0)) (.tup (.cons (.cS ("read" : Str)) (.cons (.cS ("write" : Str)) (.nil))))) (.seq (.ife (.con .Or (.nt (.chn .LtE .Lt (.cI 0) (.idx (.var 0) (.cI 1)) (.blt false .len (.cons (.var 2) (.nil))))) (.one (.nt (.chn .LtE .Lt (.cI 0) (.idx (.var 0) (.cI 2)) (.idx (.var 2) (.idx (.var 0) (.cI 1))))))) (.seq (.rais ("BadCodes" : Str)) (.nil)) (.nil)) (.nil)) (.nil)) (.seq (.ife (.con .And (.cmp .Eq (.idx (.var 0) (.cI 0)) (.cS ("back" : Str))) (.one (.nt (.tru (.var 3))))) (.seq (.rais ("BadCodes" : Str)) (.nil)) (.nil)) (.seq (.ife (.cmp .Eq (.idx (.var 0) (.cI 0)) (.cS ("block" : Str))) (.seq (.exp (.call 8 (.cons (.idx (.var 0) (.cI 2)) (.cons (.bop false .Add (.lst false (.cons (.bop false .Add (.blt false .len (.cons (.idx (.idx (.var 0) (.cI 1)) (.cI 1)) (.nil))) (.blt false .len (.cons (.idx (.idx (.var 0) (.cI 1)) (.cI 2)) (.nil)))) (.nil))) (.var 2)) (.cons (.cB true) (.nil)))))) (.nil)) (.nil)) (.nil)))) }
def f_depths : Fn := { name := ("depths" : Str), ps := [("codes" : Str), ("sizes" : Str), ("is_block" : Str)], N := [("codes" : Str), ("sizes" : Str), ("is_block" : Str), ("found" : Str), ("rows" : Str), ("at" : Str), ("deep" : Str), ("later" : Str), ("goal" : Str)], body := .seq (.asg 3 (.bop true .Mult (.lst false (.cons (.cN) (.nil))) (.blt false .len (.cons (.var 0) (.nil))))) (.seq (.asg 4 (.lst true (.cons (.tup (.cons (.cI 0) (.cons (.cI 0) (.nil)))) (.nil)))) (.seq (.whl (.tru (.var 4)) (.seq (.unp [5, 6] (.pop (.var 4))) (.seq (.ife (.nt (.chn .LtE .Lt (.cI 0) (.var 5) (.blt false .len (.cons (.var 0) (.nil))))) (.seq (.rais ("BadCodes" : Str)) (.nil)) (.nil)) (.seq (.ife (.cmp .Is (.idx (.var 3) (.var 5)) (.cN)) (.seq (.exp (.call 7 (.cons (.idx (.var 0) (.var 5)) (.cons (.var 6) (.cons (.var 1) (.cons (.var 2) (.nil))))))) (.seq (.stI (.var 3) (.var 5) (.var 6)) (.seq (.asg 7 (.bop false .Add (.bop false .Sub (.var 6) (.call 4 (.cons (.idx (.var 0) (.var 5)) (.nil)))) (.call 5 (.cons (.idx (.var 0) (.var 5)) (.nil))))) (.seq (.exp (.met false .extend (.var 4) (.cons (.lc false [(("goal" : Str), 8)] 8 (.itr (.call 6 (.cons (.var 0) (.cons (.var 5) (.nil))))) (.off) (.tup (.cons (.var 8) (.cons (.var 7) (.nil))))) (.nil)))) (.nil))))) (.seq (.ife (.cmp .NotEq (.idx (.var 3) (.var 5)) (.var 6)) (.seq (.rais ("BadCodes" : Str)) (.nil)) (.nil)) (.nil))) (.nil))))) (.seq (.ret (.frz (.var 3))) (.nil)))) }
def f_look_codes : Fn := { name := ("look_codes" : Str), ps := [("codes" : Str), ("sizes" : Str), ("is_block" : Str)], N := [("codes" : Str), ("sizes" : Str), ("is_block" : Str)], body := .seq (.ret (.call 8 (.cons (.var 0) (.cons (.blt false .list (.cons (.var 1) (.nil))) (.cons (.var 2) (.nil)))))) (.nil) }
def f_law_cell : Fn := { name := ("_law_cell" : Str), ps := [("script" : Str), ("k" : Str)], N := [("script" : Str), ("k" : Str)], body := .seq (.ife (.tru (.var 0)) (.seq (.ret (.idx (.var 0) (.bop false .Mod (.var 1) (.blt false .len (.cons (.var 0) (.nil)))))) (.nil)) (.nil)) (.seq (.ret (.cI 0)) (.nil)) }
def f_law_mix : Fn := { name := ("_law_mix" : Str), ps := [("script" : Str), ("k" : Str)], N := [("script" : Str), ("k" : Str), ("number" : Str)], body := .seq (.asg 2 (.bop false .Mod (.bop false .Add (.call 10 (.cons (.var 0) (.cons (.var 1) (.nil)))) (.bop false .Mult (.cI 104729) (.bop false .Add (.var 1) (.cI 1)))) (.cI 4294967291))) (.seq (.asg 2 (.bop false .Mod (.bop false .Pow (.var 2) (.cI 5)) (.cI 4294967279))) (.seq (.ret (.bop false .Mod (.bop false .Add (.bop false .Mult (.bop false .FloorDiv (.var 2) (.cI 64)) (.cI 69621)) (.var 2)) (.cI 4294967231))) (.nil))) }
def f_law_draw : Fn := { name := ("_law_draw" : Str), ps := [("script" : Str), ("town" : Str), ("many" : Str)], N := [("script" : Str), ("town" : Str), ("many" : Str)], body := .seq (.exp (.met false .append (.var 1) (.cons (.cI 0) (.nil)))) (.seq (.ret (.bop false .Mod (.bop false .FloorDiv (.call 11 (.cons (.var 0) (.cons (.blt false .len (.cons (.var 1) (.nil))) (.nil)))) (.cI 8)) (.var 2))) (.nil)) }
def f_law_pick : Fn := { name := ("_law_pick" : Str), ps := [("script" : Str), ("town" : Str), ("some" : Str)], N := [("script" : Str), ("town" : Str), ("some" : Str)], body := .seq (.ret (.idx (.var 2) (.call 12 (.cons (.var 0) (.cons (.var 1) (.cons (.blt false .len (.cons (.var 2) (.nil))) (.nil))))))) (.nil) }
def f_law_refusal : Fn := { name := ("_law_refusal" : Str), ps := [("held" : Str)], N := [("held" : Str), ("kinds" : Str)], body := .seq (.ife (.cmp .Is (.var 0) (.cN)) (.seq (.ret (.tup (.cons (.cS ("ok" : Str)) (.nil)))) (.nil)) (.nil)) (.seq (.asg 1 (.lst false (.cons (.isE (.var 0) ("BadTree" : Str) [(("BadCodes" : Str), false)]) (.cons (.isE (.var 0) ("BadText" : Str) [(("BadCodes" : Str), false)]) (.cons (.isE (.var 0) ("BadName" : Str) [(("BadCodes" : Str), false)]) (.nil)))))) (.seq (.asg 1 (.bop false .Add (.var 1) (.lst false (.cons (.isE (.var 0) ("BadClass" : Str) [(("BadCodes" : Str), false)]) (.cons (.isE (.var 0) ("BadRun" : Str) [(("BadCodes" : Str), false)]) (.cons (.isE (.var 0) ("BadCodes" : Str) [(("BadCodes" : Str), true)]) (.nil))))))) (.seq (.ife (.con .Or (.cmp .NotEq (.met false .count (.var 1) (.cons (.cB true) (.nil))) (.cI 1)) (.one (.nt (.tru (.isE (.var 0) ("ValueError" : Str) [(("BadCodes" : Str), true)]))))) (.seq (.ret (.tup (.cons (.cS ("wrong" : Str)) (.nil)))) (.nil)) (.nil)) (.seq (.ret (.tup (.cons (.cS ("refused" : Str)) (.cons (.idx (.lst false (.cons (.cS ("tree" : Str)) (.cons (.cS ("text" : Str)) (.cons (.cS ("name" : Str)) (.cons (.cS ("class" : Str)) (.cons (.cS ("run" : Str)) (.cons (.cS ("codes" : Str)) (.nil)))))))) (.met false .index (.var 1) (.cons (.cB true) (.nil)))) (.nil))))) (.nil))))) }
def f_law_row_of_codes : Fn := { name := ("_law_row_of_codes" : Str), ps := [("script" : Str), ("town" : Str), ("many" : Str), ("blocks" : Str)], N := [("script" : Str), ("town" : Str), ("many" : Str), ("blocks" : Str), ("found" : Str), ("k" : Str), ("far" : Str), ("some" : Str), ("inner" : Str)], body := .seq (.asg 4 (.lst true (.nil))) (.seq (.fr 5 (.rng (.var 2)) (.seq (.asg 6 (.call 12 (.cons (.var 0) (.cons (.var 1) (.cons (.cI 3) (.nil)))))) (.seq (.ife (.cmp .Eq (.call 12 (.cons (.var 0) (.cons (.var 1) (.cons (.cI 2) (.nil))))) (.cI 0)) (.seq (.asg 6 (.bop false .Sub (.bop false .Sub (.call 12 (.cons (.var 0) (.cons (.var 1) (.cons (.bop false .Add (.var 2) (.cI 2)) (.nil))))) (.var 5)) (.cI 1))) (.nil)) (.nil)) (.seq (.asg 7 (.lst false (.cons (.tup (.cons (.cS ("push" : Str)) (.cons (.tup (.cons (.cS ("number" : Str)) (.cons (.var 5) (.nil)))) (.nil)))) (.cons (.tup (.cons (.cS ("push" : Str)) (.cons (.tup (.cons (.cS ("yes" : Str)) (.nil))) (.nil)))) (.cons (.tup (.cons (.cS ("self" : Str)) (.nil))) (.cons (.tup (.cons (.cS ("slot" : Str)) (.cons (.cS ("p" : Str)) (.nil)))) (.cons (.tup (.cons (.cS ("push" : Str)) (.cons (.tup (.cons (.cS ("nil" : Str)) (.nil))) (.nil)))) (.nil)))))))) (.seq (.asg 7 (.bop false .Add (.var 7) (.lst false (.cons (.tup (.cons (.cS ("read" : Str)) (.cons (.call 12 (.cons (.var 0) (.cons (.var 1) (.cons (.cI 2) (.nil))))) (.cons (.call 12 (.cons (.var 0) (.cons (.var 1) (.cons (.cI 2) (.nil))))) (.nil))))) (.cons (.tup (.cons (.cS ("store" : Str)) (.cons (.cS ("p" : Str)) (.nil)))) (.cons (.tup (.cons (.cS ("drop" : Str)) (.nil))) (.nil))))))) (.seq (.asg 7 (.bop false .Add (.var 7) (.lst false (.cons (.tup (.cons (.cS ("write" : Str)) (.cons (.cI 0) (.cons (.call 12 (.cons (.var 0) (.cons (.var 1) (.cons (.cI 2) (.nil))))) (.nil))))) (.cons (.tup (.cons (.cS ("turn" : Str)) (.nil))) (.cons (.tup (.cons (.cS ("jump" : Str)) (.cons (.var 6) (.nil)))) (.cons (.tup (.cons (.cS ("choose" : Str)) (.cons (.var 6) (.cons (.cS ("then:" : Str)) (.nil))))) (.nil)))))))) (.seq (.asg 7 (.bop false .Add (.var 7) (.lst false (.cons (.tup (.cons (.cS ("send" : Str)) (.cons (.cS ("a" : Str)) (.nil)))) (.cons (.tup (.cons (.cS ("send" : Str)) (.cons (.cS ("+" : Str)) (.nil)))) (.cons (.tup (.cons (.cS ("send" : Str)) (.cons (.cS ("a:b:" : Str)) (.nil)))) (.cons (.tup (.cons (.cS ("super" : Str)) (.cons (.cS ("k:" : Str)) (.nil)))) (.cons (.tup (.cons (.cS ("drop" : Str)) (.nil))) (.cons (.tup (.cons (.cS ("give" : Str)) (.nil))) (.nil)))))))))) (.seq (.ife (.tru (.var 3)) (.seq (.asg 8 (.call 15 (.cons (.var 0) (.cons (.var 1) (.cons (.call 12 (.cons (.var 0) (.cons (.var 1) (.cons (.cI 3) (.nil))))) (.cons (.cB false) (.nil))))))) (.seq (.asg 7 (.bop false .Add (.var 7) (.lst false (.cons (.tup (.cons (.cS ("block" : Str)) (.cons (.tup (.cons (.cS ("block" : Str)) (.cons (.tup (.cons (.cS ("x" : Str)) (.nil))) (.cons (.tup (.nil)) (.cons (.tup (.nil)) (.nil)))))) (.cons (.bop false .Add (.var 8) (.tup (.cons (.tup (.cons (.cS ("push" : Str)) (.cons (.tup (.cons (.cS ("nil" : Str)) (.nil))) (.nil)))) (.cons (.tup (.cons (.cS ("give" : Str)) (.nil))) (.nil))))) (.nil))))) (.nil))))) (.nil))) (.nil)) (.seq (.exp (.met false .append (.var 4) (.cons (.call 13 (.cons (.var 0) (.cons (.var 1) (.cons (.bop false .Add (.var 7) (.bop false .Mult (.lst false (.cons (.tup (.cons (.cS ("back" : Str)) (.nil))) (.nil))) (.call 12 (.cons (.var 0) (.cons (.var 1) (.cons (.cI 2) (.nil))))))) (.nil))))) (.nil)))) (.nil)))))))))) (.seq (.ret (.blt false .tuple (.cons (.var 4) (.nil)))) (.nil))) }
def f_law_wants : Fn := { name := ("_law_wants" : Str), ps := [("code" : Str)], N := [("code" : Str), ("word" : Str)], body := .seq (.asg 1 (.idx (.var 0) (.cI 0))) (.seq (.ife (.cmp .In (.var 1) (.tup (.cons (.cS ("send" : Str)) (.cons (.cS ("super" : Str)) (.nil))))) (.seq (.ret (.tup (.cons (.dgt (.dlt (.kv (.cS ("a" : Str)) (.cI 1) (.kv (.cS ("+" : Str)) (.cI 2) (.kv (.cS ("a:b:" : Str)) (.cI 3) (.kv (.cS ("k:" : Str)) (.cI 2) (.nil)))))) (.idx (.var 0) (.cI 1))) (.cons (.cI 1) (.nil))))) (.nil)) (.nil)) (.seq (.ife (.cmp .In (.var 1) (.tup (.cons (.cS ("push" : Str)) (.cons (.cS ("self" : Str)) (.cons (.cS ("read" : Str)) (.cons (.cS ("slot" : Str)) (.cons (.cS ("block" : Str)) (.nil)))))))) (.seq (.ret (.tup (.cons (.cI 0) (.cons (.cI 1) (.nil))))) (.nil)) (.nil)) (.seq (.ife (.cmp .In (.var 1) (.tup (.cons (.cS ("write" : Str)) (.cons (.cS ("store" : Str)) (.nil))))) (.seq (.ret (.tup (.cons (.cI 1) (.cons (.cI 1) (.nil))))) (.nil)) (.nil)) (.seq (.ret (.ite (.cmp .In (.var 1) (.tup (.cons (.cS ("jump" : Str)) (.cons (.cS ("turn" : Str)) (.nil))))) (.tup (.cons (.cI 0) (.cons (.cI 0) (.nil)))) (.tup (.cons (.cI 1) (.cons (.cI 0) (.nil)))))) (.nil))))) }
def f_law_bad_code : Fn := { name := ("_law_bad_code" : Str), ps := [("code" : Str), ("sizes" : Str), ("is_block" : Str)], N := [("code" : Str), ("sizes" : Str), ("is_block" : Str)], body := .seq (.ife (.cmp .In (.idx (.var 0) (.cI 0)) (.tup (.cons (.cS ("read" : Str)) (.cons (.cS ("write" : Str)) (.nil))))) (.seq (.ret (.con .Or (.nt (.chn .LtE .Lt (.cI 0) (.idx (.var 0) (.cI 1)) (.blt false .len (.cons (.var 1) (.nil))))) (.one (.nt (.chn .LtE .Lt (.cI 0) (.idx (.var 0) (.cI 2)) (.idx (.var 1) (.idx (.var 0) (.cI 1)))))))) (.nil)) (.nil)) (.seq (.ife (.cmp .Eq (.idx (.var 0) (.cI 0)) (.cS ("block" : Str))) (.seq (.ret (.cmp .Is (.call 18 (.cons (.idx (.var 0) (.cI 2)) (.cons (.bop false .Add (.lst false (.cons (.cI 1) (.nil))) (.var 1)) (.cons (.cB true) (.nil))))) (.cN))) (.nil)) (.nil)) (.seq (.ret (.con .And (.cmp .Eq (.idx (.var 0) (.cI 0)) (.cS ("back" : Str))) (.one (.nt (.var 2))))) (.nil))) }
def f_law_depths : Fn := { name := ("_law_depths" : Str), ps := [("codes" : Str), ("sizes" : Str), ("is_block" : Str)], N := [("codes" : Str), ("sizes" : Str), ("is_block" : Str), ("spots" : Str), ("k" : Str), ("at" : Str), ("deep" : Str), ("one" : Str), ("code" : Str), ("want" : Str), ("leave" : Str), ("later" : Str), ("table" : Str)], body := .seq (.asg 3 (.lst false (.cons (.tup (.cons (.cI 0) (.cons (.cI 0) (.nil)))) (.nil)))) (.seq (.asg 4 (.cI 0)) (.seq (.whl (.cmp .Lt (.var 4) (.blt false .len (.cons (.var 3) (.nil)))) (.seq (.unp [5, 6] (.idx (.var 3) (.var 4))) (.seq (.asg 4 (.bop false .Add (.var 4) (.cI 1))) (.seq (.ife (.con .Or (.nt (.chn .LtE .Lt (.cI 0) (.var 5) (.blt false .len (.cons (.var 0) (.nil))))) (.one (.cmp .NotEq (.lc false [(("one" : Str), 7)] 7 (.itr (.var 3)) (.cmp .Eq (.idx (.var 7) (.cI 0)) (.var 5)) (.var 7)) (.lst false (.cons (.tup (.cons (.var 5) (.cons (.var 6) (.nil)))) (.nil)))))) (.seq (.ret (.cN)) (.nil)) (.nil)) (.seq (.asg 8 (.idx (.var 0) (.var 5))) (.seq (.unp [9, 10] (.call 16 (.cons (.var 8) (.nil)))) (.seq (.ife (.con .Or (.cmp .Lt (.var 6) (.var 9)) (.one (.tru (.call 17 (.cons (.var 8) (.cons (.var 1) (.cons (.var 2) (.nil)))))))) (.seq (.ret (.cN)) (.nil)) (.nil)) (.seq (.asg 11 (.lst true (.nil))) (.seq (.ife (.cmp .NotIn (.idx (.var 8) (.cI 0)) (.tup (.cons (.cS ("give" : Str)) (.cons (.cS ("back" : Str)) (.cons (.cS ("jump" : Str)) (.nil)))))) (.seq (.exp (.met false .append (.var 11) (.cons (.tup (.cons (.bop false .Add (.var 5) (.cI 1)) (.cons (.bop false .Add (.bop false .Sub (.var 6) (.var 9)) (.var 10)) (.nil)))) (.nil)))) (.nil)) (.nil)) (.seq (.ife (.con .Or (.cmp .Eq (.idx (.var 8) (.cI 0)) (.cS ("jump" : Str))) (.one (.con .And (.cmp .Eq (.idx (.var 8) (.cI 0)) (.cS ("choose" : Str))) (.one (.cmp .NotEq (.idx (.var 8) (.cI 1)) (.cI 0)))))) (.seq (.exp (.met false .append (.var 11) (.cons (.tup (.cons (.bop false .Add (.bop false .Add (.var 5) (.cI 1)) (.idx (.var 8) (.cI 1))) (.cons (.bop false .Add (.bop false .Sub (.var 6) (.var 9)) (.var 10)) (.nil)))) (.nil)))) (.nil)) (.nil)) (.seq (.asg 3 (.bop false .Add (.var 3) (.lc false [(("one" : Str), 7)] 7 (.itr (.var 11)) (.cmp .NotIn (.var 7) (.var 3)) (.var 7)))) (.nil)))))))))))) (.seq (.asg 12 (.bop true .Mult (.lst false (.cons (.cN) (.nil))) (.blt false .len (.cons (.var 0) (.nil))))) (.seq (.frT [5, 6] (.itr (.var 3)) (.seq (.stI (.var 12) (.var 5) (.var 6)) (.nil))) (.seq (.ret (.frz (.var 12))) (.nil)))))) }
def f_law_told : Fn := { name := ("_law_told" : Str), ps := [("codes" : Str), ("sizes" : Str), ("is_block" : Str)], N := [("codes" : Str), ("sizes" : Str), ("is_block" : Str), ("held" : Str), ("found" : Str), ("e" : Str)], body := .seq (.asg 3 (.cN)) (.seq (.asg 4 (.cN)) (.seq (.tryK (.seq (.asg 4 (.call 9 (.cons (.var 0) (.cons (.var 1) (.cons (.var 2) (.nil)))))) (.nil)) ("HouseError" : Str) [(("BadCodes" : Str), true)] 5 3) (.seq (.ret (.ite (.cmp .Is (.var 3) (.cN)) (.var 4) (.call 14 (.cons (.var 3) (.nil))))) (.nil)))) }
def f_law : Fn := { name := ("law" : Str), ps := [("script" : Str)], N := [("script" : Str), ("town" : Str), ("codes" : Str), ("sizes" : Str), ("is_block" : Str), ("due" : Str), ("given" : Str), ("found" : Str)], body := .seq (.asg 1 (.lst true (.nil))) (.seq (.asg 2 (.call 15 (.cons (.var 0) (.cons (.var 1) (.cons (.call 12 (.cons (.var 0) (.cons (.var 1) (.cons (.cI 10) (.nil))))) (.cons (.cB true) (.nil))))))) (.seq (.asg 2 (.bop false .Add (.var 2) (.call 13 (.cons (.var 0) (.cons (.var 1) (.cons (.lst false (.cons (.tup (.nil)) (.cons (.tup (.cons (.tup (.cons (.cS ("give" : Str)) (.nil))) (.nil))) (.cons (.tup (.cons (.tup (.cons (.cS ("push" : Str)) (.cons (.tup (.cons (.cS ("no" : Str)) (.nil))) (.nil)))) (.cons (.tup (.cons (.cS ("give" : Str)) (.nil))) (.nil)))) (.cons (.tup (.cons (.tup (.cons (.cS ("self" : Str)) (.nil))) (.cons (.tup (.cons (.cS ("give" : Str)) (.nil))) (.nil)))) (.nil)))))) (.nil))))))) (.seq (.asg 3 (.call 13 (.cons (.var 0) (.cons (.var 1) (.cons (.lst false (.cons (.lst false (.cons (.cI 2) (.cons (.cI 2) (.nil)))) (.cons (.lst false (.cons (.cI 2) (.cons (.cI 2) (.nil)))) (.cons (.lst false (.cons (.cI 2) (.nil))) (.cons (.lst false (.cons (.cI 1) (.cons (.cI 2) (.nil)))) (.cons (.lst false (.nil)) (.nil))))))) (.nil)))))) (.seq (.asg 4 (.cmp .Eq (.call 12 (.cons (.var 0) (.cons (.var 1) (.cons (.cI 2) (.nil))))) (.cI 0))) (.seq (.asg 5 (.call 18 (.cons (.var 2) (.cons (.var 3) (.cons (.var 4) (.nil)))))) (.seq (.asg 6 (.blt false .list (.cons (.var 3) (.nil)))) (.seq (.asg 7 (.call 19 (.cons (.var 2) (.cons (.var 6) (.cons (.var 4) (.nil)))))) (.seq (.ret (.con .And (.cmp .Eq (.var 6) (.var 3)) (.one (.cmp .Eq (.var 7) (.ite (.cmp .Is (.var 5) (.cN)) (.tup (.cons (.cS ("refused" : Str)) (.cons (.cS ("codes" : Str)) (.nil)))) (.var 5)))))) (.nil))))))))) }
def T : Tab := { fns := [f_is_worded, f_is_name, f_words_of, f_arity_of, f_taken_by, f_left_by, f_goals_of, f_look_code, f_depths, f_look_codes, f_law_cell, f_law_mix, f_law_draw, f_law_pick, f_law_refusal, f_law_row_of_codes, f_law_wants, f_law_bad_code, f_law_depths, f_law_told, f_law], cst := [(("SMALL" : Str), .str ("abcdefghijklmnopqrstuvwxyz" : Str)), (("GREAT" : Str), .str ("ABCDEFGHIJKLMNOPQRSTUVWXYZ" : Str)), (("FIGURES" : Str), .str ("0123456789" : Str)), (("SIGNS" : Str), .str ("+-*<=" : Str)), (("KEPT" : Str), .cst [.str ("self" : Str), .str ("super" : Str), .str ("nil" : Str), .str ("yes" : Str), .str ("no" : Str)]), (("MOST_SIGNS" : Str), .int 12), (("MOST_WORDS" : Str), .int 3)], blt := [("ValueError" : Str), ("all" : Str), ("isinstance" : Str), ("len" : Str), ("list" : Str), ("range" : Str), ("tuple" : Str)], exc := [("BadCodes" : Str)], dct := [(("TAKEN" : Str), [(("push" : Str), .inl 0), (("self" : Str), .inl 0), (("read" : Str), .inl 0), (("slot" : Str), .inl 0), (("block" : Str), .inl 0), (("write" : Str), .inl 1), (("store" : Str), .inl 1), (("drop" : Str), .inl 1), (("jump" : Str), .inl 0)]), (("MORE_TAKEN" : Str), [(("choose" : Str), .inl 1), (("turn" : Str), .inl 0), (("give" : Str), .inl 1), (("back" : Str), .inl 1)]), (("LEFT" : Str), [(("push" : Str), .inl 1), (("self" : Str), .inl 1), (("read" : Str), .inl 1), (("slot" : Str), .inl 1), (("block" : Str), .inl 1), (("write" : Str), .inl 1), (("store" : Str), .inl 1), (("drop" : Str), .inl 0), (("jump" : Str), .inl 0)]), (("MORE_LEFT" : Str), [(("choose" : Str), .inl 0), (("turn" : Str), .inl 0), (("give" : Str), .inl 0), (("back" : Str), .inl 0)])], cls := [("ValueError" : Str), ("BadCodes" : Str), ("BadRun" : Str), ("BadClass" : Str), ("BadName" : Str), ("BadText" : Str), ("BadTree" : Str), ("HouseError" : Str)], sub := [((("BadCodes" : Str), ("ValueError" : Str)), true), ((("BadCodes" : Str), ("BadCodes" : Str)), true), ((("BadCodes" : Str), ("BadRun" : Str)), false), ((("BadCodes" : Str), ("BadClass" : Str)), false), ((("BadCodes" : Str), ("BadName" : Str)), false), ((("BadCodes" : Str), ("BadText" : Str)), false), ((("BadCodes" : Str), ("BadTree" : Str)), false), ((("BadCodes" : Str), ("HouseError" : Str)), true)], nof := [], mth := [], mks := [] }
/-- the text by places -/
def top (i : Nat) : Stmt := PySem.Challenge.pw_thinghall_k41_whole_looked_at.main.body.getD i (.Pass ⟨0, 0, 0, 0⟩)
def inCls : Stmt → Nat → Stmt
  | .ClassDef _ _ _ body .., j => body.getD j (.Pass ⟨0, 0, 0, 0⟩)
  | s, _ => s
abbrev s_is_worded : Stmt := top 16
abbrev s_is_name : Stmt := top 17
abbrev s_words_of : Stmt := top 18
abbrev s_arity_of : Stmt := top 19
abbrev s_taken_by : Stmt := top 25
abbrev s_left_by : Stmt := top 26
abbrev s_goals_of : Stmt := top 27
abbrev s_look_code : Stmt := top 28
abbrev s_depths : Stmt := top 29
abbrev s_look_codes : Stmt := top 30
abbrev s_law_cell : Stmt := top 32
abbrev s_law_mix : Stmt := top 33
abbrev s_law_draw : Stmt := top 34
abbrev s_law_pick : Stmt := top 35
abbrev s_law_refusal : Stmt := top 36
abbrev s_law_row_of_codes : Stmt := top 37
abbrev s_law_wants : Stmt := top 38
abbrev s_law_bad_code : Stmt := top 39
abbrev s_law_depths : Stmt := top 40
abbrev s_law_told : Stmt := top 41
abbrev s_law : Stmt := top 42
theorem ck_is_worded : chkS T f_is_worded.N (defScope s_is_worded) f_is_worded.body (defBody s_is_worded) = true := by decide +kernel
theorem sc_is_worded : FnScope f_is_worded.N f_is_worded.ps (defScope s_is_worded) := ⟨rfl, rfl, rfl, by decide +kernel, rfl, by decide +kernel, by decide +kernel⟩
theorem ck_is_name : chkS T f_is_name.N (defScope s_is_name) f_is_name.body (defBody s_is_name) = true := by decide +kernel
theorem sc_is_name : FnScope f_is_name.N f_is_name.ps (defScope s_is_name) := ⟨rfl, rfl, rfl, by decide +kernel, rfl, by decide +kernel, by decide +kernel⟩
theorem ck_words_of : chkS T f_words_of.N (defScope s_words_of) f_words_of.body (defBody s_words_of) = true := by decide +kernel
theorem sc_words_of : FnScope f_words_of.N f_words_of.ps (defScope s_words_of) := ⟨rfl, rfl, rfl, by decide +kernel, rfl, by decide +kernel, by decide +kernel⟩
theorem ck_arity_of : chkS T f_arity_of.N (defScope s_arity_of) f_arity_of.body (defBody s_arity_of) = true := by decide +kernel
theorem sc_arity_of : FnScope f_arity_of.N f_arity_of.ps (defScope s_arity_of) := ⟨rfl, rfl, rfl, by decide +kernel, rfl, by decide +kernel, by decide +kernel⟩
theorem ck_taken_by : chkS T f_taken_by.N (defScope s_taken_by) f_taken_by.body (defBody s_taken_by) = true := by decide +kernel
theorem sc_taken_by : FnScope f_taken_by.N f_taken_by.ps (defScope s_taken_by) := ⟨rfl, rfl, rfl, by decide +kernel, rfl, by decide +kernel, by decide +kernel⟩
theorem ck_left_by : chkS T f_left_by.N (defScope s_left_by) f_left_by.body (defBody s_left_by) = true := by decide +kernel
theorem sc_left_by : FnScope f_left_by.N f_left_by.ps (defScope s_left_by) := ⟨rfl, rfl, rfl, by decide +kernel, rfl, by decide +kernel, by decide +kernel⟩
theorem ck_goals_of : chkS T f_goals_of.N (defScope s_goals_of) f_goals_of.body (defBody s_goals_of) = true := by decide +kernel
theorem sc_goals_of : FnScope f_goals_of.N f_goals_of.ps (defScope s_goals_of) := ⟨rfl, rfl, rfl, by decide +kernel, rfl, by decide +kernel, by decide +kernel⟩
theorem ck_look_code : chkS T f_look_code.N (defScope s_look_code) f_look_code.body (defBody s_look_code) = true := by decide +kernel
theorem sc_look_code : FnScope f_look_code.N f_look_code.ps (defScope s_look_code) := ⟨rfl, rfl, rfl, by decide +kernel, rfl, by decide +kernel, by decide +kernel⟩
theorem ck_depths : chkS T f_depths.N (defScope s_depths) f_depths.body (defBody s_depths) = true := by decide +kernel
theorem sc_depths : FnScope f_depths.N f_depths.ps (defScope s_depths) := ⟨rfl, rfl, rfl, by decide +kernel, rfl, by decide +kernel, by decide +kernel⟩
theorem ck_look_codes : chkS T f_look_codes.N (defScope s_look_codes) f_look_codes.body (defBody s_look_codes) = true := by decide +kernel
theorem sc_look_codes : FnScope f_look_codes.N f_look_codes.ps (defScope s_look_codes) := ⟨rfl, rfl, rfl, by decide +kernel, rfl, by decide +kernel, by decide +kernel⟩
theorem ck_law_cell : chkS T f_law_cell.N (defScope s_law_cell) f_law_cell.body (defBody s_law_cell) = true := by decide +kernel
theorem sc_law_cell : FnScope f_law_cell.N f_law_cell.ps (defScope s_law_cell) := ⟨rfl, rfl, rfl, by decide +kernel, rfl, by decide +kernel, by decide +kernel⟩
theorem ck_law_mix : chkS T f_law_mix.N (defScope s_law_mix) f_law_mix.body (defBody s_law_mix) = true := by decide +kernel
theorem sc_law_mix : FnScope f_law_mix.N f_law_mix.ps (defScope s_law_mix) := ⟨rfl, rfl, rfl, by decide +kernel, rfl, by decide +kernel, by decide +kernel⟩
theorem ck_law_draw : chkS T f_law_draw.N (defScope s_law_draw) f_law_draw.body (defBody s_law_draw) = true := by decide +kernel
theorem sc_law_draw : FnScope f_law_draw.N f_law_draw.ps (defScope s_law_draw) := ⟨rfl, rfl, rfl, by decide +kernel, rfl, by decide +kernel, by decide +kernel⟩
theorem ck_law_pick : chkS T f_law_pick.N (defScope s_law_pick) f_law_pick.body (defBody s_law_pick) = true := by decide +kernel
theorem sc_law_pick : FnScope f_law_pick.N f_law_pick.ps (defScope s_law_pick) := ⟨rfl, rfl, rfl, by decide +kernel, rfl, by decide +kernel, by decide +kernel⟩
theorem ck_law_refusal : chkS T f_law_refusal.N (defScope s_law_refusal) f_law_refusal.body (defBody s_law_refusal) = true := by decide +kernel
theorem sc_law_refusal : FnScope f_law_refusal.N f_law_refusal.ps (defScope s_law_refusal) := ⟨rfl, rfl, rfl, by decide +kernel, rfl, by decide +kernel, by decide +kernel⟩
theorem ck_law_row_of_codes : chkS T f_law_row_of_codes.N (defScope s_law_row_of_codes) f_law_row_of_codes.body (defBody s_law_row_of_codes) = true := by decide +kernel
theorem sc_law_row_of_codes : FnScope f_law_row_of_codes.N f_law_row_of_codes.ps (defScope s_law_row_of_codes) := ⟨rfl, rfl, rfl, by decide +kernel, rfl, by decide +kernel, by decide +kernel⟩
theorem ck_law_wants : chkS T f_law_wants.N (defScope s_law_wants) f_law_wants.body (defBody s_law_wants) = true := by decide +kernel
theorem sc_law_wants : FnScope f_law_wants.N f_law_wants.ps (defScope s_law_wants) := ⟨rfl, rfl, rfl, by decide +kernel, rfl, by decide +kernel, by decide +kernel⟩
theorem ck_law_bad_code : chkS T f_law_bad_code.N (defScope s_law_bad_code) f_law_bad_code.body (defBody s_law_bad_code) = true := by decide +kernel
theorem sc_law_bad_code : FnScope f_law_bad_code.N f_law_bad_code.ps (defScope s_law_bad_code) := ⟨rfl, rfl, rfl, by decide +kernel, rfl, by decide +kernel, by decide +kernel⟩
theorem ck_law_depths : chkS T f_law_depths.N (defScope s_law_depths) f_law_depths.body (defBody s_law_depths) = true := by decide +kernel
theorem sc_law_depths : FnScope f_law_depths.N f_law_depths.ps (defScope s_law_depths) := ⟨rfl, rfl, rfl, by decide +kernel, rfl, by decide +kernel, by decide +kernel⟩
theorem ck_law_told : chkS T f_law_told.N (defScope s_law_told) f_law_told.body (defBody s_law_told) = true := by decide +kernel
theorem sc_law_told : FnScope f_law_told.N f_law_told.ps (defScope s_law_told) := ⟨rfl, rfl, rfl, by decide +kernel, rfl, by decide +kernel, by decide +kernel⟩
theorem ck_law : chkS T f_law.N (defScope s_law) f_law.body (defBody s_law) = true := by decide +kernel
theorem sc_law : FnScope f_law.N f_law.ps (defScope s_law) := ⟨rfl, rfl, rfl, by decide +kernel, rfl, by decide +kernel, by decide +kernel⟩
end K41

namespace K41
open PySem L2 ML
def smallS : Str := "abcdefghijklmnopqrstuvwxyz"
def greatS : Str := "ABCDEFGHIJKLMNOPQRSTUVWXYZ"
def figS : Str := "0123456789"
def signS : Str := "+-*<="
def kept : List Str := ["self", "super", "nil", "yes", "no"]
theorem g0 : (gvs T)[0]? = some (.str smallS) := rfl
theorem g1 : (gvs T)[1]? = some (.str greatS) := rfl
theorem g2 : (gvs T)[2]? = some (.str figS) := rfl
theorem g3 : (gvs T)[3]? = some (.str signS) := rfl
theorem g4 : (gvs T)[4]? = some (.cst (kept.map D.str)) := rfl
theorem g5 : (gvs T)[5]? = some (.int 12) := rfl
theorem g6 : (gvs T)[6]? = some (.int 3) := rfl
/-! ### is_worded -/
def inAll (s : Str) : Bool := s.cps.toList.all fun c => subIn (oneStr c) (smallS ++ greatS ++ figS)
def isWorded (s f : Str) : Bool := decide (1 ≤ s.length) && decide (s.length ≤ 12) && subIn (oneStr (s.cps.toList.headD 0)) f && inAll s
theorem len_all : (smallS ++ greatS).length + figS.length ≤ 1000 ∧ smallS.length + greatS.length ≤ 1000 := by decide +kernel
theorem turn_ups {env : ML.Env} {vs : List Nat} {i : Nat} {ft : ML.Env → M Bool} {fe : ML.Env → M D} {x : D} {S : Store} {d : D} (h1 : ft ((wipeE env vs).set i (some x)) S = .ok true S) (h2 : Ups (fe ((wipeE env vs).set i (some x)) S) S d) : Ups (turnC env vs i ft fe x S) S (some d) := by
  obtain ⟨u, e, G⟩ := h2
  refine ⟨u, ?_, G⟩
  unfold turnC M.bind
  rw [h1]
  show ((fe _ S).andThen _) = _
  rw [e]
  rfl
theorem first_ix {s : Str} (h : 1 ≤ s.length) : atI s.cps.toList 0 = some (s.cps.toList.headD 0) := by
  have hl := len_cps s
  cases e : s.cps.toList with
  | nil => rw [e] at hl; simp at hl; omega
  | cons a r => exact atI_nat' (k := 0) rfl
theorem dle1 {s : Str} : decide ((1 : Int) ≤ (s.length : Int)) = decide (1 ≤ s.length) := by congr 1; exact propext (by omega)
theorem dle12 {s : Str} : decide ((s.length : Int) ≤ 12) = decide (s.length ≤ 12) := by congr 1; exact propext (by omega)
theorem signs_len {s : Str} (hl : s.length ≤ 1000) : (signs s).length < nMax := by unfold signs; rw [List.length_map, len_cps]; exact Nat.lt_of_le_of_lt hl (by decide)
theorem src_str {S : Store} {s : Str} (hl : s.length ≤ 1000) : srcOf S (.str s) = some (.vals (signs s)) := if_pos (Nat.le_trans hl (by decide))
def asStr (f : Str → Bool) : D → D
  | .str z => .bl (f z)
  | _ => .non
theorem signs_map {f : Str → Bool} {s : Str} : (signs s).map (asStr f) = s.cps.toList.map fun c => .bl (f (oneStr c)) := by
  unfold signs
  rw [List.map_map]
  rfl
theorem ok_is_worded {n : Nat} {s f : Str} {S : Store} (hS : S.WF) (hl : s.length ≤ 1000) : Ups (sem T (n + 1) 0 [.str s, .str f] S) S (.bl (isWorded s f)) := by
  refine .of ?_
  show wpr (endF (evS (sem T n) (gvs T) f_is_worded.body [some (.str s), some (.str f), none] S)) _ _
  rw [wrs_end]
  simp only [f_is_worded, wrs_seq, wS_ife, wS_ret, wS_nil, wT_or, wT_nt, wT_chn, wT_one, wT_cmp, wE_cI, wE_cB, wE_blt, wE_var, wE_glb, wE_idx, wA_cons, wA_nil, b_len_str hl, c_le, ix_str hl, c_notin_str, wpO, wpF, wE_lc, wI_itr, g5,
    List.getElem?_cons_zero, List.getElem?_cons_succ, Option.join_some, dle1, dle12, src_str hl]
  by_cases h1 : 1 ≤ s.length
  · rw [decide_eq_true h1, first_ix h1]
    by_cases h2 : s.length ≤ 12
    · rw [decide_eq_true h2]
      simp only [Bool.not_true, Bool.false_eq_true, if_false, if_true, Option.map_some, c_notin_str]
      cases h3 : subIn (oneStr (s.cps.toList.headD 0)) f with
      | false =>
        simp only [Bool.not_false, if_true]
        exact ⟨congrArg D.bl (by unfold isWorded; rw [h3, Bool.and_false, Bool.false_and]), .refl hS⟩
      | true =>
        simp only [Bool.not_true, Bool.false_eq_true, if_false]
        refine (compM_map (asStr fun z => subIn z (smallS ++ greatS ++ figS)) hS (signs_len hl) fun x hx S' hS' => ?_).wpr fun S1 G1 => ?_
        · unfold signs at hx
          obtain ⟨c, _, rfl⟩ := List.mem_map.mp hx
          refine turn_ups rfl (.of ?_)
          simp only [wE_cmp, wE_var, wE_bop, wE_glb, List.map, wipeE, List.set, List.getElem?_cons_zero, List.getElem?_cons_succ, Option.join_some, wpO, wpF, g0, g1, g2, add_str len_all.1, add_str len_all.2, c_in_str]
          exact ⟨rfl, .refl hS'⟩
        · rw [signs_map, b_all]
          exact ⟨congrArg D.bl (by unfold isWorded; rw [decide_eq_true h1, decide_eq_true h2, h3]; rfl), G1⟩
    · rw [decide_eq_false h2]
      simp only [Bool.not_false, if_true]
      exact ⟨by simp [isWorded, h1, h2], .refl hS⟩
  · rw [decide_eq_false h1]
    simp only [Bool.false_eq_true, if_false, Bool.not_false, if_true]
    exact ⟨by simp [isWorded, h1], .refl hS⟩
/-! ### is_name, is_class_name -/
def isName (s : Str) : Bool := isWorded s smallS && !decide (s ∈ kept)
theorem ok_is_name {n : Nat} {s : Str} {S : Store} (hS : S.WF) (hl : s.length ≤ 1000) : Ups (sem T (n + 2) 1 [.str s] S) S (.bl (isName s)) := by
  refine .of ?_
  show wpr (endF (evS (sem T (n + 1)) (gvs T) f_is_name.body [some (.str s)] S)) _ _
  rw [wrs_end]
  simp only [f_is_name, wrs_seq, wS_ret, wS_nil, wE_and, wE_one, wE_call, wE_var, wE_glb, wE_cmp, wA_cons, wA_nil, wpO, g0, g4, List.getElem?_cons_zero, List.getElem?_cons_succ, Option.join_some]
  refine (ok_is_worded hS hl).wpr fun S1 G1 => ?_
  rw [t_bl]
  simp only [c_notin_txt (show seqOf _ (D.cst (kept.map D.str)) = some (kept.map D.str) from rfl)]
  cases h : isWorded s smallS with
  | true => exact ⟨by simp [isName, h], G1⟩
  | false => exact ⟨by simp [isName, h], G1⟩
end K41
namespace K41
open PySem L2 ML
/-! ### words_of -/
/-- the pieces between colons -/
def pcs (l : List Nat) : List (List Nat) := TL.spl [58] 0 [] l
theorem pcs_none {l : List Nat} (h : 58 ∉ l) : pcs l = [l] := TL.spl_last1 h
theorem pcs_cons {p r : List Nat} (h : 58 ∉ p) : pcs (p ++ 58 :: r) = p :: pcs r := TL.spl_part1 h
theorem first_of {l : List Nat} (h : 58 ∈ l) : ∃ p r, l = p ++ 58 :: r ∧ 58 ∉ p := by
  induction l with
  | nil => cases h
  | cons a l ih =>
    by_cases c : a = 58
    · subst c; exact ⟨[], l, rfl, by simp⟩
    · have h' : 58 ∈ l := by
        rcases List.mem_cons.mp h with h | h
        · exact absurd h.symm c
        · exact h
      obtain ⟨p, r, e, hp⟩ := ih h'
      refine ⟨a :: p, r, by rw [e]; rfl, ?_⟩
      intro z
      rcases List.mem_cons.mp z with z | z
      · exact c z.symm
      · exact hp z
def mk (l : List Nat) : Str := ⟨l.toArray⟩
theorem tl_mk (l : List Nat) : (mk l).cps.toList = l := rfl
theorem mk_tl (s : Str) : mk s.cps.toList = s := TL.ext_tl rfl
theorem mk_len (l : List Nat) : (mk l).length = l.length := by rw [← len_cps, tl_mk]
def colS : Str := ":"
theorem col_tl : colS.cps.toList = [58] := by decide +kernel
theorem col_one : colS = oneStr 58 := by decide +kernel
theorem in_col {s : Str} : subIn colS s = decide (58 ∈ s.cps.toList) := by rw [col_one]; exact PySem.StrLaws.found_one s 58
theorem in_colm {r : List Nat} : subIn colS (mk r) = decide (58 ∈ r) := in_col.trans (by congr 1)
theorem part_col {p r : List Nat} (h : 58 ∉ p) : Txt.partition (mk (p ++ 58 :: r)) colS = (mk p, colS, mk r) := by
  rw [TL.partition_par _ _ (by show colS.cps.toList ≠ []; rw [col_tl]; simp)]
  have e : TL.par (TL.tl colS) [] (TL.tl (mk (p ++ 58 :: r))) = some (p, r) := by
    show TL.par colS.cps.toList [] (p ++ 58 :: r) = some (p, r)
    rw [col_tl]
    exact TL.par_part1 h
  rw [e]
  rfl
theorem ap_col {p : List Nat} : mk p ++ colS = mk (p ++ [58]) := TL.ext_tl (by rw [TL.tl_append]; show p ++ colS.cps.toList = p ++ [58]; rw [col_tl])
theorem col_len : colS.length = 1 := by decide +kernel
def wordD (p : List Nat) : D := .str (mk (p ++ [58]))
theorem obl {xs : List D} : obLst (some (.lst xs)) = some xs := rfl
theorem ok_words_of {n : Nat} {s : Str} {S : Store} (hS : S.WF) (hl : s.length ≤ 500) : ∃ ps r, pcs s.cps.toList = ps ++ [r] ∧ ps.length ≤ 500 ∧ (∀ p ∈ ps, p.length ≤ 500) ∧ Ups (sem T (n + 1) 2 [.str s] S) S (.lst (if r = [] then ps.map wordD else [])) := by
  have main : wpr (sem T (n + 1) 2 [.str s] S) (fun d S' => ∃ ps r, pcs s.cps.toList = ps ++ [r] ∧ ps.length ≤ 500 ∧ (∀ p ∈ ps, p.length ≤ 500) ∧ d = .lst (if r = [] then ps.map wordD else []) ∧ Gr S S') fun _ _ => False := by
    show wpr (endF (evS (sem T n) (gvs T) f_words_of.body [some (.str s), none, none, none, none] S)) _ _
    rw [wrs_end]
    simp only [f_words_of, wrs_seq, wS_asg, wS_whl, wE_lst, wA_nil, wpF, if_true, wE_var, List.set, List.getElem?_cons_zero, Option.join_some, wpO]
    refine ⟨by decide, ?_⟩
    refine wrs_while (fun k env S' => ∃ ps r w c, env = [some (.str s), some (.loc S.nx), some (.str (mk r)), w, c] ∧ pcs s.cps.toList = ps ++ pcs r ∧ ps.length + r.length ≤ 500 ∧ (∀ p ∈ ps, p.length ≤ 500) ∧ k = r.length ∧ Gr S S' ∧ S.nx < S'.nx ∧ S'.ob S.nx = some (.lst (ps.map wordD))) (m := s.length) (by show s.length < 1000; omega) ?_ ?_
    · refine ⟨[], s.cps.toList, none, none, by rw [mk_tl], rfl, by rw [len_cps]; simpa using hl, fun p hp => (by cases hp), by rw [len_cps], Gr.new hS, Nat.lt_succ_self _, Store.new_ob⟩
    · rintro k env S' ⟨ps, r, w, c, rfl, h1, h2, h2b, rfl, h3, h3n, h3o⟩
      have hr : (mk r).length ≤ 1000 := by rw [mk_len]; omega
      have e0 : (Str.ofString ":" : Str) = colS := rfl
      simp only [wT_cmp, wE_cS, wE_var, List.getElem?_cons_zero, List.getElem?_cons_succ, Option.join_some, wpO, c_in_str, e0, in_colm]
      by_cases hc : 58 ∈ r
      · rw [decide_eq_true hc, if_pos rfl]
        obtain ⟨p, r2, rfl, hp⟩ := first_of hc
        simp only [wrs_seq, wS_unp, wE_met, wE_var, wE_cS, wA_cons, wA_nil, List.getElem?_cons_zero, List.getElem?_cons_succ, Option.join_some, wpO, e0]
        refine ⟨rfl, ?_⟩
        have em : mfM false .partition (.str (mk (p ++ 58 :: r2))) [.str colS] S' = .ok (.tup [.str (mk p), .str colS, .str (mk r2)]) S' := by
          show finO false (if (colS.length == 0) = false ∧ (mk (p ++ 58 :: r2)).length ≤ nMax then some (PR.newt _) else none) S' = _
          rw [if_pos ⟨by rw [col_len]; rfl, Nat.le_trans hr (by decide)⟩, part_col hp]
          rfl
        rw [em, wpr_ok]
        simp only [tupOf]
        refine ⟨rfl, ?_⟩
        have hpl : (mk p).length + colS.length ≤ 1000 := by
          rw [mk_len, col_len]
          rw [List.length_append, List.length_cons] at h2
          omega
        simp only [setAll, List.set, wS_exp, wE_met, wE_var, wE_bop, wE_cS, wA_cons, wA_nil, List.getElem?_cons_zero, List.getElem?_cons_succ, Option.join_some, wpO, e0, add_str hpl, wpF, wS_nil]
        have ety : isTy S' Mf.append.ty (.loc S.nx) = true := by
          show (("list" : String) == "list" && (obLst (S'.ob S.nx)).isSome) = true
          rw [h3o]
          rfl
        refine ⟨ety, ?_⟩
        have ea : mfM false .append (.loc S.nx) [.str (mk p ++ colS)] S' = .ok .non (S'.set S.nx (.lst (ps.map wordD ++ [wordD p]))) := by
          show (match S'.ob S.nx with
            | some (.lst xs) => if xs.length < nMax then Rs.ok D.non (S'.set S.nx (.lst (xs ++ [D.str (mk p ++ colS)]))) else .bad
            | _ => .bad) = _
          rw [h3o]
          simp only
          rw [if_pos (by rw [List.length_map]; exact Nat.lt_of_le_of_lt (by omega) (by decide : 500 < nMax)), ap_col]
          rfl
        rw [ea, wpr_ok]
        rw [List.length_append, List.length_cons] at h2
        refine ⟨r2.length, by rw [List.length_append, List.length_cons]; omega, ps ++ [p], r2, _, _, rfl, by rw [h1, pcs_cons hp]; simp, by simp; omega, fun q hq => ?_, rfl, h3.set (Nat.le_refl _) h3n, h3n, ?_⟩
        · rcases List.mem_append.mp hq with hq | hq
          · exact h2b q hq
          · have : q = p := by simpa using hq
            rw [this]; omega
        · rw [Store.set_ob, List.map_append]
          rfl
      · rw [decide_eq_false hc, if_neg Bool.false_ne_true]
        have e1 : (Str.ofString "" : Str) = mk [] := by decide +kernel
        simp only [wS_ret, wS_nil, wE_ite, wT_cmp, wE_var, wE_cS, wE_frz, wE_lst, wA_nil, List.getElem?_cons_zero, List.getElem?_cons_succ, Option.join_some, wpO, c_eq_str, e1, h3o, obl, wpF, Bool.false_eq_true, if_false]
        rw [pcs_none hc] at h1
        by_cases hr0 : r = []
        · subst hr0
          rw [decide_eq_true rfl]
          simp only [if_true]
          exact ⟨ps, [], h1, by omega, h2b, rfl, h3.del (Nat.le_refl _)⟩
        · have hne : ¬ mk r = mk [] := fun z => hr0 (by have := congrArg (fun (x : Str) => x.cps.toList) z; exact this)
          rw [decide_eq_false hne]
          simp only [Bool.false_eq_true, if_false]
          exact ⟨by decide, ps, r, h1, by omega, h2b, by rw [if_neg hr0], h3⟩
  obtain ⟨d, S', e, ps, r, a1, a2, a3, rfl, G⟩ := wpr_elim main
  exact ⟨ps, r, a1, a2, a3, S', e, G⟩
end K41
namespace K41
open PySem L2 ML
theorem sIx_m1 {n : Nat} : HT.sIx n n (some (-1)) = n - 1 := by
  show (if (-1 : Int) < 0 then ((-1 : Int) + (n : Int)).toNat else min (-1 : Int).toNat n) = _
  rw [if_pos (by decide)]
  omega
theorem cut_word {p : List Nat} : cutS (mk (p ++ [58])) none (some (-1)) = mk p := by
  unfold cutS
  rw [sIx_m1, HT.sIx_none, tl_mk, mk_len]
  simp [mk]
theorem cutD_m1 {xs : List D} {x : D} : cutD (xs ++ [x]) none (some (-1)) = xs := by
  unfold cutD
  rw [sIx_m1, HT.sIx_none]
  simp
def arityD (s : Str) (ps : List (List Nat)) (r : List Nat) : D :=
  if isName s = true then .int 0 else
  if s.length = 1 ∧ subIn s signS = true then .int 1 else
  if r = [] ∧ 1 ≤ ps.length ∧ ps.length ≤ 3 ∧ (ps.all fun p => isName (mk p)) = true then .int ps.length else .non
theorem sl_str {S : Store} {s : Str} {lo hi : Option Int} (hl : s.length ≤ 1000) : slP S (.str s) lo hi = some (.val (.str (cutS s lo hi))) := if_pos (Nat.le_trans hl (by decide))
theorem sl_lst {S : Store} {xs : List D} {lo hi : Option Int} : slP S (.lst xs) lo hi = some (.newl (cutD xs lo hi)) := rfl
theorem src_lst {S : Store} {xs : List D} : srcOf S (.lst xs) = some (.vals xs) := rfl
theorem off_neg {e : ML.E} : isOff (.neg e) = false := rfl
theorem dI {a b : Nat} : decide ((a : Int) ≤ (b : Int)) = decide (a ≤ b) := by congr 1; exact propext (by omega)
theorem dIe {a b : Nat} : decide ((a : Int) = (b : Int)) = decide (a = b) := by congr 1; exact propext (by omega)
theorem word_map {f : Str → Bool} {ps : List (List Nat)} : (ps.map wordD).map (asStr fun z => f (cutS z none (some (-1)))) = ps.map fun p => .bl (f (mk p)) := by
  rw [List.map_map]
  refine List.map_congr_left fun p _ => ?_
  show D.bl (f (cutS (mk (p ++ [58])) none (some (-1)))) = _
  rw [cut_word]
theorem ite2 {a b : Bool} {P K : Prop} (h : ¬ (a = true ∧ b = true)) : (if a = true then (if b = true then P else K) else K) = K := by
  cases a <;> cases b <;> simp_all
theorem ok_arity_of {n : Nat} {s : Str} {S : Store} {ps : List (List Nat)} {r : List Nat} (hS : S.WF) (hl : s.length ≤ 500) (hp : pcs s.cps.toList = ps ++ [r]) : Ups (sem T (n + 3) 3 [.str s] S) S (arityD s ps r) := by
  have hl' : s.length ≤ 1000 := by omega
  refine .of ?_
  show wpr (endF (evS (sem T (n + 2)) (gvs T) f_arity_of.body [some (.str s), none, none] S)) _ _
  rw [wrs_end]
  simp only [f_arity_of, wrs_seq, wS_ife, wS_ret, wS_nil, wT_tru, wE_call, wE_var, wA_cons, wA_nil, wE_cI, wpO, List.getElem?_cons_zero, List.getElem?_cons_succ, Option.join_some]
  refine (ok_is_name hS hl').wpr fun S1 G1 => ?_
  simp only [t_bl, wpO]
  cases h1 : isName s with
  | true =>
    simp only [if_true]
    exact ⟨by simp [arityD, h1], G1⟩
  | false =>
    simp only [Bool.false_eq_true, if_false, wT_and, wT_one, wT_cmp, wE_blt, wE_var, wE_glb, wE_cI, wA_cons, wA_nil, wpO, wpF, g3, b_len_str hl', c_eq_int, c_in_str, List.getElem?_cons_zero, List.getElem?_cons_succ, Option.join_some]
    rw [show decide ((s.length : Int) = 1) = decide (s.length = 1) from dIe (b := 1)]
    by_cases hno : s.length = 1 ∧ subIn s signS = true
    · rw [decide_eq_true hno.1, hno.2]
      simp only [if_true]
      refine ⟨?_, G1⟩
      unfold arityD
      rw [if_neg (by rw [h1]; exact Bool.false_ne_true), if_pos hno]
    · rw [ite2 (by rw [decide_eq_true_eq]; exact hno)]
      simp only [wrs_seq, wS_asg, wE_call, wE_var, wA_cons, wA_nil, wpO, List.getElem?_cons_zero, List.getElem?_cons_succ, Option.join_some]
      obtain ⟨ps', r', e1, e2, e3, hu⟩ := ok_words_of (n := n + 1) (s := s) G1.wf hl
      obtain ⟨rfl, er⟩ := List.append_inj' (e1.symm.trans hp) rfl
      have er : r' = r := by simpa using er
      subst er
      refine hu.wpr fun S2 G2 => ?_
      simp only [List.set, wS_ife, wS_ret, wS_nil, wT_and, wT_one, wT_chn, wT_tru, wE_blt, wE_lc, wI_itr, wE_var, wE_glb, wE_cI, wE_cN, wA_cons, wA_nil, wpO, wpF, g6, b_len_lst, c_le, src_lst, List.getElem?_cons_zero, List.getElem?_cons_succ, Option.join_some]
      by_cases hr : r' = []
      · rw [if_pos hr, List.length_map, show decide ((1 : Int) ≤ (ps'.length : Int)) = decide (1 ≤ ps'.length) from dI (a := 1), show decide ((ps'.length : Int) ≤ 3) = decide (ps'.length ≤ 3) from dI (b := 3)]
        by_cases h3 : 1 ≤ ps'.length
        · by_cases h4 : ps'.length ≤ 3
          · rw [decide_eq_true h3, decide_eq_true h4]
            simp only [if_true]
            refine (compM_map (asStr fun z => isName (cutS z none (some (-1)))) G2.wf (by rw [List.length_map]; exact Nat.lt_of_le_of_lt e2 (by decide)) fun x hx S' hS' => ?_).wpr fun S3 G3 => ?_
            · obtain ⟨p, hp, rfl⟩ := List.mem_map.mp hx
              refine turn_ups rfl (.of ?_)
              have hlen : (mk (p ++ [58])).length ≤ 1000 := by rw [mk_len, List.length_append]; have := e3 p hp; simp; omega
              simp only [wE_call, wE_slc, wE_var, wL_off, wL_some off_neg, wE_neg, wE_cI, wA_cons, wA_nil, List.map, wipeE, List.set, List.getElem?_cons_zero, List.getElem?_cons_succ, Option.join_some, wpO, wpF, wordD, sl_str hlen]
              refine (ok_is_name hS' ?_).wpr fun S4 G4 => ⟨rfl, G4⟩
              exact Nat.le_trans (cutS_length _ _ _) hlen
            · rw [word_map (f := isName), b_all]
              simp only [t_bl]
              cases h5 : ps'.all fun p => isName (mk p) with
              | true =>
                simp only [if_true]
                refine ⟨?_, (G1.trans G2).trans G3⟩
                unfold arityD
                rw [if_neg (by rw [h1]; exact Bool.false_ne_true), if_neg hno, if_pos ⟨hr, h3, h4, h5⟩]
              | false =>
                simp only [Bool.false_eq_true, if_false]
                refine ⟨?_, (G1.trans G2).trans G3⟩
                unfold arityD
                rw [if_neg (by rw [h1]; exact Bool.false_ne_true), if_neg hno, if_neg (by rw [h5]; simp)]
          · rw [decide_eq_true h3, decide_eq_false h4]
            simp only [if_true, Bool.false_eq_true, if_false]
            refine ⟨?_, G1.trans G2⟩
            unfold arityD
            rw [if_neg (by rw [h1]; exact Bool.false_ne_true), if_neg hno, if_neg (fun z => h4 z.2.2.1)]
        · rw [decide_eq_false h3]
          simp only [Bool.false_eq_true, if_false]
          refine ⟨?_, G1.trans G2⟩
          unfold arityD
          rw [if_neg (by rw [h1]; exact Bool.false_ne_true), if_neg hno, if_neg (fun z => h3 z.2.1)]
      · rw [if_neg hr]
        simp only [List.length_nil, show decide ((1 : Int) ≤ ((0 : Nat) : Int)) = false from rfl, Bool.false_eq_true, if_false]
        refine ⟨?_, G1.trans G2⟩
        unfold arityD
        rw [if_neg (by rw [h1]; exact Bool.false_ne_true), if_neg hno, if_neg (fun z => hr z.1)]
end K41

namespace K41
open PySem L2 ML

/-! ### codes, as far as they are looked at -/
inductive Kd where
  | fin | one | jmp (f : Int) | cho (f : Int)
def Kd.goals (a : Int) : Kd → List Int
  | .fin => []
  | .one => [a + 1]
  | .jmp f => [a + 1 + f]
  | .cho f => [a + 1, a + 1 + f]
def Kd.lgoals (a : Int) : Kd → List Int
  | .fin => []
  | .one => [a + 1]
  | .jmp f => [a + 1 + f]
  | .cho f => if f = 0 then [a + 1] else [a + 1, a + 1 + f]
theorem goals_same {k : Kd} {a x : Int} : x ∈ k.lgoals a ↔ x ∈ k.goals a := by
  cases k with
  | cho f =>
    show x ∈ (if f = 0 then [a + 1] else [a + 1, a + 1 + f]) ↔ x ∈ [a + 1, a + 1 + f]
    split
    · rename_i h
      subst h
      simp
    · exact Iff.rfl
  | _ => exact Iff.rfl
theorem lgoals_nd {k : Kd} {a : Int} : (k.lgoals a).Nodup := by
  cases k with
  | cho f =>
    show (if f = 0 then [a + 1] else [a + 1, a + 1 + f]).Nodup
    split
    · simp
    · simp
      omega
  | fin => exact List.nodup_nil
  | one => simp [Kd.lgoals]
  | jmp f => simp [Kd.lgoals]
theorem goals_len {k : Kd} {a : Int} : (k.goals a).length ≤ 2 := by cases k <;> simp [Kd.goals]
structure CI where
  want : Nat
  leave : Nat
  kd : Kd
  bad : List Int → Bool → Bool
abbrev P2 := Int × Int
def CI.next (c : CI) (d : Int) : Int := d - c.want + c.leave
/-- what one comes to -/
inductive R (cs : List CI) : P2 → Prop
  | zero : R cs (0, 0)
  | step {a d : Int} {c : CI} {x : Int} : R cs (a, d) → 0 ≤ a → cs[a.toNat]? = some c → x ∈ c.kd.goals a → R cs (x, c.next d)
def Okp (cs : List CI) (sz : List Int) (ib : Bool) (p : P2) : Prop := ∃ c, 0 ≤ p.1 ∧ cs[p.1.toNat]? = some c ∧ (c.want : Int) ≤ p.2 ∧ c.bad sz ib = false
structure Good (cs : List CI) (sz : List Int) (ib : Bool) : Prop where
  ok : ∀ p, R cs p → Okp cs sz ib p
  fn : ∀ a d d', R cs (a, d) → R cs (a, d') → d = d'
/-- a closed row of places is all that one comes to -/
theorem good_of {cs : List CI} {sz : List Int} {ib : Bool} {P : P2 → Prop} (h0 : P (0, 0)) (hr : ∀ p, P p → R cs p) (ho : ∀ p, P p → Okp cs sz ib p) (hc : ∀ a d c x, P (a, d) → 0 ≤ a → cs[a.toNat]? = some c → x ∈ c.kd.goals a → P (x, c.next d)) (hf : ∀ a d d', P (a, d) → P (a, d') → d = d') :
    Good cs sz ib ∧ ∀ p, R cs p ↔ P p := by
  have all : ∀ p, R cs p → P p := fun p h => by
    induction h with
    | zero => exact h0
    | step _ h1 h2 h3 ih => exact hc _ _ _ _ ih h1 h2 h3
  exact ⟨⟨fun p h => ho p (all p h), fun a d d' h h' => hf a d d' (all _ h) (all _ h')⟩, fun p => ⟨all p, hr p⟩⟩
/-- the table of a good row -/
structure Tab (cs : List CI) (xs : List D) : Prop where
  len : xs.length = cs.length
  some : ∀ (a : Nat) (d : Int), a < cs.length → R cs ((a : Int), d) → xs[a]? = Option.some (.int d)
  none : ∀ (a : Nat), a < cs.length → (¬ ∃ d, R cs ((a : Int), d)) → xs[a]? = Option.some .non
theorem Tab.det {cs : List CI} {xs ys : List D} (h : Tab cs xs) (k : Tab cs ys) : xs = ys := by
  refine List.ext_getElem? fun i => ?_
  by_cases hi : i < cs.length
  · by_cases q : ∃ d, R cs ((i : Int), d)
    · obtain ⟨d, q⟩ := q
      rw [h.some i d hi q, k.some i d hi q]
    · rw [h.none i hi q, k.none i hi q]
  · rw [List.getElem?_eq_none (by rw [h.len]; omega), List.getElem?_eq_none (by rw [k.len]; omega)]
theorem Tab.flat {cs : List CI} {xs : List D} (h : Tab cs xs) : ∀ x ∈ xs, x = .non ∨ ∃ d, x = .int d := fun x hx => by
  obtain ⟨i, hi⟩ := List.mem_iff_getElem?.mp hx
  have hl := (List.getElem?_eq_some_iff.mp hi).1
  rw [h.len] at hl
  by_cases q : ∃ d, R cs ((i : Int), d)
  · obtain ⟨d, q⟩ := q
    rw [h.some i d hl q] at hi
    cases hi
    exact .inr ⟨d, rfl⟩
  · rw [h.none i hl q] at hi
    cases hi
    exact .inl rfl
theorem pigeon : ∀ (n : Nat) (l : List Nat), l.Nodup → (∀ x ∈ l, x < n) → l.length ≤ n
  | 0, [], _, _ => Nat.le_refl _
  | 0, x :: l, _, h => absurd (h x (List.mem_cons_self ..)) (Nat.not_lt_zero _)
  | n + 1, l, hn, h => by
    have i := pigeon n (l.erase n) (hn.erase n) fun x hx => by
      have h1 := h x (List.mem_of_mem_erase hx)
      have h2 : x ≠ n := fun z => by subst z; exact (List.Nodup.mem_erase_iff hn).mp hx |>.1 rfl
      omega
    have := List.length_erase_le (a := n) (l := l)
    by_cases hm : n ∈ l
    · have := List.length_erase_of_mem hm; omega
    · rw [List.erase_of_not_mem hm] at i; omega
open Classical in
noncomputable def goodB (cs : List CI) (sz : List Int) (ib : Bool) : Bool := if Good cs sz ib then true else false
theorem goodB_t {cs : List CI} {sz : List Int} {ib : Bool} (h : Good cs sz ib) : goodB cs sz ib = true := by unfold goodB; rw [if_pos h]
theorem goodB_f {cs : List CI} {sz : List Int} {ib : Bool} (h : ¬ Good cs sz ib) : goodB cs sz ib = false := by unfold goodB; rw [if_neg h]
/-! ### codes as data -/
def wd (s : String) : D := .str (Str.ofString s)
def rwBad (i j : Int) (sz : List Int) : Bool := !(decide (0 ≤ i) && decide (i < sz.length)) || !(decide (0 ≤ j) && decide (j < sz.getD i.toNat 0))
inductive Msg : Str → Nat → Prop
  | a : Msg (Str.ofString "a") 0
  | p : Msg (Str.ofString "+") 1
  | ab : Msg (Str.ofString "a:b:") 2
  | k : Msg (Str.ofString "k:") 1
def blkD (ds : List D) : D := .tup [wd "block", .tup [wd "block", .tup [wd "x"], .tup [], .tup []], .tup ds]
mutual
inductive CV : Nat → D → CI → Prop
  | push {n : Nat} {v : D} : CV n (.tup [wd "push", v]) ⟨0, 1, .one, fun _ _ => false⟩
  | self {n : Nat} : CV n (.tup [wd "self"]) ⟨0, 1, .one, fun _ _ => false⟩
  | slot {n : Nat} {v : D} : CV n (.tup [wd "slot", v]) ⟨0, 1, .one, fun _ _ => false⟩
  | read {n : Nat} {i j : Int} : CV n (.tup [wd "read", .int i, .int j]) ⟨0, 1, .one, fun sz _ => rwBad i j sz⟩
  | write {n : Nat} {i j : Int} : CV n (.tup [wd "write", .int i, .int j]) ⟨1, 1, .one, fun sz _ => rwBad i j sz⟩
  | store {n : Nat} {v : D} : CV n (.tup [wd "store", v]) ⟨1, 1, .one, fun _ _ => false⟩
  | drop {n : Nat} : CV n (.tup [wd "drop"]) ⟨1, 0, .one, fun _ _ => false⟩
  | turn {n : Nat} : CV n (.tup [wd "turn"]) ⟨0, 0, .one, fun _ _ => false⟩
  | jump {n : Nat} {f : Int} : CV n (.tup [wd "jump", .int f]) ⟨0, 0, .jmp f, fun _ _ => false⟩
  | choose {n : Nat} {f : Int} {v : D} : CV n (.tup [wd "choose", .int f, v]) ⟨1, 0, .cho f, fun _ _ => false⟩
  | send {n : Nat} {s : Str} {k : Nat} : Msg s k → CV n (.tup [wd "send", .str s]) ⟨k + 1, 1, .one, fun _ _ => false⟩
  | sup {n : Nat} {s : Str} {k : Nat} : Msg s k → CV n (.tup [wd "super", .str s]) ⟨k + 1, 1, .one, fun _ _ => false⟩
  | give {n : Nat} : CV n (.tup [wd "give"]) ⟨1, 0, .fin, fun _ _ => false⟩
  | back {n : Nat} : CV n (.tup [wd "back"]) ⟨1, 0, .fin, fun _ ib => !ib⟩
  | block {n : Nat} {ds : List D} {cs : List CI} : ds.length ≤ 20 → CVs n ds cs → CV (n + 1) (blkD ds) ⟨0, 1, .one, fun sz _ => !goodB cs (1 :: sz) true⟩
inductive CVs : Nat → List D → List CI → Prop
  | nil {n : Nat} : CVs n [] []
  | cons {n : Nat} {d : D} {c : CI} {ds : List D} {cs : List CI} : CV n d c → CVs n ds cs → CVs n (d :: ds) (c :: cs)
end
theorem CVs.len {n : Nat} : ∀ {ds : List D} {cs : List CI}, CVs n ds cs → ds.length = cs.length
  | _, _, .nil => rfl
  | _, _, .cons _ t => by rw [List.length_cons, List.length_cons, CVs.len t]
theorem CVs.at {n : Nat} : ∀ {ds : List D} {cs : List CI} {i : Nat} {c : CI}, CVs n ds cs → cs[i]? = some c → ∃ d, ds[i]? = some d ∧ CV n d c
  | _, _, i, _, .nil, e => by simp at e
  | _, _, 0, _, .cons r _, e => by simp at e; subst e; exact ⟨_, rfl, r⟩
  | _, _, i + 1, c, .cons _ t, e => by
    obtain ⟨v, h1, h2⟩ := CVs.at (i := i) (c := c) t (by simpa using e)
    exact ⟨v, by simpa using h1, h2⟩
theorem CVs.app {n : Nat} : ∀ {ds es : List D} {cs bs : List CI}, CVs n ds cs → CVs n es bs → CVs n (ds ++ es) (cs ++ bs)
  | _, _, _, _, .nil, s => s
  | _, _, _, _, .cons r t, s => .cons r (CVs.app t s)
theorem CVs.of {n : Nat} : ∀ {ds : List D}, (∀ d ∈ ds, ∃ c, CV n d c) → ∃ cs, CVs n ds cs
  | [], _ => ⟨[], .nil⟩
  | d :: ds, h => by
    obtain ⟨c, hc⟩ := h d (List.mem_cons_self ..)
    obtain ⟨cs, hcs⟩ := CVs.of (ds := ds) fun e he => h e (List.mem_cons_of_mem _ he)
    exact ⟨c :: cs, .cons hc hcs⟩
end K41

namespace K41
open PySem L2 ML

theorem nl0 : (([] : List D).length ≤ nMax) = True := eq_true (by decide)
theorem nl1 {x : D} : ([x].length ≤ nMax) = True := eq_true (by show 1 ≤ nMax; decide)
theorem nl2 {x y : D} : ([x, y].length ≤ nMax) = True := eq_true (by show 2 ≤ nMax; decide)
theorem nl3 {x y z : D} : ([x, y, z].length ≤ nMax) = True := eq_true (by show 3 ≤ nMax; decide)
def Gv (a : D) (S0 : Store) (d : D) (S : Store) : Prop := d = a ∧ Gr S0 S
theorem Gv.ups {a : D} {S0 : Store} {r : Rs D} (h : wpr r (Gv a S0) fun _ _ => False) : Ups r S0 a := .of h
def LN (v : Bool) (a : D) (S0 : Store) (d : D) (S : Store) : Prop := v = true ∧ d = a ∧ Gr S0 S
def LE (v : Bool) (c : Str) (S0 : Store) (e : Str) (S : Store) : Prop := v = false ∧ e = c ∧ Gr S0 S
def Lk (v : Bool) (a : D) (c : Str) (r : Rs D) (S : Store) : Prop := wpr r (LN v a S) (LE v c S)
theorem Lk.use {v : Bool} {a : D} {c : Str} {r : Rs D} {S : Store} {Q : D → Store → Prop} {X : Str → Store → Prop} (h : Lk v a c r S) (q : v = true → ∀ S', Gr S S' → Q a S') (x : v = false → ∀ S', Gr S S' → X c S') : wpr r Q X := by
  refine wpr_mono h (fun d S' ⟨e, b, g⟩ => ?_) (fun c S' ⟨e, b, g⟩ => ?_)
  · rw [b]; exact q e S' g
  · rw [b]; exact x e S' g
theorem arM {L : Nat} {s : Str} {k : Nat} {S : Store} (hL : 3 ≤ L) (hS : S.WF) (h : Msg s k) : Ups (sem T L 3 [.str s] S) S (.int k) := by
  obtain ⟨n, rfl⟩ : ∃ n, L = n + 3 := ⟨L - 3, by omega⟩
  cases h with
  | a =>
    have e : arityD (Str.ofString "a") [] [97] = .int 0 := if_pos (by decide +kernel)
    have := ok_arity_of (n := n) (s := Str.ofString "a") (S := S) (ps := []) (r := [97]) hS (by decide +kernel) (by decide +kernel)
    rw [e] at this
    exact this
  | p =>
    have e : arityD (Str.ofString "+") [] [43] = .int 1 := by
      unfold arityD
      rw [if_neg (by decide +kernel), if_pos (by decide +kernel)]
    have := ok_arity_of (n := n) (s := Str.ofString "+") (S := S) (ps := []) (r := [43]) hS (by decide +kernel) (by decide +kernel)
    rw [e] at this
    exact this
  | ab =>
    have e : arityD (Str.ofString "a:b:") [[97], [98]] [] = .int 2 := by
      unfold arityD
      rw [if_neg (by decide +kernel), if_neg (by decide +kernel), if_pos (by decide +kernel)]; rfl
    have := ok_arity_of (n := n) (s := Str.ofString "a:b:") (S := S) (ps := [[97], [98]]) (r := []) hS (by decide +kernel) (by decide +kernel)
    rw [e] at this
    exact this
  | k =>
    have e : arityD (Str.ofString "k:") [[107]] [] = .int 1 := by
      unfold arityD
      rw [if_neg (by decide +kernel), if_neg (by decide +kernel), if_pos (by decide +kernel)]; rfl
    have := ok_arity_of (n := n) (s := Str.ofString "k:") (S := S) (ps := [[107]]) (r := []) hS (by decide +kernel) (by decide +kernel)
    rw [e] at this
    exact this
theorem ss_in {S : Store} : cmpP S .In (wd "send") (.tup [wd "send", wd "super"]) = some true := rfl
theorem su_in {S : Store} : cmpP S .In (wd "super") (.tup [wd "send", wd "super"]) = some true := rfl
theorem at2_0 {a b : D} : atI [a, b] 0 = some a := rfl
theorem at2_1 {a b : D} : atI [a, b] 1 = some b := rfl
theorem at3_0 {a b c : D} : atI [a, b, c] 0 = some a := rfl
theorem at3_1 {a b c : D} : atI [a, b, c] 1 = some b := rfl
theorem at3_2 {a b c : D} : atI [a, b, c] 2 = some c := rfl
theorem takenU {L n : Nat} {d : D} {c : CI} {S : Store} (hL : 4 ≤ L) (hS : S.WF) (h : CV n d c) : Ups (sem T L 4 [d] S) S (.int c.want) := by
  obtain ⟨k, rfl⟩ : ∃ n, L = n + 1 := ⟨L - 1, by omega⟩
  have gen : ∀ {s : Str} {m : Nat} {w : D} {S : Store}, S.WF → Msg s m → (∀ S, cmpP S .In w (.tup [wd "send", wd "super"]) = some true) → Ups (sem T (k + 1) 4 [.tup [w, .str s]] S) S (.int ((m + 1 : Nat) : Int)) := fun {s m w S} hS h hw => by
    refine Gv.ups ?_
    show wpr (endF (evS (sem T k) (gvs T) f_taken_by.body [some (.tup [w, .str s])] S)) _ _
    rw [wrs_end]
    simp only [f_taken_by, wrs_seqL, wS_asg, wS_ife, wS_ret, wS_nil, wS_exp, wE_cS, wE_cI, wE_cN, wE_cB, wE_call, wE_var, wE_glb, wE_bop, wE_idx, wE_lst, wE_tup, wE_blt, wE_met, wT_cmp, wT_and, wT_or, wT_nt, wT_one, wT_tru, wE_ite, wE_and, wE_or, wE_one, wE_nt, wE_cmp, wE_lc, wI_itr, wI_rng, wA_cons, wA_nil, wpO, wpF, List.set, List.getElem?_cons_zero, List.getElem?_cons_succ, Option.join_some, Bool.false_eq_true, if_false, if_true, wE_neg, wE_chn, wE_lset, wE_inW, wE_ixW, wS_fr, wS_rais, wT_chn, t_bl, later_nil, wE_fld, wE_mcl, wE_mk, wE_dnw, wE_dgt, wE_din, wT_din, wE_dcp, wE_rev, wE_cmn, wT_cmn, wS_stF, wS_stD, wS_whl, wE_slc, wL_off, wE_pop, wE_dlt, wA_kv, wS_frT, wS_unp, wS_asgC, wS_stI, wE_frz, nl2, true_and, ML.ix_tup, at2_0, at2_1]
    have hw' := hw S
    unfold wd at hw'
    rw [hw']
    simp only [wpO, if_true]
    refine (arM (by omega) hS h).wpr fun S1 G1 => ?_
    rw [add_int]
    simp only [wpF]
    exact ⟨by norm_cast, G1⟩
  cases h with
  | send h => exact gen hS h fun S => ss_in
  | sup h => exact gen hS h fun S => su_in
  | _ => exact ⟨S, rfl, .refl hS⟩
theorem leftU {L n : Nat} {d : D} {c : CI} {S : Store} (hL : 4 ≤ L) (hS : S.WF) (h : CV n d c) : Ups (sem T L 5 [d] S) S (.int c.leave) := by
  obtain ⟨k, rfl⟩ : ∃ n, L = n + 1 := ⟨L - 1, by omega⟩
  cases h <;> exact ⟨S, rfl, .refl hS⟩
def intsD (xs : List Int) : D := .lst (xs.map D.int)
theorem goalsU {L n : Nat} {a : Int} {ds : List D} {d : D} {c : CI} {S : Store} (hL : 2 ≤ L) (hS : S.WF) (h0 : 0 ≤ a) (hd : ds[a.toNat]? = some d) (h : CV n d c) : Ups (sem T L 6 [.tup ds, .int a] S) S (intsD (c.kd.goals a)) := by
  obtain ⟨k, rfl⟩ : ∃ n, L = n + 1 := ⟨L - 1, by omega⟩
  obtain ⟨m, rfl⟩ : ∃ m : Nat, a = m := ⟨a.toNat, by omega⟩
  have hi : ∀ S, ixP S (.tup ds) (.int (m : Int)) = some d := fun S => by rw [ML.ix_tup]; exact atI_nat' (by simpa using hd)
  refine Gv.ups ?_
  show wpr (endF (evS (sem T k) (gvs T) f_goals_of.body [some (.tup ds), some (.int m), none] S)) _ _
  rw [wrs_end]
  simp only [f_goals_of, wrs_seqL, wS_asg, wS_ife, wS_ret, wS_nil, wS_exp, wE_cS, wE_cI, wE_cN, wE_cB, wE_call, wE_var, wE_glb, wE_bop, wE_idx, wE_lst, wE_tup, wE_blt, wE_met, wT_cmp, wT_and, wT_or, wT_nt, wT_one, wT_tru, wE_ite, wE_and, wE_or, wE_one, wE_nt, wE_cmp, wE_lc, wI_itr, wI_rng, wA_cons, wA_nil, wpO, wpF, List.set, List.getElem?_cons_zero, List.getElem?_cons_succ, Option.join_some, Bool.false_eq_true, if_false, if_true, wE_neg, wE_chn, wE_lset, wE_inW, wE_ixW, wS_fr, wS_rais, wT_chn, t_bl, later_nil, wE_fld, wE_mcl, wE_mk, wE_dnw, wE_dgt, wE_din, wT_din, wE_dcp, wE_rev, wE_cmn, wT_cmn, wS_stF, wS_stD, wS_whl, wE_slc, wL_off, wE_pop, wE_dlt, wA_kv, wS_frT, wS_unp, wS_asgC, wS_stI, wE_frz, hi]
  rw [later]
  cases h <;> exact ⟨rfl, .refl hS⟩
theorem wantsU {L n : Nat} {d : D} {c : CI} {S : Store} (hL : 2 ≤ L) (hS : S.WF) (h : CV n d c) : Ups (sem T L 16 [d] S) S (.tup [.int c.want, .int c.leave]) := by
  obtain ⟨k, rfl⟩ : ∃ n, L = n + 1 := ⟨L - 1, by omega⟩
  have gen : ∀ {s : Str} {m : Nat} {w : D} {S : Store}, S.WF → Msg s m → (∀ S, cmpP S .In w (.tup [wd "send", wd "super"]) = some true) → Ups (sem T (k + 1) 16 [.tup [w, .str s]] S) S (.tup [.int ((m + 1 : Nat) : Int), .int ((1 : Nat) : Int)]) := fun {s m w S} hS h hw => by
    refine Gv.ups ?_
    show wpr (endF (evS (sem T k) (gvs T) f_law_wants.body [some (.tup [w, .str s]), none] S)) _ _
    rw [wrs_end]
    simp only [f_law_wants, wrs_seqL, wS_asg, wS_ife, wS_ret, wS_nil, wS_exp, wE_cS, wE_cI, wE_cN, wE_cB, wE_call, wE_var, wE_glb, wE_bop, wE_idx, wE_lst, wE_tup, wE_blt, wE_met, wT_cmp, wT_and, wT_or, wT_nt, wT_one, wT_tru, wE_ite, wE_and, wE_or, wE_one, wE_nt, wE_cmp, wE_lc, wI_itr, wI_rng, wA_cons, wA_nil, wpO, wpF, List.set, List.getElem?_cons_zero, List.getElem?_cons_succ, Option.join_some, Bool.false_eq_true, if_false, if_true, wE_neg, wE_chn, wE_lset, wE_inW, wE_ixW, wS_fr, wS_rais, wT_chn, t_bl, later_nil, wE_fld, wE_mcl, wE_mk, wE_dnw, wE_dgt, wE_din, wT_din, wE_dcp, wE_rev, wE_cmn, wT_cmn, wS_stF, wS_stD, wS_whl, wE_slc, wL_off, wE_pop, wE_dlt, wA_kv, wS_frT, wS_unp, wS_asgC, wS_stI, wE_frz, nl2, true_and, ML.ix_tup, at2_0, at2_1]
    rw [later]
    simp only [wrs_seqL, wS_asg, wS_ife, wS_ret, wS_nil, wS_exp, wE_cS, wE_cI, wE_cN, wE_cB, wE_call, wE_var, wE_glb, wE_bop, wE_idx, wE_lst, wE_tup, wE_blt, wE_met, wT_cmp, wT_and, wT_or, wT_nt, wT_one, wT_tru, wE_ite, wE_and, wE_or, wE_one, wE_nt, wE_cmp, wE_lc, wI_itr, wI_rng, wA_cons, wA_nil, wpO, wpF, List.set, List.getElem?_cons_zero, List.getElem?_cons_succ, Option.join_some, Bool.false_eq_true, if_false, if_true, wE_neg, wE_chn, wE_lset, wE_inW, wE_ixW, wS_fr, wS_rais, wT_chn, t_bl, later_nil, wE_fld, wE_mcl, wE_mk, wE_dnw, wE_dgt, wE_din, wT_din, wE_dcp, wE_rev, wE_cmn, wT_cmn, wS_stF, wS_stD, wS_whl, wE_slc, wL_off, wE_pop, wE_dlt, wA_kv, wS_frT, wS_unp, wS_asgC, wS_stI, wE_frz, nl2, true_and, ML.ix_tup, at2_0, at2_1]
    have hw' := hw S
    unfold wd at hw'
    rw [hw']
    simp only [wpO, if_true]
    have e1 : obDct ((S.new (.dct [])).ob S.nx) = some [] := by rw [Store.new_ob]; rfl
    have e2 : dltM S.nx [.str (Str.ofString "a"), .int 1, .str (Str.ofString "+"), .int 2, .str (Str.ofString "a:b:"), .int 3, .str (Str.ofString "k:"), .int 2] (S.new (.dct [])) = .ok (.loc S.nx) ((S.new (.dct [])).set S.nx (.dct (mergeKD [] [(.inr (Str.ofString "a"), .int 1), (.inr (Str.ofString "+"), .int 2), (.inr (Str.ofString "a:b:"), .int 3), (.inr (Str.ofString "k:"), .int 2)]))) := by
      unfold dltM
      rw [e1]
      rfl
    rw [e2, wpr_ok]
    generalize hk : mergeKD [] [((.inr (Str.ofString "a") : Key), D.int 1), (.inr (Str.ofString "+"), .int 2), (.inr (Str.ofString "a:b:"), .int 3), (.inr (Str.ofString "k:"), .int 2)] = kvs
    have G1 : Gr S ((S.new (.dct [])).set S.nx (.dct kvs)) := (Gr.new hS).set (Nat.le_refl _) (Nat.lt_succ_self _)
    have e3 : dgtP ((S.new (.dct [])).set S.nx (.dct kvs)) (.loc S.nx) (.str s) = some (lookK kvs (.inr s)) := by
      show ((obDct (((S.new (.dct [])).set S.nx (.dct kvs)).ob S.nx)).bind fun kvs => (keyOf (.str s)).map fun k => lookK kvs k) = _
      rw [Store.set_ob]; rfl
    rw [e3]
    have e4 : lookK kvs (.inr s) = some (.int ((m + 1 : Nat) : Int)) := by rw [← hk]; cases h <;> rfl
    rw [e4]
    simp only [Option.join_some, wpO]
    exact ⟨rfl, G1⟩
  cases h with
  | send h => exact gen hS h fun S => ss_in
  | sup h => exact gen hS h fun S => su_in
  | _ => exact ⟨S, rfl, .refl hS⟩
end K41

namespace K41
open PySem L2 ML

def bcS : Str := Str.ofString "BadCodes"
def DepP (cs : List CI) (sz : List Int) (ib : Bool) (S : Store) (d : D) (S' : Store) : Prop := Good cs sz ib ∧ (∃ xs, d = .lst xs ∧ Tab cs xs) ∧ Gr S S'
def DepE (cs : List CI) (sz : List Int) (ib : Bool) (S : Store) (c : Str) (S' : Store) : Prop := ¬ Good cs sz ib ∧ c = bcS ∧ Gr S S'
def DepS (n : Nat) : Prop := ∀ {L : Nat} {ds : List D} {cs : List CI} {sz : List Int} {ib : Bool} {S : Store}, 8 * n + 8 ≤ L → S.WF → CVs n ds cs → ds.length ≤ 20 → sz.length ≤ 10 + (2 - n) → n ≤ 2 →
  wpr (sem T L 8 [.tup ds, intsD sz, .bl ib] S) (DepP cs sz ib S) (DepE cs sz ib S)
def LawP (cs : List CI) (sz : List Int) (ib : Bool) (S : Store) (d : D) (S' : Store) : Prop := Gr S S' ∧ ((Good cs sz ib ∧ ∃ xs, d = .lst xs ∧ Tab cs xs) ∨ (¬ Good cs sz ib ∧ d = .non))
def LawS (n : Nat) : Prop := ∀ {L : Nat} {ds : List D} {cs : List CI} {sz : List Int} {ib : Bool} {S : Store}, 8 * n + 8 ≤ L → S.WF → CVs n ds cs → ds.length ≤ 20 → sz.length ≤ 10 + (2 - n) → n ≤ 2 →
  wpr (sem T L 18 [.tup ds, intsD sz, .bl ib] S) (LawP cs sz ib S) (fun _ _ => False)
theorem len_ints {S : Store} {xs : List Int} : bfP S .len [intsD xs] = some (.val (.int (xs.length : Int))) := by
  show some (PR.val (.int (((xs.map D.int).length : Nat) : Int))) = _
  rw [List.length_map]
theorem ix_ints {S : Store} {xs : List Int} {i : Int} (h0 : 0 ≤ i) (h1 : i < xs.length) : ixP S (intsD xs) (.int i) = some (.int (xs.getD i.toNat 0)) := by
  obtain ⟨m, rfl⟩ : ∃ m : Nat, i = m := ⟨i.toNat, by omega⟩
  have hm : m < xs.length := by omega
  unfold intsD
  rw [ix_lst]
  refine atI_nat' ?_
  rw [List.getElem?_map, List.getElem?_eq_getElem hm]
  simp [List.getD_eq_getElem?_getD, List.getElem?_eq_getElem hm]
theorem rd_in {S : Store} : cmpP S .In (wd "read") (.tup [wd "read", wd "write"]) = some true := rfl
theorem wr_in {S : Store} : cmpP S .In (wd "write") (.tup [wd "read", wd "write"]) = some true := rfl
/-- a code of reading or writing, refused or not -/
theorem rwL {k : Nat} {w : D} {i j : Int} {sz : List Int} {S : Store} {Q : Bool → Store → Prop} {X : Str → Store → Prop} {v1 v3 : Option D} (q : Q (rwBad i j sz) S) :
    wpr (evT (sem T k) (gvs T) (.con .Or (.nt (.chn .LtE .Lt (.cI 0) (.idx (.var 0) (.cI 1)) (.blt false .len (.cons (.var 2) (.nil))))) (.one (.nt (.chn .LtE .Lt (.cI 0) (.idx (.var 0) (.cI 2)) (.idx (.var 2) (.idx (.var 0) (.cI 1))))))) [some (.tup [w, .int i, .int j]), v1, some (intsD sz), v3] S) Q X := by
  simp only [wrs_seqL, wS_asg, wS_ife, wS_ret, wS_nil, wS_exp, wE_cS, wE_cI, wE_cN, wE_cB, wE_call, wE_var, wE_glb, wE_bop, wE_idx, wE_lst, wE_tup, wE_blt, wE_met, wT_cmp, wT_and, wT_or, wT_nt, wT_one, wT_tru, wE_ite, wE_and, wE_or, wE_one, wE_nt, wE_cmp, wE_lc, wI_itr, wI_rng, wA_cons, wA_nil, wpO, wpF, List.set, List.getElem?_cons_zero, List.getElem?_cons_succ, Option.join_some, Bool.false_eq_true, if_false, if_true, wE_neg, wE_chn, wE_lset, wE_inW, wE_ixW, wS_fr, wS_rais, wT_chn, t_bl, later_nil, wE_fld, wE_mcl, wE_mk, wE_dnw, wE_dgt, wE_din, wT_din, wE_dcp, wE_rev, wE_cmn, wT_cmn, wS_stF, wS_stD, wS_whl, wE_slc, wL_off, wE_pop, wE_dlt, wA_kv, wS_frT, wS_unp, wS_asgC, wS_stI, wE_frz, ML.ix_tup, at3_1, at3_2, c_le, c_lt, len_ints]
  unfold rwBad at q
  by_cases h1 : 0 ≤ i
  · rw [decide_eq_true h1] at q ⊢
    by_cases h2 : i < sz.length
    · rw [decide_eq_true h2] at q ⊢
      simp only [if_true, Bool.not_true, Bool.false_eq_true, if_false, Bool.and_self, Bool.false_or] at q ⊢
      by_cases h3 : 0 ≤ j
      · rw [decide_eq_true h3] at q ⊢
        simp only [if_true, ix_ints h1 h2, wpO, Bool.true_and] at q ⊢
        exact q
      · rw [decide_eq_false h3] at q ⊢
        simp only [Bool.false_eq_true, if_false, Bool.false_and] at q ⊢
        exact q
    · rw [decide_eq_false h2] at q ⊢
      simp only [if_true, Bool.not_false, Bool.and_false, Bool.true_or] at q ⊢
      exact q
  · rw [decide_eq_false h1] at q ⊢
    simp only [Bool.false_eq_true, if_false, Bool.not_false, if_true, Bool.false_and, Bool.true_or] at q ⊢
    exact q
theorem add_ll {S : Store} {xs ys : List D} (h : xs.length + ys.length ≤ 1000) : binP S .Add (.lst xs) (.lst ys) = some (.newl (xs ++ ys)) := by
  show guardP (decide (xs.length + ys.length ≤ nMax)) _ = _
  rw [decide_eq_true (Nat.le_trans h (by decide))]
  rfl
theorem lookU {L n : Nat} {d : D} {c : CI} {sz : List Int} {ib : Bool} {deep : Int} {S : Store} (hL : 8 * n + 6 ≤ L) (hS : S.WF) (h : CV n d c) (hz : sz.length ≤ 10 + (2 - n)) (hn : n ≤ 2) (H : ∀ m, n = m + 1 → DepS m) :
    Lk (decide ((c.want : Int) ≤ deep) && !c.bad sz ib) .non bcS (sem T L 7 [d, .int deep, intsD sz, .bl ib] S) S := by
  obtain ⟨k, rfl⟩ : ∃ n, L = n + 1 := ⟨L - 1, by omega⟩
  show wpr (endF (evS (sem T k) (gvs T) f_look_code.body [some d, some (.int deep), some (intsD sz), some (.bl ib)] S)) _ _
  rw [wrs_end]
  simp only [f_look_code, wrs_seqL, wS_asg, wS_ife, wS_ret, wS_nil, wS_exp, wE_cS, wE_cI, wE_cN, wE_cB, wE_call, wE_var, wE_glb, wE_bop, wE_idx, wE_lst, wE_tup, wE_blt, wE_met, wT_cmp, wT_and, wT_or, wT_nt, wT_one, wT_tru, wE_ite, wE_and, wE_or, wE_one, wE_nt, wE_cmp, wE_lc, wI_itr, wI_rng, wA_cons, wA_nil, wpO, wpF, List.set, List.getElem?_cons_zero, List.getElem?_cons_succ, Option.join_some, Bool.false_eq_true, if_false, if_true, wE_neg, wE_chn, wE_lset, wE_inW, wE_ixW, wS_fr, wS_rais, wT_chn, t_bl, later_nil, wE_fld, wE_mcl, wE_mk, wE_dnw, wE_dgt, wE_din, wT_din, wE_dcp, wE_rev, wE_cmn, wT_cmn, wS_stF, wS_stD, wS_whl, wE_slc, wL_off, wE_pop, wE_dlt, wA_kv, wS_frT, wS_unp, wS_asgC, wS_stI, wE_frz]
  refine (takenU (by omega) hS h).wpr fun S1 G1 => ?_
  simp only [c_lt, wpO]
  by_cases hw : (c.want : Int) ≤ deep
  · rw [decide_eq_false (show ¬ deep < (c.want : Int) by omega), decide_eq_true hw]
    simp only [Bool.false_eq_true, if_false, Bool.true_and]
    try rw [wS_nil]
    rw [later]
    have plain : ∀ (b : Bool), b = false → LN (!b) .non S .non S1 := fun b e => ⟨by rw [e]; rfl, rfl, G1⟩
    cases h with
    | read =>
      rw [wrs_seqL, wS_ife]
      show wpr (evT (sem T k) (gvs T) (.cmp .In (.idx (.var 0) (.cI 0)) (.tup (.cons (.cS ("read" : Str)) (.cons (.cS ("write" : Str)) (.nil))))) _ S1) _ _
      refine wpr_of (a := true) (S' := S1) rfl ?_
      rw [if_pos rfl, wrs_seqL, wS_ife]
      refine rwL ?_
      rename_i i j
      cases q : rwBad i j sz with
      | true => exact ⟨by simp only [q]; rfl, rfl, G1⟩
      | false => exact ⟨by simp only [q]; rfl, rfl, G1⟩
    | write =>
      rw [wrs_seqL, wS_ife]
      refine wpr_of (a := true) (S' := S1) rfl ?_
      rw [if_pos rfl, wrs_seqL, wS_ife]
      refine rwL ?_
      rename_i i j
      cases q : rwBad i j sz with
      | true => exact ⟨by simp only [q]; rfl, rfl, G1⟩
      | false => exact ⟨by simp only [q]; rfl, rfl, G1⟩
    | back => cases ib <;> exact ⟨rfl, rfl, G1⟩
    | @block n' ds cs hl hcs =>
      have H' : DepS n' := H n' rfl
      rw [wrs_seqL, wS_ife]
      refine wpr_of (a := false) (S' := S1) rfl ?_
      rw [if_neg Bool.false_ne_true, wS_nil, later, wrs_seqL, wS_ife]
      refine wpr_of (a := false) (S' := S1) rfl ?_
      rw [if_neg Bool.false_ne_true, wS_nil, later, wrs_seqL, wS_ife]
      refine wpr_of (a := true) (S' := S1) rfl ?_
      rw [if_pos rfl]
      simp only [blkD, wrs_seqL, wS_asg, wS_ife, wS_ret, wS_nil, wS_exp, wE_cS, wE_cI, wE_cN, wE_cB, wE_call, wE_var, wE_glb, wE_bop, wE_idx, wE_lst, wE_tup, wE_blt, wE_met, wT_cmp, wT_and, wT_or, wT_nt, wT_one, wT_tru, wE_ite, wE_and, wE_or, wE_one, wE_nt, wE_cmp, wE_lc, wI_itr, wI_rng, wA_cons, wA_nil, wpO, wpF, List.set, List.getElem?_cons_zero, List.getElem?_cons_succ, Option.join_some, Bool.false_eq_true, if_false, if_true, wE_neg, wE_chn, wE_lset, wE_inW, wE_ixW, wS_fr, wS_rais, wT_chn, t_bl, later_nil, wE_fld, wE_mcl, wE_mk, wE_dnw, wE_dgt, wE_din, wT_din, wE_dcp, wE_rev, wE_cmn, wT_cmn, wS_stF, wS_stD, wS_whl, wE_slc, wL_off, wE_pop, wE_dlt, wA_kv, wS_frT, wS_unp, wS_asgC, wS_stI, wE_frz, nl1, true_and, ML.ix_tup, at3_1, at3_2]
      rw [show ∀ (a b c d : D), atI [a, b, c, d] 1 = some b from fun _ _ _ _ => rfl, show ∀ (a b c d : D), atI [a, b, c, d] 2 = some c from fun _ _ _ _ => rfl]
      simp only [wpO, b_len_tup, wpF, add_int]
      rw [show intsD sz = .lst (sz.map D.int) from rfl, add_ll (by rw [List.length_map]; simp; omega)]
      simp only [wpF, Bool.false_eq_true, if_false]
      rw [show D.lst ([D.int (((([wd "x"] : List D).length : Nat) : Int) + ((([] : List D).length : Nat) : Int))] ++ sz.map D.int) = intsD (1 :: sz) from rfl]
      refine wpr_mono (H' (by omega) G1.wf hcs hl (by rw [List.length_cons]; omega) (by omega)) (fun d S2 ⟨z1, z2, z3⟩ => ?_) (fun c S2 ⟨z1, z2, z3⟩ => ?_)
      · try rw [later_nil]
        try rw [later_nil]
        exact ⟨by rw [goodB_t z1]; rfl, rfl, G1.trans z3⟩
      · exact ⟨by rw [goodB_f z1]; rfl, z2, G1.trans z3⟩
    | _ => exact plain _ rfl
  · rw [decide_eq_true (show deep < (c.want : Int) by omega), decide_eq_false hw]
    simp only [if_true, Bool.false_and]
    exact ⟨rfl, rfl, G1⟩
theorem badU {L n : Nat} {d : D} {c : CI} {sz : List Int} {ib : Bool} {S : Store} (hL : 8 * n + 6 ≤ L) (hS : S.WF) (h : CV n d c) (hz : sz.length ≤ 10 + (2 - n)) (hn : n ≤ 2) (H : ∀ m, n = m + 1 → LawS m) :
    Ups (sem T L 17 [d, intsD sz, .bl ib] S) S (.bl (c.bad sz ib)) := by
  obtain ⟨k, rfl⟩ : ∃ n, L = n + 1 := ⟨L - 1, by omega⟩
  refine Gv.ups ?_
  show wpr (endF (evS (sem T k) (gvs T) f_law_bad_code.body [some d, some (intsD sz), some (.bl ib)] S)) _ _
  rw [wrs_end]
  have rw2 : ∀ (w : D) (i j : Int), wpr (evE (sem T k) (gvs T) (.con .Or (.nt (.chn .LtE .Lt (.cI 0) (.idx (.var 0) (.cI 1)) (.blt false .len (.cons (.var 1) (.nil))))) (.one (.nt (.chn .LtE .Lt (.cI 0) (.idx (.var 0) (.cI 2)) (.idx (.var 1) (.idx (.var 0) (.cI 1))))))) [some (.tup [w, .int i, .int j]), some (intsD sz), some (.bl ib)] S) (Gv (.bl (rwBad i j sz)) S) (fun _ _ => False) := fun w i j => by
    simp only [wrs_seqL, wS_asg, wS_ife, wS_ret, wS_nil, wS_exp, wE_cS, wE_cI, wE_cN, wE_cB, wE_call, wE_var, wE_glb, wE_bop, wE_idx, wE_lst, wE_tup, wE_blt, wE_met, wT_cmp, wT_and, wT_or, wT_nt, wT_one, wT_tru, wE_ite, wE_and, wE_or, wE_one, wE_nt, wE_cmp, wE_lc, wI_itr, wI_rng, wA_cons, wA_nil, wpO, wpF, List.set, List.getElem?_cons_zero, List.getElem?_cons_succ, Option.join_some, Bool.false_eq_true, if_false, if_true, wE_neg, wE_chn, wE_lset, wE_inW, wE_ixW, wS_fr, wS_rais, wT_chn, t_bl, later_nil, wE_fld, wE_mcl, wE_mk, wE_dnw, wE_dgt, wE_din, wT_din, wE_dcp, wE_rev, wE_cmn, wT_cmn, wS_stF, wS_stD, wS_whl, wE_slc, wL_off, wE_pop, wE_dlt, wA_kv, wS_frT, wS_unp, wS_asgC, wS_stI, wE_frz, ML.ix_tup, at3_1, at3_2, c_le, c_lt, len_ints]
    unfold rwBad
    by_cases h1 : 0 ≤ i
    · rw [decide_eq_true h1]
      by_cases h2 : i < sz.length
      · rw [decide_eq_true h2]
        simp only [if_true, Bool.not_true, Bool.false_eq_true, if_false, Bool.and_self, Bool.false_or, t_bl, wpO]
        by_cases h3 : 0 ≤ j
        · rw [decide_eq_true h3]
          simp only [if_true, ix_ints h1 h2, wpO, Bool.true_and, t_bl]
          exact ⟨rfl, .refl hS⟩
        · rw [decide_eq_false h3]
          simp only [Bool.false_eq_true, if_false, Bool.false_and, t_bl, wpO]
          exact ⟨rfl, .refl hS⟩
      · rw [decide_eq_false h2]
        simp only [if_true, Bool.not_false, Bool.and_false, Bool.true_or, t_bl, wpO]
        exact ⟨rfl, .refl hS⟩
    · rw [decide_eq_false h1]
      simp only [Bool.false_eq_true, if_false, Bool.not_false, if_true, Bool.false_and, Bool.true_or, t_bl, wpO]
      exact ⟨rfl, .refl hS⟩
  cases h with
  | read =>
    unfold f_law_bad_code
    rw [wrs_seqL, wS_ife]
    refine wpr_of (a := true) (S' := S) rfl ?_
    rw [if_pos rfl, wrs_seqL, wS_ret]
    exact wpr_mono (rw2 _ _ _) (fun _ _ z => z) (fun _ _ z => z)
  | write =>
    unfold f_law_bad_code
    rw [wrs_seqL, wS_ife]
    refine wpr_of (a := true) (S' := S) rfl ?_
    rw [if_pos rfl, wrs_seqL, wS_ret]
    exact wpr_mono (rw2 _ _ _) (fun _ _ z => z) (fun _ _ z => z)
  | back => cases ib <;> exact ⟨rfl, .refl hS⟩
  | @block n' ds cs hl hcs =>
    have H' : LawS n' := H n' rfl
    unfold f_law_bad_code
    rw [wrs_seqL, wS_ife]
    refine wpr_of (a := false) (S' := S) rfl ?_
    rw [if_neg Bool.false_ne_true, wS_nil, later, wrs_seqL, wS_ife]
    refine wpr_of (a := true) (S' := S) rfl ?_
    rw [if_pos rfl]
    simp only [blkD, wrs_seqL, wS_asg, wS_ife, wS_ret, wS_nil, wS_exp, wE_cS, wE_cI, wE_cN, wE_cB, wE_call, wE_var, wE_glb, wE_bop, wE_idx, wE_lst, wE_tup, wE_blt, wE_met, wT_cmp, wT_and, wT_or, wT_nt, wT_one, wT_tru, wE_ite, wE_and, wE_or, wE_one, wE_nt, wE_cmp, wE_lc, wI_itr, wI_rng, wA_cons, wA_nil, wpO, wpF, List.set, List.getElem?_cons_zero, List.getElem?_cons_succ, Option.join_some, Bool.false_eq_true, if_false, if_true, wE_neg, wE_chn, wE_lset, wE_inW, wE_ixW, wS_fr, wS_rais, wT_chn, t_bl, later_nil, wE_fld, wE_mcl, wE_mk, wE_dnw, wE_dgt, wE_din, wT_din, wE_dcp, wE_rev, wE_cmn, wT_cmn, wS_stF, wS_stD, wS_whl, wE_slc, wL_off, wE_pop, wE_dlt, wA_kv, wS_frT, wS_unp, wS_asgC, wS_stI, wE_frz, nl1, true_and, ML.ix_tup, at3_1, at3_2]
    rw [show intsD sz = .lst (sz.map D.int) from rfl, add_ll (by rw [List.length_map]; simp; omega)]
    simp only [wpF, Bool.false_eq_true, if_false]
    rw [show D.lst ([D.int 1] ++ sz.map D.int) = intsD (1 :: sz) from rfl]
    refine wpr_mono (H' (by omega) hS hcs hl (by rw [List.length_cons]; omega) (by omega)) (fun d S2 ⟨G, z⟩ => ?_) (fun c S2 z => z)
    rcases z with ⟨z1, xs, z2, _⟩ | ⟨z1, z2⟩
    · subst z2
      simp only [c_is, ML.isNon, wpO]
      exact ⟨by rw [goodB_t z1]; rfl, G⟩
    · subst z2
      simp only [c_is, ML.isNon, wpO]
      exact ⟨by rw [goodB_f z1]; rfl, G⟩
  | _ => exact ⟨rfl, .refl hS⟩
end K41

namespace K41
open PySem L2 ML

def dw2 : ST := .seq (.ife (.cmp .Is (.idx (.var 3) (.var 5)) (.cN)) (.seq (.exp (.call 7 (.cons (.idx (.var 0) (.var 5)) (.cons (.var 6) (.cons (.var 1) (.cons (.var 2) (.nil))))))) (.seq (.stI (.var 3) (.var 5) (.var 6)) (.seq (.asg 7 (.bop false .Add (.bop false .Sub (.var 6) (.call 4 (.cons (.idx (.var 0) (.var 5)) (.nil)))) (.call 5 (.cons (.idx (.var 0) (.var 5)) (.nil))))) (.seq (.exp (.met false .extend (.var 4) (.cons (.lc false [(("goal" : Str), 8)] 8 (.itr (.call 6 (.cons (.var 0) (.cons (.var 5) (.nil))))) (.off) (.tup (.cons (.var 8) (.cons (.var 7) (.nil))))) (.nil)))) (.nil))))) (.seq (.ife (.cmp .NotEq (.idx (.var 3) (.var 5)) (.var 6)) (.seq (.rais ("BadCodes" : Str)) (.nil)) (.nil)) (.nil))) (.nil)
def dw1 : ST := .seq (.ife (.nt (.chn .LtE .Lt (.cI 0) (.var 5) (.blt false .len (.cons (.var 0) (.nil))))) (.seq (.rais ("BadCodes" : Str)) (.nil)) (.nil)) dw2
def dw0 : ST := .seq (.unp [5, 6] (.pop (.var 4))) dw1
def dwL : ST := .whl (.tru (.var 4)) dw0
def dp3 : ST := .seq (.ret (.frz (.var 3))) (.nil)
def dp2 : ST := .seq (.whl (.tru (.var 4)) (.seq (.unp [5, 6] (.pop (.var 4))) (.seq (.ife (.nt (.chn .LtE .Lt (.cI 0) (.var 5) (.blt false .len (.cons (.var 0) (.nil))))) (.seq (.rais ("BadCodes" : Str)) (.nil)) (.nil)) (.seq (.ife (.cmp .Is (.idx (.var 3) (.var 5)) (.cN)) (.seq (.exp (.call 7 (.cons (.idx (.var 0) (.var 5)) (.cons (.var 6) (.cons (.var 1) (.cons (.var 2) (.nil))))))) (.seq (.stI (.var 3) (.var 5) (.var 6)) (.seq (.asg 7 (.bop false .Add (.bop false .Sub (.var 6) (.call 4 (.cons (.idx (.var 0) (.var 5)) (.nil)))) (.call 5 (.cons (.idx (.var 0) (.var 5)) (.nil))))) (.seq (.exp (.met false .extend (.var 4) (.cons (.lc false [(("goal" : Str), 8)] 8 (.itr (.call 6 (.cons (.var 0) (.cons (.var 5) (.nil))))) (.off) (.tup (.cons (.var 8) (.cons (.var 7) (.nil))))) (.nil)))) (.nil))))) (.seq (.ife (.cmp .NotEq (.idx (.var 3) (.var 5)) (.var 6)) (.seq (.rais ("BadCodes" : Str)) (.nil)) (.nil)) (.nil))) (.nil))))) dp3
def dp1 : ST := .seq (.asg 4 (.lst true (.cons (.tup (.cons (.cI 0) (.cons (.cI 0) (.nil)))) (.nil)))) dp2
def dp0 : ST := .seq (.asg 3 (.bop true .Mult (.lst false (.cons (.cN) (.nil))) (.blt false .len (.cons (.var 0) (.nil))))) dp1
theorem dp_is : f_depths.body = dp0 := rfl
theorem dp2_is : dp2 = .seq dwL dp3 := rfl
theorem set_ob' {S : Store} {m n : Nat} {o : Ob} : (S.set m o).ob n = if n = m then some o else S.ob n := rfl
theorem new_ob' {S : Store} {n : Nat} {o : Ob} : (S.new o).ob n = if n = S.nx then some o else S.ob n := rfl
theorem set_nx {S : Store} {m : Nat} {o : Ob} : (S.set m o).nx = S.nx := rfl
theorem new_nx {S : Store} {o : Ob} : (S.new o).nx = S.nx + 1 := rfl
def oD : Option Int → D
  | none => .non
  | some d => .int d
def pD (p : P2) : D := .tup [.int p.1, .int p.2]
def cnt (fl : List (Option Int)) : Nat := fl.countP (·.isNone)
theorem cnt_set : ∀ {fl : List (Option Int)} {a : Nat} {d : Int}, fl[a]? = some none → cnt (fl.set a (some d)) + 1 = cnt fl
  | [], a, _, h => by simp at h
  | x :: fl, 0, d, h => by
    simp at h
    subst h
    simp [cnt, List.countP_cons]
  | x :: fl, a + 1, d, h => by
    have := cnt_set (fl := fl) (a := a) (d := d) (by simpa using h)
    simp only [cnt, List.set_cons_succ, List.countP_cons] at this ⊢
    omega
def Done (fl : List (Option Int)) (p : P2) : Prop := 0 ≤ p.1 ∧ fl[p.1.toNat]? = some (some p.2)
structure DI (cs : List CI) (sz : List Int) (ib : Bool) (fl : List (Option Int)) (rows : List P2) : Prop where
  len : fl.length = cs.length
  rw : ∀ p ∈ rows, R cs p
  dn : ∀ p, Done fl p → R cs p ∧ Okp cs sz ib p ∧ ∀ c x, cs[p.1.toNat]? = some c → x ∈ c.kd.goals p.1 → (x, c.next p.2) ∈ rows ∨ Done fl (x, c.next p.2)
  z : (0, 0) ∈ rows ∨ Done fl (0, 0)
theorem DI.fin {cs : List CI} {sz : List Int} {ib : Bool} {fl : List (Option Int)} (h : DI cs sz ib fl []) : Good cs sz ib ∧ Tab cs (fl.map oD) := by
  obtain ⟨g, e⟩ := good_of (P := Done fl) (cs := cs) (sz := sz) (ib := ib) (h.z.resolve_left (by simp)) (fun p hp => (h.dn p hp).1) (fun p hp => (h.dn p hp).2.1)
    (fun a d c x hp h0 hc hx => ((h.dn (a, d) hp).2.2 c x hc hx).resolve_left (by simp)) (fun a d d' ⟨_, z⟩ ⟨_, z'⟩ => by rw [z] at z'; simpa using z')
  refine ⟨g, by rw [List.length_map, h.len], fun a d ha hr => ?_, fun a ha hr => ?_⟩
  · obtain ⟨_, z⟩ := (e _).mp hr
    rw [List.getElem?_map, show fl[a]? = some (some d) by simpa using z]; rfl
  · rw [List.getElem?_map]
    cases q : fl[a]? with
    | none => rw [List.getElem?_eq_none_iff, h.len] at q; omega
    | some o =>
      cases o with
      | none => rfl
      | some d => exact absurd ⟨d, (e _).mpr ⟨Int.natCast_nonneg _, by simpa using q⟩⟩ hr
theorem DI.take {cs : List CI} {sz : List Int} {ib : Bool} {fl : List (Option Int)} {rows : List P2} {a : Nat} {d : Int} {c : CI} (h : DI cs sz ib fl (rows ++ [((a : Int), d)])) (hc : cs[a]? = some c) (hf : fl[a]? = some none) (hw : (c.want : Int) ≤ d) (hb : c.bad sz ib = false) :
    DI cs sz ib (fl.set a (some d)) (rows ++ (c.kd.goals a).map fun x => (x, c.next d)) := by
  have hr : R cs ((a : Int), d) := h.rw _ (by simp)
  have hal : a < fl.length := (List.getElem?_eq_some_iff.mp hf).1
  have da : Done (fl.set a (some d)) ((a : Int), d) := ⟨Int.natCast_nonneg _, by simp [hal]⟩
  have up : ∀ p, Done fl p → Done (fl.set a (some d)) p := fun p ⟨z1, z2⟩ => ⟨z1, by
    have ne : a ≠ p.1.toNat := fun z => by rw [← z, hf] at z2; cases z2
    rw [List.getElem?_set_ne ne]; exact z2⟩
  have tr : ∀ q, q ∈ rows ++ [((a : Int), d)] ∨ Done fl q → q ∈ (rows ++ (c.kd.goals a).map fun x => (x, c.next d)) ∨ Done (fl.set a (some d)) q := fun q z => by
    rcases z with z | z
    · rcases List.mem_append.mp z with z | z
      · exact .inl (List.mem_append_left _ z)
      · rw [List.mem_singleton] at z; subst z; exact .inr da
    · exact .inr (up q z)
  refine ⟨by rw [List.length_set, h.len], fun p hp => ?_, fun p hp => ?_, tr _ h.z⟩
  · rcases List.mem_append.mp hp with hp | hp
    · exact h.rw p (List.mem_append_left _ hp)
    · obtain ⟨x, hx, rfl⟩ := List.mem_map.mp hp
      exact .step hr (Int.natCast_nonneg _) (by simpa using hc) hx
  · by_cases q : p.1.toNat = a
    · obtain ⟨z1, z2⟩ := hp
      rw [q, List.getElem?_set_self hal] at z2
      have e2 : p.2 = d := by simpa using z2.symm
      have e1 : p.1 = (a : Int) := by omega
      have ep : p = ((a : Int), d) := Prod.ext e1 e2
      subst ep
      refine ⟨hr, ⟨c, Int.natCast_nonneg _, by simpa using hc, hw, hb⟩, fun c' x hc' hx => .inl (List.mem_append_right _ ?_)⟩
      have : c' = c := by
        have hc2 : cs[a]? = some c' := by simpa using hc'
        rw [hc] at hc2
        exact (Option.some.inj hc2).symm
      subst this
      exact List.mem_map.mpr ⟨x, hx, rfl⟩
    · have hp' : Done fl p := ⟨hp.1, by have := hp.2; rwa [List.getElem?_set_ne (Ne.symm q)] at this⟩
      obtain ⟨z1, z2, z3⟩ := h.dn p hp'
      exact ⟨z1, z2, fun c' x hc' hx => tr _ (z3 c' x hc' hx)⟩
theorem DI.skip {cs : List CI} {sz : List Int} {ib : Bool} {fl : List (Option Int)} {rows : List P2} {a : Nat} {d : Int} (h : DI cs sz ib fl (rows ++ [((a : Int), d)])) (hf : fl[a]? = some (some d)) : DI cs sz ib fl rows := by
  have da : Done fl ((a : Int), d) := ⟨Int.natCast_nonneg _, by simpa using hf⟩
  have tr : ∀ q, q ∈ rows ++ [((a : Int), d)] ∨ Done fl q → q ∈ rows ∨ Done fl q := fun q z => by
    rcases z with z | z
    · rcases List.mem_append.mp z with z | z
      · exact .inl z
      · rw [List.mem_singleton] at z; subst z; exact .inr da
    · exact .inr z
  exact ⟨h.len, fun p hp => h.rw p (List.mem_append_left _ hp), fun p hp => ⟨(h.dn p hp).1, (h.dn p hp).2.1, fun c x h1 h2 => tr _ ((h.dn p hp).2.2 c x h1 h2)⟩, tr _ h.z⟩
theorem rep_one {x : D} : ∀ n, (List.replicate n [x]).flatten = List.replicate n x
  | 0 => rfl
  | n + 1 => by rw [List.replicate_succ, List.flatten_cons, rep_one n]; rfl
theorem mul_non {S : Store} {n : Nat} (h : n ≤ 100) : binP S .Mult (.lst [.non]) (.int (n : Int)) = some (.newl (List.replicate n .non)) := by
  show guardP (decide (0 ≤ (n : Int)) && decide ((n : Int) < 1000) && decide ([D.non].length * (n : Int).toNat ≤ nMax)) (PR.newl (List.replicate (n : Int).toNat [D.non]).flatten) = _
  rw [decide_eq_true (Int.natCast_nonneg n), decide_eq_true (show (n : Int) < 1000 by omega), Int.toNat_natCast, decide_eq_true (show [D.non].length * n ≤ nMax from Nat.le_trans (show 1 * n ≤ 100 by omega) (by decide)), rep_one]
  rfl
theorem map_rep {n : Nat} : (List.replicate n (none : Option Int)).map oD = List.replicate n .non := by rw [List.map_replicate]; rfl
theorem cnt_rep {n : Nat} : cnt (List.replicate n none) = n := by unfold cnt; rw [List.countP_replicate]; simp
theorem app_loc {S : Store} {f : Nat} {xs : List D} {y : D} (h : S.ob f = some (.lst xs)) (hl : xs.length < 16000000) : isTy S Mf.append.ty (.loc f) = true ∧ mfM false .append (.loc f) [y] S = .ok .non (S.set f (.lst (xs ++ [y]))) := by
  constructor
  · show (("list" : String) == "list" && (obLst (S.ob f)).isSome) = true
    rw [h]
    rfl
  · show (match S.ob f with
      | some (.lst xs) => if xs.length < nMax then Rs.ok D.non (S.set f (.lst (xs ++ [y]))) else .bad
      | _ => .bad) = _
    rw [h]
    exact if_pos hl
theorem ext_lst {S : Store} {f : Nat} {xs ys : List D} (h : S.ob f = some (.lst xs)) (hl : xs.length + ys.length ≤ 16000000) : isTy S Mf.extend.ty (.loc f) = true ∧ mfM false .extend (.loc f) [.lst ys] S = .ok .non (S.set f (.lst (xs ++ ys))) := by
  constructor
  · show (("list" : String) == "list" && (obLst (S.ob f)).isSome) = true
    rw [h]
    rfl
  · show (match S.ob f with
      | some (.lst xs) => if xs.length + ys.length ≤ nMax then Rs.ok D.non (S.set f (.lst (xs ++ ys))) else .bad
      | _ => .bad) = _
    rw [h]
    exact if_pos hl
theorem pop_loc {S : Store} {f : Nat} {xs : List D} {y : D} (h : S.ob f = some (.lst (xs ++ [y]))) : popM (.loc f) S = .ok y (S.set f (.lst xs)) := by
  show (match obLst (S.ob f) with
    | some xs => match xs[xs.length - 1]? with
      | some y => Rs.ok y (S.set f (.lst xs.dropLast))
      | none => .bad
    | none => .bad) = _
  rw [h, obl]
  simp only
  rw [List.length_append, show xs.length + [y].length - 1 = xs.length by simp, List.getElem?_append_right (Nat.le_refl _), Nat.sub_self, List.dropLast_concat]
  rfl
theorem ix_loc {S : Store} {f : Nat} {xs : List D} {m : Nat} {y : D} (h : S.ob f = some (.lst xs)) (hy : xs[m]? = some y) : ixP S (.loc f) (.int (m : Int)) = some y := by
  show (obLst (S.ob f)).bind (fun xs => atI xs (m : Int)) = _
  rw [h]
  exact atI_nat' hy
theorem st_loc {S : Store} {f : Nat} {xs : List D} {m : Nat} {y : D} (h : S.ob f = some (.lst xs)) (hm : m < xs.length) : storeM (.loc f) (.int (m : Int)) y S = .ok () (S.set f (.lst (xs.set m y))) := by
  show (match obLst (S.ob f) with
    | some xs => match ixN xs.length (m : Int) with
      | some j => Rs.ok () (S.set f (.lst (xs.set j y)))
      | none => .bad
    | none => .bad) = _
  rw [h, obl]
  simp only
  rw [ixN_nat hm]
theorem tr_loc {S : Store} {f : Nat} {xs : List D} (h : S.ob f = some (.lst xs)) : truP S (.loc f) = some (!xs.isEmpty) := by
  show (match S.ob f with
    | some (.lst xs) => some (!xs.isEmpty)
    | some (.dct kvs) => some (!kvs.isEmpty)
    | _ => none) = _
  rw [h]
theorem turn_ups' {env : ML.Env} {vs : List Nat} {i : Nat} {ft : ML.Env → M Bool} {fe : ML.Env → M D} {x : D} {S : Store} {d : D} (h1 : ft ((wipeE env vs).set i (some x)) S = .ok true S) (h2 : Ups (fe ((wipeE env vs).set i (some x)) S) S d) : Ups (turnC env vs i ft fe x S) S (some d) := turn_ups h1 h2
end K41

namespace K41
open PySem L2 ML

theorem not_good {cs : List CI} {sz : List Int} {ib : Bool} {p : P2} (h : R cs p) (n : ¬ Okp cs sz ib p) : ¬ Good cs sz ib := fun g => n (g.ok p h)
theorem last_of {rows : List P2} (h : rows ≠ []) : ∃ rs p, rows = rs ++ [p] := ⟨rows.dropLast, rows.getLast h, (List.dropLast_concat_getLast h).symm⟩
theorem ne_int {S : Store} {i j : Int} : cmpP S .NotEq (.int i) (.int j) = some (!decide (i = j)) := c_ne_int
theorem depthsU {n : Nat} (H : ∀ m, n = m + 1 → DepS m) : DepS n := by
  intro L ds cs sz ib S hL hS hcs hl hz hn
  obtain ⟨k, rfl⟩ : ∃ n, L = n + 1 := ⟨L - 1, by omega⟩
  show wpr (endF (evS (sem T k) (gvs T) f_depths.body [some (.tup ds), some (intsD sz), some (.bl ib), none, none, none, none, none, none] S)) _ _
  rw [wrs_end, dp_is]
  have hlen := hcs.len
  simp only [dp0, wrs_seqL, wS_asg, wS_ife, wS_ret, wS_nil, wS_exp, wE_cS, wE_cI, wE_cN, wE_cB, wE_call, wE_var, wE_glb, wE_bop, wE_idx, wE_lst, wE_tup, wE_blt, wE_met, wT_cmp, wT_and, wT_or, wT_nt, wT_one, wT_tru, wE_ite, wE_and, wE_or, wE_one, wE_nt, wE_cmp, wE_lc, wI_itr, wI_rng, wA_cons, wA_nil, wpO, wpF, List.set, List.getElem?_cons_zero, List.getElem?_cons_succ, Option.join_some, Bool.false_eq_true, if_false, if_true, wE_neg, wE_chn, wE_lset, wE_inW, wE_ixW, wS_fr, wS_rais, wT_chn, t_bl, later_nil, wE_fld, wE_mcl, wE_mk, wE_dnw, wE_dgt, wE_din, wT_din, wE_dcp, wE_rev, wE_cmn, wT_cmn, wS_stF, wS_stD, wS_whl, wE_slc, wL_off, wE_pop, wE_dlt, wA_kv, wS_frT, wS_unp, wS_asgC, wS_stI, wE_frz, nl1, true_and, b_len_tup]
  rw [mul_non (by omega)]
  simp only [wpF, if_true]
  rw [later]
  simp only [dp1, wrs_seqL, wS_asg, wS_ife, wS_ret, wS_nil, wS_exp, wE_cS, wE_cI, wE_cN, wE_cB, wE_call, wE_var, wE_glb, wE_bop, wE_idx, wE_lst, wE_tup, wE_blt, wE_met, wT_cmp, wT_and, wT_or, wT_nt, wT_one, wT_tru, wE_ite, wE_and, wE_or, wE_one, wE_nt, wE_cmp, wE_lc, wI_itr, wI_rng, wA_cons, wA_nil, wpO, wpF, List.set, List.getElem?_cons_zero, List.getElem?_cons_succ, Option.join_some, Bool.false_eq_true, if_false, if_true, wE_neg, wE_chn, wE_lset, wE_inW, wE_ixW, wS_fr, wS_rais, wT_chn, t_bl, later_nil, wE_fld, wE_mcl, wE_mk, wE_dnw, wE_dgt, wE_din, wT_din, wE_dcp, wE_rev, wE_cmn, wT_cmn, wS_stF, wS_stD, wS_whl, wE_slc, wL_off, wE_pop, wE_dlt, wA_kv, wS_frT, wS_unp, wS_asgC, wS_stI, wE_frz, nl1, nl2, true_and]
  rw [later, dp2_is]
  simp only [dwL, wrs_seqL, wS_asg, wS_ife, wS_ret, wS_nil, wS_exp, wE_cS, wE_cI, wE_cN, wE_cB, wE_call, wE_var, wE_glb, wE_bop, wE_idx, wE_lst, wE_tup, wE_blt, wE_met, wT_cmp, wT_and, wT_or, wT_nt, wT_one, wT_tru, wE_ite, wE_and, wE_or, wE_one, wE_nt, wE_cmp, wE_lc, wI_itr, wI_rng, wA_cons, wA_nil, wpO, wpF, List.set, List.getElem?_cons_zero, List.getElem?_cons_succ, Option.join_some, Bool.false_eq_true, if_false, if_true, wE_neg, wE_chn, wE_lset, wE_inW, wE_ixW, wS_fr, wS_rais, wT_chn, t_bl, later_nil, wE_fld, wE_mcl, wE_mk, wE_dnw, wE_dgt, wE_din, wT_din, wE_dcp, wE_rev, wE_cmn, wT_cmn, wS_stF, wS_stD, wS_whl, wE_slc, wL_off, wE_pop, wE_dlt, wA_kv, wS_frT, wS_unp, wS_asgC, wS_stI, wE_frz, new_nx]
  have G0 : Gr S ((S.new (.lst (List.replicate ds.length .non))).new (.lst [.tup [.int 0, .int 0]])) := (Gr.new hS).trans (Gr.new (Gr.new hS).wf)
  refine wrs_while (fun m env S' => ∃ fl rows z5 z6 z7 z8, env = [some (.tup ds), some (intsD sz), some (.bl ib), some (.loc S.nx), some (.loc (S.nx + 1)), z5, z6, z7, z8] ∧ Gr S S' ∧ S.nx + 2 ≤ S'.nx ∧ S'.ob S.nx = some (.lst (fl.map oD)) ∧ S'.ob (S.nx + 1) = some (.lst (rows.map pD)) ∧ DI cs sz ib fl rows ∧ m = 2 * cnt fl + rows.length ∧ rows.length ≤ 100 ∧ m ≤ 50) (m := 2 * ds.length + 1) (by show _ < 1000; omega) ?_ ?_
  · refine ⟨List.replicate ds.length none, [(0, 0)], none, none, none, none, rfl, G0, Nat.le_refl _, ?_, ?_, ⟨by rw [List.length_replicate, hlen], fun p hp => ?_, fun p hp => ?_, .inl (by simp)⟩, by rw [cnt_rep]; rfl, by decide, by omega⟩
    · rw [new_ob', if_neg (by rw [new_nx]; omega), new_ob', if_pos rfl, map_rep]
    · rw [new_ob', if_pos (by rw [new_nx])]; rfl
    · rw [List.mem_singleton] at hp; subst hp; exact .zero
    · obtain ⟨_, z⟩ := hp
      rw [List.getElem?_replicate] at z
      split at z <;> cases z
  · rintro m env S' ⟨fl, rows, z5, z6, z7, z8, rfl, G, nx, o1, o2, dI, em, rl, mm⟩
    simp only [wrs_seqL, wS_asg, wS_ife, wS_ret, wS_nil, wS_exp, wE_cS, wE_cI, wE_cN, wE_cB, wE_call, wE_var, wE_glb, wE_bop, wE_idx, wE_lst, wE_tup, wE_blt, wE_met, wT_cmp, wT_and, wT_or, wT_nt, wT_one, wT_tru, wE_ite, wE_and, wE_or, wE_one, wE_nt, wE_cmp, wE_lc, wI_itr, wI_rng, wA_cons, wA_nil, wpO, wpF, List.set, List.getElem?_cons_zero, List.getElem?_cons_succ, Option.join_some, Bool.false_eq_true, if_false, if_true, wE_neg, wE_chn, wE_lset, wE_inW, wE_ixW, wS_fr, wS_rais, wT_chn, t_bl, later_nil, wE_fld, wE_mcl, wE_mk, wE_dnw, wE_dgt, wE_din, wT_din, wE_dcp, wE_rev, wE_cmn, wT_cmn, wS_stF, wS_stD, wS_whl, wE_slc, wL_off, wE_pop, wE_dlt, wA_kv, wS_frT, wS_unp, wS_asgC, wS_stI, wE_frz]
    rw [tr_loc o2]
    simp only [wpO]
    by_cases he : rows = []
    · subst he
      simp only [List.map_nil, List.isEmpty_nil, Bool.not_true, Bool.false_eq_true, if_false]
      rw [later]
      simp only [dp3, wrs_seqL, wS_asg, wS_ife, wS_ret, wS_nil, wS_exp, wE_cS, wE_cI, wE_cN, wE_cB, wE_call, wE_var, wE_glb, wE_bop, wE_idx, wE_lst, wE_tup, wE_blt, wE_met, wT_cmp, wT_and, wT_or, wT_nt, wT_one, wT_tru, wE_ite, wE_and, wE_or, wE_one, wE_nt, wE_cmp, wE_lc, wI_itr, wI_rng, wA_cons, wA_nil, wpO, wpF, List.set, List.getElem?_cons_zero, List.getElem?_cons_succ, Option.join_some, Bool.false_eq_true, if_false, if_true, wE_neg, wE_chn, wE_lset, wE_inW, wE_ixW, wS_fr, wS_rais, wT_chn, t_bl, later_nil, wE_fld, wE_mcl, wE_mk, wE_dnw, wE_dgt, wE_din, wT_din, wE_dcp, wE_rev, wE_cmn, wT_cmn, wS_stF, wS_stD, wS_whl, wE_slc, wL_off, wE_pop, wE_dlt, wA_kv, wS_frT, wS_unp, wS_asgC, wS_stI, wE_frz, o1, obl]
      obtain ⟨g, tb⟩ := dI.fin
      exact ⟨g, ⟨_, rfl, tb⟩, G.del (Nat.le_refl _)⟩
    · obtain ⟨rs, p, rfl⟩ := last_of he
      obtain ⟨a, d⟩ := p
      rw [show (!((rs ++ [(a, d)]).map pD).isEmpty) = true by simp, if_pos rfl]
      simp only [dw0, wrs_seqL, wS_asg, wS_ife, wS_ret, wS_nil, wS_exp, wE_cS, wE_cI, wE_cN, wE_cB, wE_call, wE_var, wE_glb, wE_bop, wE_idx, wE_lst, wE_tup, wE_blt, wE_met, wT_cmp, wT_and, wT_or, wT_nt, wT_one, wT_tru, wE_ite, wE_and, wE_or, wE_one, wE_nt, wE_cmp, wE_lc, wI_itr, wI_rng, wA_cons, wA_nil, wpO, wpF, List.set, List.getElem?_cons_zero, List.getElem?_cons_succ, Option.join_some, Bool.false_eq_true, if_false, if_true, wE_neg, wE_chn, wE_lset, wE_inW, wE_ixW, wS_fr, wS_rais, wT_chn, t_bl, later_nil, wE_fld, wE_mcl, wE_mk, wE_dnw, wE_dgt, wE_din, wT_din, wE_dcp, wE_rev, wE_cmn, wT_cmn, wS_stF, wS_stD, wS_whl, wE_slc, wL_off, wE_pop, wE_dlt, wA_kv, wS_frT, wS_unp, wS_asgC, wS_stI, wE_frz]
      rw [List.map_append] at o2
      rw [pop_loc (xs := rs.map pD) (y := pD (a, d)) o2, wpr_ok]
      simp only [pD, tupOf, wpO, setAll, List.set]
      refine ⟨rfl, ?_⟩
      have hr : R cs (a, d) := dI.rw _ (by simp)
      have G1 : Gr S (S'.set (S.nx + 1) (.lst (rs.map pD))) := G.set (by omega) (by omega)
      have p1 : (S'.set (S.nx + 1) (.lst (rs.map pD))).ob S.nx = some (.lst (fl.map oD)) := by rw [set_ob', if_neg (by omega)]; exact o1
      have p2 : (S'.set (S.nx + 1) (.lst (rs.map pD))).ob (S.nx + 1) = some (.lst (rs.map pD)) := Store.set_ob
      have nx1 : S.nx + 2 ≤ (S'.set (S.nx + 1) (.lst (rs.map pD))).nx := nx
      generalize S'.set (S.nx + 1) (.lst (rs.map pD)) = S1 at G1 p1 p2 nx1 ⊢
      rw [later]
      simp only [dw1, wrs_seqL, wS_asg, wS_ife, wS_ret, wS_nil, wS_exp, wE_cS, wE_cI, wE_cN, wE_cB, wE_call, wE_var, wE_glb, wE_bop, wE_idx, wE_lst, wE_tup, wE_blt, wE_met, wT_cmp, wT_and, wT_or, wT_nt, wT_one, wT_tru, wE_ite, wE_and, wE_or, wE_one, wE_nt, wE_cmp, wE_lc, wI_itr, wI_rng, wA_cons, wA_nil, wpO, wpF, List.set, List.getElem?_cons_zero, List.getElem?_cons_succ, Option.join_some, Bool.false_eq_true, if_false, if_true, wE_neg, wE_chn, wE_lset, wE_inW, wE_ixW, wS_fr, wS_rais, wT_chn, t_bl, later_nil, wE_fld, wE_mcl, wE_mk, wE_dnw, wE_dgt, wE_din, wT_din, wE_dcp, wE_rev, wE_cmn, wT_cmn, wS_stF, wS_stD, wS_whl, wE_slc, wL_off, wE_pop, wE_dlt, wA_kv, wS_frT, wS_unp, wS_asgC, wS_stI, wE_frz, b_len_tup, c_le, c_lt]
      by_cases h0 : 0 ≤ a
      · rw [decide_eq_true h0]
        simp only [if_true]
        by_cases h1 : a < ds.length
        · rw [decide_eq_true h1]
          simp only [Bool.not_true, Bool.false_eq_true, if_false]
          obtain ⟨b, rfl⟩ : ∃ b : Nat, a = b := ⟨a.toNat, by omega⟩
          have hb : b < cs.length := by omega
          obtain ⟨c, hc⟩ : ∃ c, cs[b]? = some c := ⟨_, List.getElem?_eq_getElem hb⟩
          obtain ⟨dd, hdd, hcv⟩ := hcs.at hc
          obtain ⟨o, ho⟩ : ∃ o, fl[b]? = some o := ⟨_, List.getElem?_eq_getElem (by rw [dI.len]; exact hb)⟩
          have ix1 : ∀ S, ixP S (.tup ds) (.int (b : Int)) = some dd := fun S => by rw [ML.ix_tup]; exact atI_nat' hdd
          try rw [wS_nil]
          rw [later]
          simp only [dw2, wrs_seqL, wS_asg, wS_ife, wS_ret, wS_nil, wS_exp, wE_cS, wE_cI, wE_cN, wE_cB, wE_call, wE_var, wE_glb, wE_bop, wE_idx, wE_lst, wE_tup, wE_blt, wE_met, wT_cmp, wT_and, wT_or, wT_nt, wT_one, wT_tru, wE_ite, wE_and, wE_or, wE_one, wE_nt, wE_cmp, wE_lc, wI_itr, wI_rng, wA_cons, wA_nil, wpO, wpF, List.set, List.getElem?_cons_zero, List.getElem?_cons_succ, Option.join_some, Bool.false_eq_true, if_false, if_true, wE_neg, wE_chn, wE_lset, wE_inW, wE_ixW, wS_fr, wS_rais, wT_chn, t_bl, later_nil, wE_fld, wE_mcl, wE_mk, wE_dnw, wE_dgt, wE_din, wT_din, wE_dcp, wE_rev, wE_cmn, wT_cmn, wS_stF, wS_stD, wS_whl, wE_slc, wL_off, wE_pop, wE_dlt, wA_kv, wS_frT, wS_unp, wS_asgC, wS_stI, wE_frz]
          rw [ix_loc p1 (y := oD o) (by rw [List.getElem?_map, ho]; rfl)]
          simp only [wpO, c_is]
          cases o with
          | none =>
            simp only [oD, ML.isNon, if_true, wrs_seqL, wS_asg, wS_ife, wS_ret, wS_nil, wS_exp, wE_cS, wE_cI, wE_cN, wE_cB, wE_call, wE_var, wE_glb, wE_bop, wE_idx, wE_lst, wE_tup, wE_blt, wE_met, wT_cmp, wT_and, wT_or, wT_nt, wT_one, wT_tru, wE_ite, wE_and, wE_or, wE_one, wE_nt, wE_cmp, wE_lc, wI_itr, wI_rng, wA_cons, wA_nil, wpO, wpF, List.set, List.getElem?_cons_zero, List.getElem?_cons_succ, Option.join_some, Bool.false_eq_true, if_false, if_true, wE_neg, wE_chn, wE_lset, wE_inW, wE_ixW, wS_fr, wS_rais, wT_chn, t_bl, later_nil, wE_fld, wE_mcl, wE_mk, wE_dnw, wE_dgt, wE_din, wT_din, wE_dcp, wE_rev, wE_cmn, wT_cmn, wS_stF, wS_stD, wS_whl, wE_slc, wL_off, wE_pop, wE_dlt, wA_kv, wS_frT, wS_unp, wS_asgC, wS_stI, wE_frz, ix1]
            refine (lookU (by omega) G1.wf hcv hz hn H).use (fun hv S2 G2 => ?_) (fun hv S2 G2 => ?_)
            · rw [Bool.and_eq_true, decide_eq_true_eq] at hv
              obtain ⟨v1, v2⟩ := hv
              have v2 : c.bad sz ib = false := by cases q : c.bad sz ib with | true => rw [q] at v2; cases v2 | false => rfl
              have q1 := (G2.ob S.nx (by omega)).trans p1
              have q2 := (G2.ob (S.nx + 1) (by omega)).trans p2
              have nx2 := G2.nx
              rw [later]
              simp only [wrs_seqL, wS_asg, wS_ife, wS_ret, wS_nil, wS_exp, wE_cS, wE_cI, wE_cN, wE_cB, wE_call, wE_var, wE_glb, wE_bop, wE_idx, wE_lst, wE_tup, wE_blt, wE_met, wT_cmp, wT_and, wT_or, wT_nt, wT_one, wT_tru, wE_ite, wE_and, wE_or, wE_one, wE_nt, wE_cmp, wE_lc, wI_itr, wI_rng, wA_cons, wA_nil, wpO, wpF, List.set, List.getElem?_cons_zero, List.getElem?_cons_succ, Option.join_some, Bool.false_eq_true, if_false, if_true, wE_neg, wE_chn, wE_lset, wE_inW, wE_ixW, wS_fr, wS_rais, wT_chn, t_bl, later_nil, wE_fld, wE_mcl, wE_mk, wE_dnw, wE_dgt, wE_din, wT_din, wE_dcp, wE_rev, wE_cmn, wT_cmn, wS_stF, wS_stD, wS_whl, wE_slc, wL_off, wE_pop, wE_dlt, wA_kv, wS_frT, wS_unp, wS_asgC, wS_stI, wE_frz]
              rw [st_loc q1 (by rw [List.length_map, dI.len]; exact hb), wpr_ok]
              have G3 : Gr S (S2.set S.nx (.lst ((fl.map oD).set b (.int d)))) := (G1.trans G2).set (Nat.le_refl _) (by omega)
              have r1 : (S2.set S.nx (.lst ((fl.map oD).set b (.int d)))).ob S.nx = some (.lst ((fl.set b (some d)).map oD)) := by rw [Store.set_ob, List.map_set]; rfl
              have r2 : (S2.set S.nx (.lst ((fl.map oD).set b (.int d)))).ob (S.nx + 1) = some (.lst (rs.map pD)) := by rw [set_ob', if_neg (by omega)]; exact q2
              have nx3 : S.nx + 2 ≤ (S2.set S.nx (.lst ((fl.map oD).set b (.int d)))).nx := by show _ ≤ S2.nx; omega
              generalize S2.set S.nx (.lst ((fl.map oD).set b (.int d))) = S3 at G3 r1 r2 nx3 ⊢
              rw [later]
              simp only [wrs_seqL, wS_asg, wS_ife, wS_ret, wS_nil, wS_exp, wE_cS, wE_cI, wE_cN, wE_cB, wE_call, wE_var, wE_glb, wE_bop, wE_idx, wE_lst, wE_tup, wE_blt, wE_met, wT_cmp, wT_and, wT_or, wT_nt, wT_one, wT_tru, wE_ite, wE_and, wE_or, wE_one, wE_nt, wE_cmp, wE_lc, wI_itr, wI_rng, wA_cons, wA_nil, wpO, wpF, List.set, List.getElem?_cons_zero, List.getElem?_cons_succ, Option.join_some, Bool.false_eq_true, if_false, if_true, wE_neg, wE_chn, wE_lset, wE_inW, wE_ixW, wS_fr, wS_rais, wT_chn, t_bl, later_nil, wE_fld, wE_mcl, wE_mk, wE_dnw, wE_dgt, wE_din, wT_din, wE_dcp, wE_rev, wE_cmn, wT_cmn, wS_stF, wS_stD, wS_whl, wE_slc, wL_off, wE_pop, wE_dlt, wA_kv, wS_frT, wS_unp, wS_asgC, wS_stI, wE_frz, ix1]
              refine (takenU (by omega) G3.wf hcv).wpr fun S4 G4 => ?_
              rw [sub_int]
              simp only [wpF, ix1, wpO]
              refine (leftU (by omega) G4.wf hcv).wpr fun S5 G5 => ?_
              rw [add_int]
              simp only [wpF]
              rw [later]
              have G35 := G4.trans G5
              simp only [wrs_seqL, wS_asg, wS_ife, wS_ret, wS_nil, wS_exp, wE_cS, wE_cI, wE_cN, wE_cB, wE_call, wE_var, wE_glb, wE_bop, wE_idx, wE_lst, wE_tup, wE_blt, wE_met, wT_cmp, wT_and, wT_or, wT_nt, wT_one, wT_tru, wE_ite, wE_and, wE_or, wE_one, wE_nt, wE_cmp, wE_lc, wI_itr, wI_rng, wA_cons, wA_nil, wpO, wpF, List.set, List.getElem?_cons_zero, List.getElem?_cons_succ, Option.join_some, Bool.false_eq_true, if_false, if_true, wE_neg, wE_chn, wE_lset, wE_inW, wE_ixW, wS_fr, wS_rais, wT_chn, t_bl, later_nil, wE_fld, wE_mcl, wE_mk, wE_dnw, wE_dgt, wE_din, wT_din, wE_dcp, wE_rev, wE_cmn, wT_cmn, wS_stF, wS_stD, wS_whl, wE_slc, wL_off, wE_pop, wE_dlt, wA_kv, wS_frT, wS_unp, wS_asgC, wS_stI, wE_frz]
              have s2 := (G35.ob (S.nx + 1) (by omega)).trans r2
              refine ⟨(ext_lst (ys := []) s2 (by rw [List.length_map]; simp at rl; show rs.length + 0 ≤ _; omega)).1, ?_⟩
              refine (goalsU (by omega) G5.wf h0 (by simpa using hdd) hcv).wpr fun S6 G6 => ?_
              rw [show srcOf S6 (intsD (c.kd.goals b)) = some (.vals ((c.kd.goals b).map D.int)) from rfl]
              simp only [wpO]
              refine (comp_keep_all (fun x => match x with | .int x => pD (x, d - c.want + c.leave) | _ => .non) G6.wf (by rw [List.length_map]; exact Nat.lt_of_le_of_lt goals_len (by decide)) fun y hy S' G' => ?_).wpr fun S7 G7 => ?_
              · obtain ⟨x, hx, rfl⟩ := List.mem_map.mp hy
                refine turn_ups rfl (Gv.ups ?_)
                simp only [wrs_seqL, wS_asg, wS_ife, wS_ret, wS_nil, wS_exp, wE_cS, wE_cI, wE_cN, wE_cB, wE_call, wE_var, wE_glb, wE_bop, wE_idx, wE_lst, wE_tup, wE_blt, wE_met, wT_cmp, wT_and, wT_or, wT_nt, wT_one, wT_tru, wE_ite, wE_and, wE_or, wE_one, wE_nt, wE_cmp, wE_lc, wI_itr, wI_rng, wA_cons, wA_nil, wpO, wpF, List.set, List.getElem?_cons_zero, List.getElem?_cons_succ, Option.join_some, Bool.false_eq_true, if_false, if_true, wE_neg, wE_chn, wE_lset, wE_inW, wE_ixW, wS_fr, wS_rais, wT_chn, t_bl, later_nil, wE_fld, wE_mcl, wE_mk, wE_dnw, wE_dgt, wE_din, wT_din, wE_dcp, wE_rev, wE_cmn, wT_cmn, wS_stF, wS_stD, wS_whl, wE_slc, wL_off, wE_pop, wE_dlt, wA_kv, wS_frT, wS_unp, wS_asgC, wS_stI, wE_frz, List.map, wipeE, nl2, true_and]
                exact ⟨rfl, .refl G'.wf⟩
              · have G37 := (G35.trans G6).trans G7
                have t1 := (G37.ob S.nx (by omega)).trans r1
                have t2 := (G37.ob (S.nx + 1) (by omega)).trans r2
                have nx7 := G37.nx
                have gl := goals_len (k := c.kd) (a := (b : Int))
                have rl' : rs.length + 1 ≤ 100 := by simpa using rl
                rw [(ext_lst t2 (by rw [List.length_map, List.length_map, List.length_map]; omega)).2, wpr_ok]
                try rw [later_nil]
                try rw [later_nil]
                try rw [later_nil]
                have em' : m = 2 * cnt fl + (rs.length + 1) := by simpa using em
                have cs' := cnt_set (d := d) ho
                refine ⟨2 * cnt (fl.set b (some d)) + (rs ++ (c.kd.goals b).map fun x => (x, c.next d)).length, by rw [List.length_append, List.length_map]; omega, fl.set b (some d), rs ++ (c.kd.goals b).map (fun x => (x, c.next d)), _, _, _, _, rfl, (G3.trans G37).set (by omega) (by omega), by rw [set_nx]; omega, ?_, ?_, dI.take hc ho v1 v2, rfl, by rw [List.length_append, List.length_map]; omega, by rw [List.length_append, List.length_map]; omega⟩
                · rw [set_ob', if_neg (by omega)]; exact t1
                · rw [Store.set_ob, List.map_append, List.map_map, List.map_map]; rfl
            · refine ⟨not_good hr fun ⟨c', y1, y2, y3, y4⟩ => ?_, rfl, G1.trans G2⟩
              have y2 : cs[b]? = some c' := by simpa using y2
              rw [hc] at y2
              cases y2
              rw [y4, decide_eq_true y3] at hv
              cases hv
          | some d' =>
            simp only [oD, ML.isNon, Bool.false_eq_true, if_false, wrs_seqL, wS_asg, wS_ife, wS_ret, wS_nil, wS_exp, wE_cS, wE_cI, wE_cN, wE_cB, wE_call, wE_var, wE_glb, wE_bop, wE_idx, wE_lst, wE_tup, wE_blt, wE_met, wT_cmp, wT_and, wT_or, wT_nt, wT_one, wT_tru, wE_ite, wE_and, wE_or, wE_one, wE_nt, wE_cmp, wE_lc, wI_itr, wI_rng, wA_cons, wA_nil, wpO, wpF, List.set, List.getElem?_cons_zero, List.getElem?_cons_succ, Option.join_some, Bool.false_eq_true, if_false, if_true, wE_neg, wE_chn, wE_lset, wE_inW, wE_ixW, wS_fr, wS_rais, wT_chn, t_bl, later_nil, wE_fld, wE_mcl, wE_mk, wE_dnw, wE_dgt, wE_din, wT_din, wE_dcp, wE_rev, wE_cmn, wT_cmn, wS_stF, wS_stD, wS_whl, wE_slc, wL_off, wE_pop, wE_dlt, wA_kv, wS_frT, wS_unp, wS_asgC, wS_stI, wE_frz]
            simp only [wpO, ne_int]
            have hr' := (dI.dn ((b : Int), d') ⟨h0, by simpa using ho⟩).1
            by_cases e : d' = d
            · rw [decide_eq_true e]
              simp only [Bool.not_true, Bool.false_eq_true, if_false]
              subst e
              try rw [later_nil]
              try rw [later_nil]
              have em' : m = 2 * cnt fl + (rs.length + 1) := by simpa using em
              have rl' : rs.length + 1 ≤ 100 := by simpa using rl
              exact ⟨2 * cnt fl + rs.length, by omega, fl, rs, _, _, _, _, rfl, G1, nx1, p1, p2, dI.skip ho, rfl, by omega, by omega⟩
            · rw [decide_eq_false e]
              simp only [Bool.not_false, if_true]
              exact ⟨fun g => e (g.fn _ _ _ hr' hr), rfl, G1⟩
        · rw [decide_eq_false h1]
          simp only [Bool.not_false, if_true]
          refine ⟨not_good hr fun ⟨c', y1, y2, y3, y4⟩ => ?_, rfl, G1⟩
          have := (List.getElem?_eq_some_iff.mp y2).1
          have y1 : 0 ≤ a := y1
          have : a.toNat < cs.length := this
          omega
      · rw [decide_eq_false h0]
        simp only [Bool.false_eq_true, if_false, Bool.not_false, if_true]
        exact ⟨not_good hr fun ⟨c', y1, _⟩ => h0 y1, rfl, G1⟩
end K41

namespace K41
open PySem L2 ML

def lw9 : ST := .seq (.asg 3 (.bop false .Add (.var 3) (.lc false [(("one" : Str), 7)] 7 (.itr (.var 11)) (.cmp .NotIn (.var 7) (.var 3)) (.var 7)))) (.nil)
def lw8 : ST := .seq (.ife (.con .Or (.cmp .Eq (.idx (.var 8) (.cI 0)) (.cS ("jump" : Str))) (.one (.con .And (.cmp .Eq (.idx (.var 8) (.cI 0)) (.cS ("choose" : Str))) (.one (.cmp .NotEq (.idx (.var 8) (.cI 1)) (.cI 0)))))) (.seq (.exp (.met false .append (.var 11) (.cons (.tup (.cons (.bop false .Add (.bop false .Add (.var 5) (.cI 1)) (.idx (.var 8) (.cI 1))) (.cons (.bop false .Add (.bop false .Sub (.var 6) (.var 9)) (.var 10)) (.nil)))) (.nil)))) (.nil)) (.nil)) lw9
def lw7 : ST := .seq (.ife (.cmp .NotIn (.idx (.var 8) (.cI 0)) (.tup (.cons (.cS ("give" : Str)) (.cons (.cS ("back" : Str)) (.cons (.cS ("jump" : Str)) (.nil)))))) (.seq (.exp (.met false .append (.var 11) (.cons (.tup (.cons (.bop false .Add (.var 5) (.cI 1)) (.cons (.bop false .Add (.bop false .Sub (.var 6) (.var 9)) (.var 10)) (.nil)))) (.nil)))) (.nil)) (.nil)) lw8
def lw6 : ST := .seq (.asg 11 (.lst true (.nil))) lw7
def lw5 : ST := .seq (.ife (.con .Or (.cmp .Lt (.var 6) (.var 9)) (.one (.tru (.call 17 (.cons (.var 8) (.cons (.var 1) (.cons (.var 2) (.nil)))))))) (.seq (.ret (.cN)) (.nil)) (.nil)) lw6
def lw4 : ST := .seq (.unp [9, 10] (.call 16 (.cons (.var 8) (.nil)))) lw5
def lw3 : ST := .seq (.asg 8 (.idx (.var 0) (.var 5))) lw4
def lw2 : ST := .seq (.ife (.con .Or (.nt (.chn .LtE .Lt (.cI 0) (.var 5) (.blt false .len (.cons (.var 0) (.nil))))) (.one (.cmp .NotEq (.lc false [(("one" : Str), 7)] 7 (.itr (.var 3)) (.cmp .Eq (.idx (.var 7) (.cI 0)) (.var 5)) (.var 7)) (.lst false (.cons (.tup (.cons (.var 5) (.cons (.var 6) (.nil)))) (.nil)))))) (.seq (.ret (.cN)) (.nil)) (.nil)) lw3
def lw1 : ST := .seq (.asg 4 (.bop false .Add (.var 4) (.cI 1))) lw2
def lw0 : ST := .seq (.unp [5, 6] (.idx (.var 3) (.var 4))) lw1
def lwL : ST := .whl (.cmp .Lt (.var 4) (.blt false .len (.cons (.var 3) (.nil)))) lw0
def ld0 : ST := .seq (.stI (.var 12) (.var 5) (.var 6)) (.nil)
def ldL : ST := .frT [5, 6] (.itr (.var 3)) ld0
def le5 : ST := .seq (.ret (.frz (.var 12))) (.nil)
def le4 : ST := .seq (.frT [5, 6] (.itr (.var 3)) (.seq (.stI (.var 12) (.var 5) (.var 6)) (.nil))) le5
def le3 : ST := .seq (.asg 12 (.bop true .Mult (.lst false (.cons (.cN) (.nil))) (.blt false .len (.cons (.var 0) (.nil))))) le4
def le2 : ST := .seq (.whl (.cmp .Lt (.var 4) (.blt false .len (.cons (.var 3) (.nil)))) (.seq (.unp [5, 6] (.idx (.var 3) (.var 4))) (.seq (.asg 4 (.bop false .Add (.var 4) (.cI 1))) (.seq (.ife (.con .Or (.nt (.chn .LtE .Lt (.cI 0) (.var 5) (.blt false .len (.cons (.var 0) (.nil))))) (.one (.cmp .NotEq (.lc false [(("one" : Str), 7)] 7 (.itr (.var 3)) (.cmp .Eq (.idx (.var 7) (.cI 0)) (.var 5)) (.var 7)) (.lst false (.cons (.tup (.cons (.var 5) (.cons (.var 6) (.nil)))) (.nil)))))) (.seq (.ret (.cN)) (.nil)) (.nil)) (.seq (.asg 8 (.idx (.var 0) (.var 5))) (.seq (.unp [9, 10] (.call 16 (.cons (.var 8) (.nil)))) (.seq (.ife (.con .Or (.cmp .Lt (.var 6) (.var 9)) (.one (.tru (.call 17 (.cons (.var 8) (.cons (.var 1) (.cons (.var 2) (.nil)))))))) (.seq (.ret (.cN)) (.nil)) (.nil)) (.seq (.asg 11 (.lst true (.nil))) (.seq (.ife (.cmp .NotIn (.idx (.var 8) (.cI 0)) (.tup (.cons (.cS ("give" : Str)) (.cons (.cS ("back" : Str)) (.cons (.cS ("jump" : Str)) (.nil)))))) (.seq (.exp (.met false .append (.var 11) (.cons (.tup (.cons (.bop false .Add (.var 5) (.cI 1)) (.cons (.bop false .Add (.bop false .Sub (.var 6) (.var 9)) (.var 10)) (.nil)))) (.nil)))) (.nil)) (.nil)) (.seq (.ife (.con .Or (.cmp .Eq (.idx (.var 8) (.cI 0)) (.cS ("jump" : Str))) (.one (.con .And (.cmp .Eq (.idx (.var 8) (.cI 0)) (.cS ("choose" : Str))) (.one (.cmp .NotEq (.idx (.var 8) (.cI 1)) (.cI 0)))))) (.seq (.exp (.met false .append (.var 11) (.cons (.tup (.cons (.bop false .Add (.bop false .Add (.var 5) (.cI 1)) (.idx (.var 8) (.cI 1))) (.cons (.bop false .Add (.bop false .Sub (.var 6) (.var 9)) (.var 10)) (.nil)))) (.nil)))) (.nil)) (.nil)) (.seq (.asg 3 (.bop false .Add (.var 3) (.lc false [(("one" : Str), 7)] 7 (.itr (.var 11)) (.cmp .NotIn (.var 7) (.var 3)) (.var 7)))) (.nil)))))))))))) le3
def le1 : ST := .seq (.asg 4 (.cI 0)) le2
def le0 : ST := .seq (.asg 3 (.lst false (.cons (.tup (.cons (.cI 0) (.cons (.cI 0) (.nil)))) (.nil)))) le1
theorem le_is : f_law_depths.body = le0 := rfl
theorem le2_is : le2 = .seq lwL le3 := rfl
theorem le4_is : le4 = .seq ldL le5 := rfl
/-! ### rows of places -/
def psD (l : List P2) : D := .lst (l.map pD)
def pP (p : P2) : PyData := .tuple [.int p.1, .int p.2]
theorem py_p {p : P2} : py (pD p) = some (pP p) := rfl
theorem pys_ps : ∀ l : List P2, pys (l.map pD) = some (l.map pP)
  | [] => rfl
  | p :: l => by
    show (py (pD p)).bind (fun a => (pys (l.map pD)).map (a :: ·)) = _
    rw [py_p, pys_ps l]; rfl
theorem eqv_p {p q : P2} : PyData.eqv (pP p) (pP q) = decide (p = q) := by
  show (p.1 == q.1 && (p.2 == q.2 && true)) = _
  rw [Bool.and_true]
  by_cases h : p = q
  · subst h; simp
  · rw [decide_eq_false h]
    by_cases h1 : p.1 = q.1
    · have h2 : ¬ p.2 = q.2 := fun z => h (Prod.ext h1 z)
      simp [h1, h2]
    · simp [h1]
theorem eqv_ps : ∀ l l' : List P2, PyData.eqvAll (l.map pP) (l'.map pP) = decide (l = l')
  | [], [] => rfl
  | [], _ :: _ => rfl
  | _ :: _, [] => rfl
  | p :: l, q :: l' => by
    show (PyData.eqv (pP p) (pP q) && PyData.eqvAll (l.map pP) (l'.map pP)) = _
    rw [eqv_p, eqv_ps l l']
    by_cases h : p = q
    · by_cases h2 : l = l'
      · simp [h, h2]
      · simp [h, h2]
    · simp [h]
theorem sh_p {p : P2} : SeqAt.shaped (pP p) = true := rfl
theorem lay_ps : ∀ l : List P2, PyData.canLayAll0 (l.map pP) = true
  | [] => rfl
  | p :: l => by show (true && PyData.canLayAll0 (l.map pP)) = true; rw [lay_ps l]; rfl
theorem dep_ps : ∀ l : List P2, PyData.depthAll (l.map pP) ≤ 1
  | [] => by decide
  | p :: l => by show max 1 (PyData.depthAll (l.map pP)) ≤ 1; have := dep_ps l; omega
theorem sh_ps {l : List P2} : SeqAt.shaped (.list (l.map pP)) = true := by
  unfold SeqAt.shaped
  show (PyData.canLayAll0 (l.map pP) && decide (PyData.depthAll (l.map pP) + 1 ≤ 64)) = true
  rw [lay_ps, decide_eq_true (by have := dep_ps l; omega)]; rfl
theorem ne_ps {S : Store} {l l' : List P2} : cmpP S .NotEq (psD l) (psD l') = some (!decide (l = l')) := by
  show (match py (psD l), py (psD l') with
    | some a, some b => if (SeqAt.shaped a && SeqAt.shaped b) = true then some (PyData.eqv a b) else none
    | _, _ => none).map (!·) = _
  have e : ∀ l, py (psD l) = some (.list (l.map pP)) := fun l => by
    show (pys (l.map pD)).map PyData.list = _
    rw [pys_ps]; rfl
  rw [e, e]
  simp only [sh_ps, Bool.and_self, if_true]
  show some (!PyData.eqvAll (l.map pP) (l'.map pP)) = _
  rw [eqv_ps]
theorem nin_ps {S : Store} {l : List P2} {p : P2} : cmpP S .NotIn (pD p) (psD l) = some (!decide (p ∈ l)) := by
  have e1 : inP S (pD p) (psD l) = inD S (pD p) (psD l) := rfl
  show (inP S (pD p) (psD l)).map (!·) = _
  rw [e1]
  unfold inD
  rw [py_p, show (seqOf S (psD l)).bind pys = some (l.map pP) from pys_ps l]
  have e2 : (l.map pP).all SeqAt.shaped = true := by rw [List.all_map]; exact List.all_eq_true.mpr fun _ _ => rfl
  have e3 : PyData.depth (pP p) ≤ 60 := by show max 0 (max 0 0) + 1 ≤ 60; decide
  simp only [sh_p, e2, decide_eq_true e3, Bool.and_self, if_true, Option.map_some]
  congr 1
  congr 1
  rw [List.any_map]
  induction l with
  | nil => rfl
  | cons q l ih =>
    rw [List.any_cons, ih (by rfl) (by rw [List.all_map]; exact List.all_eq_true.mpr fun _ _ => rfl)]
    show (PyData.eqv (pP q) (pP p) || decide (p ∈ l)) = _
    rw [eqv_p]
    by_cases h : q = p
    · subst h; simp
    · have h' : ¬ p = q := fun z => h z.symm
      simp [h, h']
/-! ### the law's row of places -/
structure LJ (cs : List CI) (sz : List Int) (ib : Bool) (sp : List P2) (k : Nat) : Prop where
  nd : sp.Nodup
  rr : ∀ p ∈ sp, R cs p
  z : (0, 0) ∈ sp
  le : k ≤ sp.length
  ok : ∀ (i : Nat) (p : P2), i < k → sp[i]? = some p → Okp cs sz ib p ∧ ∀ c x, cs[p.1.toNat]? = some c → x ∈ c.kd.goals p.1 → (x, c.next p.2) ∈ sp
  un : ∀ (i j : Nat) (p q : P2), i < k → j < i → sp[i]? = some p → sp[j]? = some q → q.1 ≠ p.1
theorem LJ.fin {cs : List CI} {sz : List Int} {ib : Bool} {sp : List P2} (h : LJ cs sz ib sp sp.length) : Good cs sz ib ∧ ∀ p, R cs p ↔ p ∈ sp := by
  refine good_of (P := fun p => p ∈ sp) h.z h.rr (fun p hp => ?_) (fun a d c x hp h0 hc hx => ?_) (fun a d d' hp hq => ?_)
  · obtain ⟨i, hi⟩ := List.mem_iff_getElem?.mp hp
    exact (h.ok i p (List.getElem?_eq_some_iff.mp hi).1 hi).1
  · obtain ⟨i, hi⟩ := List.mem_iff_getElem?.mp hp
    exact (h.ok i _ (List.getElem?_eq_some_iff.mp hi).1 hi).2 c x hc hx
  · obtain ⟨i, hi⟩ := List.mem_iff_getElem?.mp hp
    obtain ⟨j, hj⟩ := List.mem_iff_getElem?.mp hq
    have li := (List.getElem?_eq_some_iff.mp hi).1
    have lj := (List.getElem?_eq_some_iff.mp hj).1
    rcases Nat.lt_trichotomy i j with q | q | q
    · exact absurd rfl (h.un j i (a, d') (a, d) lj q hj hi)
    · subst q
      rw [hi] at hj
      cases hj; rfl
    · exact absurd rfl (h.un i j (a, d) (a, d') li q hi hj)
/-- one place more looked at -/
theorem LJ.step {cs : List CI} {sz : List Int} {ib : Bool} {sp : List P2} {k : Nat} {a d : Int} {c : CI} (h : LJ cs sz ib sp k) (hk : sp[k]? = some (a, d)) (h0 : 0 ≤ a) (hc : cs[a.toNat]? = some c) (hw : (c.want : Int) ≤ d) (hb : c.bad sz ib = false) (hu : sp.filter (fun q => decide (q.1 = a)) = [(a, d)]) :
    LJ cs sz ib (sp ++ ((c.kd.lgoals a).map fun x => (x, c.next d)).filter fun q => !decide (q ∈ sp)) (k + 1) := by
  have hkl := (List.getElem?_eq_some_iff.mp hk).1
  have hr : R cs (a, d) := h.rr _ (List.mem_of_getElem? hk)
  refine ⟨?_, fun p hp => ?_, List.mem_append_left _ h.z, by rw [List.length_append]; omega, fun i p hi hp => ?_, fun i j p q hi hj hp hq => ?_⟩
  · rw [List.nodup_append]
    refine ⟨h.nd, List.Nodup.sublist List.filter_sublist ?_, fun x hx y hy z => ?_⟩
    · exact List.Pairwise.map (R := fun a b => a ≠ b) _ (fun a b hab z => hab (Prod.mk.inj z).1) lgoals_nd
    · subst z
      have := (List.mem_filter.mp hy).2
      rw [decide_eq_true hx] at this
      cases this
  · rcases List.mem_append.mp hp with hp | hp
    · exact h.rr p hp
    · obtain ⟨x, hx, rfl⟩ := List.mem_map.mp (List.mem_filter.mp hp).1
      exact .step hr h0 hc (goals_same.mp hx)
  · rcases Nat.lt_or_ge i k with q | q
    · rw [List.getElem?_append_left (by omega)] at hp
      obtain ⟨z1, z2⟩ := h.ok i p q hp
      exact ⟨z1, fun c' x y1 y2 => List.mem_append_left _ (z2 c' x y1 y2)⟩
    · have e : i = k := by omega
      subst e
      rw [List.getElem?_append_left hkl, hk] at hp
      cases hp
      refine ⟨⟨c, h0, hc, hw, hb⟩, fun c' x y1 y2 => ?_⟩
      have y1 : cs[a.toNat]? = some c' := y1
      rw [hc] at y1
      cases y1
      by_cases m : (x, c.next d) ∈ sp
      · exact List.mem_append_left _ m
      · refine List.mem_append_right _ (List.mem_filter.mpr ⟨List.mem_map.mpr ⟨x, goals_same.mpr y2, rfl⟩, ?_⟩)
        show (!decide ((x, c.next d) ∈ sp)) = true
        rw [decide_eq_false m]; rfl
  · rcases Nat.lt_or_ge i k with r | r
    · rw [List.getElem?_append_left (by omega)] at hp hq
      exact h.un i j p q r hj hp hq
    · have e : i = k := by omega
      subst e
      rw [List.getElem?_append_left hkl, hk] at hp
      cases hp
      rw [List.getElem?_append_left (by omega)] at hq
      intro z
      have mq : q ∈ sp.filter (fun q => decide (q.1 = a)) := List.mem_filter.mpr ⟨List.mem_of_getElem? hq, decide_eq_true z⟩
      rw [hu, List.mem_singleton] at mq
      subst mq
      have := (List.getElem?_inj (show j < sp.length by omega) h.nd).mp (hq.trans hk.symm)
      omega
/-- another one at the same place -/
theorem LJ.two {cs : List CI} {sz : List Int} {ib : Bool} {sp : List P2} {k : Nat} {a d : Int} (h : LJ cs sz ib sp k) (hk : sp[k]? = some (a, d)) (hu : sp.filter (fun q => decide (q.1 = a)) ≠ [(a, d)]) : ¬ Good cs sz ib := by
  intro g
  refine hu ?_
  have hm : (a, d) ∈ sp := List.mem_of_getElem? hk
  have same : ∀ q ∈ sp, q.1 = a → q = (a, d) := fun q hq e => by
    obtain ⟨x, y⟩ := q
    have e : x = a := e
    subst e
    rw [g.fn x y d (h.rr _ hq) (h.rr _ hm)]
  have gen : ∀ l : List P2, l.Nodup → (a, d) ∈ l → (∀ q ∈ l, q.1 = a → q = (a, d)) → l.filter (fun q => decide (q.1 = a)) = [(a, d)] := by
    intro l
    induction l with
    | nil => intro _ hm; cases hm
    | cons q l ih =>
      intro nd hm hs
      rw [List.nodup_cons] at nd
      by_cases e : q.1 = a
      · have eq := hs q (List.mem_cons_self ..) e
        rw [List.filter_cons, if_pos (decide_eq_true e)]
        have : l.filter (fun q => decide (q.1 = a)) = [] := List.filter_eq_nil_iff.mpr fun r hr z => by
          have := hs r (List.mem_cons_of_mem _ hr) (of_decide_eq_true z)
          rw [this, ← eq] at hr
          exact nd.1 hr
        rw [this, eq]
      · rw [List.filter_cons, if_neg (by rw [decide_eq_false e]; decide)]
        refine ih nd.2 ?_ fun r hr => hs r (List.mem_cons_of_mem _ hr)
        rcases List.mem_cons.mp hm with z | z
        · rw [← z] at e; exact absurd rfl e
        · exact z
  exact gen sp h.nd hm same
/-- how far one comes -/
theorem LJ.few {cs : List CI} {sz : List Int} {ib : Bool} {sp : List P2} {k : Nat} (h : LJ cs sz ib sp k) : k ≤ cs.length := by
  have e := pigeon cs.length ((sp.take k).map fun p => p.1.toNat) ?_ ?_
  · rw [List.length_map, List.length_take] at e
    have := h.le
    omega
  · refine List.pairwise_iff_getElem.mpr fun i j hi hj hij z0 => ?_
    have z0 := (List.getElem?_eq_getElem hi).trans ((congrArg some z0).trans (List.getElem?_eq_getElem hj).symm)
    revert z0
    rw [List.length_map, List.length_take] at hj
    have := h.le
    have hi' : i < k := by omega
    have hj' : j < k := by omega
    rw [List.getElem?_map, List.getElem?_map, List.getElem?_take_of_lt hi', List.getElem?_take_of_lt hj']
    obtain ⟨p, hp⟩ : ∃ p, sp[j]? = some p := ⟨_, List.getElem?_eq_getElem (by omega)⟩
    obtain ⟨q, hq⟩ : ∃ q, sp[i]? = some q := ⟨_, List.getElem?_eq_getElem (by omega)⟩
    rw [hp, hq]
    intro z
    have z : q.1.toNat = p.1.toNat := by simpa using z
    have := h.un j i p q hj' hij hp hq
    obtain ⟨_, p0, _⟩ := (h.ok j p hj' hp).1
    obtain ⟨_, q0, _⟩ := (h.ok i q hi' hq).1
    omega
  · intro x hx
    obtain ⟨p, hp, rfl⟩ := List.mem_map.mp hx
    obtain ⟨i, hi⟩ := List.mem_iff_getElem?.mp hp
    have il := (List.getElem?_eq_some_iff.mp hi).1
    rw [List.length_take] at il
    rw [List.getElem?_take_of_lt (by omega)] at hi
    obtain ⟨c, _, y, _⟩ := (h.ok i p (by omega) hi).1
    exact (List.getElem?_eq_some_iff.mp y).1
end K41

namespace K41
open PySem L2 ML

def pOf : D → Option P2
  | .tup [.int a, .int b] => some (a, b)
  | _ => none
def onP (f : P2 → Bool) (x : D) : Bool := match pOf x with
  | some q => f q
  | none => false
theorem filt_ps {f : P2 → Bool} : ∀ l : List P2, (l.map pD).filter (onP f) = (l.filter f).map pD
  | [] => rfl
  | p :: l => by
    rw [List.map_cons, List.filter_cons, List.filter_cons, filt_ps l]
    have e : onP f (pD p) = f p := rfl
    rw [e]
    split <;> rfl
theorem len_ps {S : Store} {l : List P2} : bfP S .len [psD l] = some (.val (.int (l.length : Int))) := by
  show some (PR.val (.int (((l.map pD).length : Nat) : Int))) = _
  rw [List.length_map]
/-- the law's table of a row of places -/
structure TI (n : Nat) (sp : List P2) (j : Nat) (tl : List (Option Int)) : Prop where
  len : tl.length = n
  so : ∀ (i : Nat) (p : P2), i < j → sp[i]? = some p → tl[p.1.toNat]? = some (some p.2)
  no : ∀ b, b < n → (∀ (i : Nat) (p : P2), i < j → sp[i]? = some p → p.1 ≠ (b : Int)) → tl[b]? = some none
theorem tabU {k : Nat} {cs : List CI} {sz : List Int} {ib : Bool} {ds : List D} {sp : List P2} {S0 S : Store} {z5 z6 z7 z8 z9 z10 z11 z12 : Option D} {N : ML.Env → Store → Prop} {X : Str → ML.Env → Store → Prop} (hl : ds.length ≤ 20) (hlen : ds.length = cs.length) (G : Gr S0 S) (h : LJ cs sz ib sp sp.length) :
    wrs (evS (sem T k) (gvs T) le3 [some (.tup ds), some (intsD sz), some (.bl ib), some (psD sp), some (.int (sp.length : Int)), z5, z6, z7, z8, z9, z10, z11, z12] S) N (LawP cs sz ib S0) X := by
  obtain ⟨g, e⟩ := h.fin
  simp only [le3, wrs_seqL, wS_asg, wS_ife, wS_ret, wS_nil, wS_exp, wE_cS, wE_cI, wE_cN, wE_cB, wE_call, wE_var, wE_glb, wE_bop, wE_idx, wE_lst, wE_tup, wE_blt, wE_met, wT_cmp, wT_and, wT_or, wT_nt, wT_one, wT_tru, wE_ite, wE_and, wE_or, wE_one, wE_nt, wE_cmp, wE_lc, wI_itr, wI_rng, wA_cons, wA_nil, wpO, wpF, List.set, List.getElem?_cons_zero, List.getElem?_cons_succ, Option.join_some, Bool.false_eq_true, if_false, if_true, wE_neg, wE_chn, wE_lset, wE_inW, wE_ixW, wS_fr, wS_rais, wT_chn, t_bl, later_nil, wE_fld, wE_mcl, wE_mk, wE_dnw, wE_dgt, wE_din, wT_din, wE_dcp, wE_rev, wE_cmn, wT_cmn, wS_stF, wS_stD, wS_whl, wE_slc, wL_off, wE_pop, wE_dlt, wA_kv, wS_frT, wS_unp, wS_asgC, wS_stI, wE_frz, nl1, true_and, b_len_tup]
  rw [mul_non (by omega)]
  simp only [wpF, if_true]
  rw [later, le4_is]
  simp only [ldL, wrs_seqL, wS_asg, wS_ife, wS_ret, wS_nil, wS_exp, wE_cS, wE_cI, wE_cN, wE_cB, wE_call, wE_var, wE_glb, wE_bop, wE_idx, wE_lst, wE_tup, wE_blt, wE_met, wT_cmp, wT_and, wT_or, wT_nt, wT_one, wT_tru, wE_ite, wE_and, wE_or, wE_one, wE_nt, wE_cmp, wE_lc, wI_itr, wI_rng, wA_cons, wA_nil, wpO, wpF, List.set, List.getElem?_cons_zero, List.getElem?_cons_succ, Option.join_some, Bool.false_eq_true, if_false, if_true, wE_neg, wE_chn, wE_lset, wE_inW, wE_ixW, wS_fr, wS_rais, wT_chn, t_bl, later_nil, wE_fld, wE_mcl, wE_mk, wE_dnw, wE_dgt, wE_din, wT_din, wE_dcp, wE_rev, wE_cmn, wT_cmn, wS_stF, wS_stD, wS_whl, wE_slc, wL_off, wE_pop, wE_dlt, wA_kv, wS_frT, wS_unp, wS_asgC, wS_stI, wE_frz]
  rw [show ∀ S2, srcOf S2 (psD sp) = some (.vals (sp.map pD)) from fun _ => rfl]
  simp only [wpO]
  have G1 : Gr S0 (S.new (.lst (List.replicate ds.length .non))) := G.trans (Gr.new G.wf)
  refine wrs_forG (fun j env S' => ∃ tl y5 y6, env = [some (.tup ds), some (intsD sz), some (.bl ib), some (psD sp), some (.int (sp.length : Int)), y5, y6, z7, z8, z9, z10, z11, some (.loc S.nx)] ∧ Gr S0 S' ∧ S.nx < S'.nx ∧ S'.ob S.nx = some (.lst (tl.map oD)) ∧ TI cs.length sp j tl) ?_ ?_ ?_
  · refine ⟨List.replicate ds.length none, _, _, rfl, G1, Nat.lt_succ_self _, by rw [Store.new_ob, map_rep], by rw [List.length_replicate, hlen], fun i p hi => absurd hi (Nat.not_lt_zero _), fun b hb _ => ?_⟩
    rw [List.getElem?_replicate, if_pos (by omega)]
  · rintro j x env S' hx ⟨tl, y5, y6, rfl, G', nx, ob, tI⟩
    rw [List.getElem?_map] at hx
    obtain ⟨p, hp, rfl⟩ := Option.map_eq_some_iff.mp hx
    obtain ⟨a, d⟩ := p
    have hj := (List.getElem?_eq_some_iff.mp hp).1
    obtain ⟨c, a0, ac, _⟩ := (h.ok j _ hj hp).1
    have a0 : 0 ≤ a := a0
    have ac : cs[a.toNat]? = some c := ac
    have al := (List.getElem?_eq_some_iff.mp ac).1
    obtain ⟨b, rfl⟩ : ∃ b : Nat, a = b := ⟨a.toNat, by omega⟩
    have al : b < cs.length := by simpa using al
    simp only [pD, tupOf, List.length_cons, List.length_nil, if_true, setAll, List.set, ld0, wrs_seqL, wS_asg, wS_ife, wS_ret, wS_nil, wS_exp, wE_cS, wE_cI, wE_cN, wE_cB, wE_call, wE_var, wE_glb, wE_bop, wE_idx, wE_lst, wE_tup, wE_blt, wE_met, wT_cmp, wT_and, wT_or, wT_nt, wT_one, wT_tru, wE_ite, wE_and, wE_or, wE_one, wE_nt, wE_cmp, wE_lc, wI_itr, wI_rng, wA_cons, wA_nil, wpO, wpF, List.set, List.getElem?_cons_zero, List.getElem?_cons_succ, Option.join_some, Bool.false_eq_true, if_false, if_true, wE_neg, wE_chn, wE_lset, wE_inW, wE_ixW, wS_fr, wS_rais, wT_chn, t_bl, later_nil, wE_fld, wE_mcl, wE_mk, wE_dnw, wE_dgt, wE_din, wT_din, wE_dcp, wE_rev, wE_cmn, wT_cmn, wS_stF, wS_stD, wS_whl, wE_slc, wL_off, wE_pop, wE_dlt, wA_kv, wS_frT, wS_unp, wS_asgC, wS_stI, wE_frz]
    rw [st_loc ob (by rw [List.length_map, tI.len]; exact al), wpr_ok]
    try rw [later_nil]
    refine ⟨tl.set b (some d), _, _, rfl, G'.set G.nx nx, nx, by rw [Store.set_ob, List.map_set]; rfl, by rw [List.length_set, tI.len], fun i p hi hpi => ?_, fun b' hb' hn => ?_⟩
    · rcases Nat.lt_or_ge i j with q | q
      · have ne := h.un j i _ _ hj q hp hpi
        obtain ⟨_, p0, _⟩ := (h.ok i _ (by omega) hpi).1
        have ne : p.1 ≠ (b : Int) := ne
        rw [List.getElem?_set_ne (by omega)]
        exact tI.so i p q hpi
      · have e : i = j := by omega
        subst e
        rw [hp] at hpi
        cases hpi
        show (tl.set b (some d))[((b : Int)).toNat]? = _
        rw [Int.toNat_natCast, List.getElem?_set_self (by rw [tI.len]; exact al)]
    · have ne := hn j _ (Nat.lt_succ_self _) hp
      have ne : (b : Int) ≠ (b' : Int) := ne
      rw [List.getElem?_set_ne (by omega)]
      exact tI.no b' hb' fun i p hi => hn i p (by omega)
  · rintro env S' ⟨tl, y5, y6, rfl, G', nx, ob, tI⟩
    rw [later]
    simp only [le5, wrs_seqL, wS_asg, wS_ife, wS_ret, wS_nil, wS_exp, wE_cS, wE_cI, wE_cN, wE_cB, wE_call, wE_var, wE_glb, wE_bop, wE_idx, wE_lst, wE_tup, wE_blt, wE_met, wT_cmp, wT_and, wT_or, wT_nt, wT_one, wT_tru, wE_ite, wE_and, wE_or, wE_one, wE_nt, wE_cmp, wE_lc, wI_itr, wI_rng, wA_cons, wA_nil, wpO, wpF, List.set, List.getElem?_cons_zero, List.getElem?_cons_succ, Option.join_some, Bool.false_eq_true, if_false, if_true, wE_neg, wE_chn, wE_lset, wE_inW, wE_ixW, wS_fr, wS_rais, wT_chn, t_bl, later_nil, wE_fld, wE_mcl, wE_mk, wE_dnw, wE_dgt, wE_din, wT_din, wE_dcp, wE_rev, wE_cmn, wT_cmn, wS_stF, wS_stD, wS_whl, wE_slc, wL_off, wE_pop, wE_dlt, wA_kv, wS_frT, wS_unp, wS_asgC, wS_stI, wE_frz, ob, obl]
    rw [List.length_map] at tI
    refine ⟨G'.del G.nx, .inl ⟨g, _, rfl, by rw [List.length_map, tI.len], fun a d ha hr => ?_, fun a ha hr => ?_⟩⟩
    · obtain ⟨i, hi⟩ := List.mem_iff_getElem?.mp ((e _).mp hr)
      have := tI.so i _ (List.getElem?_eq_some_iff.mp hi).1 hi
      rw [List.getElem?_map, show tl[a]? = some (some d) by simpa using this]; rfl
    · rw [List.getElem?_map, tI.no a ha fun i p hi hp z => hr ⟨p.2, ?_⟩]
      · rfl
      · rw [← z]; exact (e _).mpr (List.mem_of_getElem? hp)
def b1 : Kd → Bool
  | .fin => false
  | .jmp _ => false
  | _ => true
def b2 : Kd → Bool
  | .jmp _ => true
  | .cho f => !decide (f = 0)
  | _ => false
def far : Kd → Int
  | .jmp f => f
  | .cho f => f
  | _ => 0
theorem lgoals_is {k : Kd} {a : Int} : k.lgoals a = (if b1 k = true then [a + 1] else []) ++ (if b2 k = true then [a + 1 + far k] else []) := by
  cases k with
  | cho f =>
    show (if f = 0 then [a + 1] else [a + 1, a + 1 + f]) = [a + 1] ++ (if (!decide (f = 0)) = true then [a + 1 + f] else [])
    by_cases h : f = 0
    · simp [h]
    · simp [h]
  | _ => rfl
theorem t7 {k n : Nat} {d : D} {c : CI} (h : CV n d c) {v0 v1 v2 v3 v4 v5 v6 v7 v9 v10 v11 v12 : Option D} {S : Store} {Q : Bool → Store → Prop} {X : Str → Store → Prop} (q : Q (b1 c.kd) S) :
    wpr (evT (sem T k) (gvs T) (.cmp .NotIn (.idx (.var 8) (.cI 0)) (.tup (.cons (.cS ("give" : Str)) (.cons (.cS ("back" : Str)) (.cons (.cS ("jump" : Str)) (.nil)))))) [v0, v1, v2, v3, v4, v5, v6, v7, some d, v9, v10, v11, v12] S) Q X := by
  cases h <;> exact q
theorem t8 {k n : Nat} {d : D} {c : CI} (h : CV n d c) {v0 v1 v2 v3 v4 v5 v6 v7 v9 v10 v11 v12 : Option D} {S : Store} {Q : Bool → Store → Prop} {X : Str → Store → Prop} (q : Q (b2 c.kd) S) :
    wpr (evT (sem T k) (gvs T) (.con .Or (.cmp .Eq (.idx (.var 8) (.cI 0)) (.cS ("jump" : Str))) (.one (.con .And (.cmp .Eq (.idx (.var 8) (.cI 0)) (.cS ("choose" : Str))) (.one (.cmp .NotEq (.idx (.var 8) (.cI 1)) (.cI 0)))))) [v0, v1, v2, v3, v4, v5, v6, v7, some d, v9, v10, v11, v12] S) Q X := by
  cases h with
  | choose =>
    simp only [wrs_seqL, wS_asg, wS_ife, wS_ret, wS_nil, wS_exp, wE_cS, wE_cI, wE_cN, wE_cB, wE_call, wE_var, wE_glb, wE_bop, wE_idx, wE_lst, wE_tup, wE_blt, wE_met, wT_cmp, wT_and, wT_or, wT_nt, wT_one, wT_tru, wE_ite, wE_and, wE_or, wE_one, wE_nt, wE_cmp, wE_lc, wI_itr, wI_rng, wA_cons, wA_nil, wpO, wpF, List.set, List.getElem?_cons_zero, List.getElem?_cons_succ, Option.join_some, Bool.false_eq_true, if_false, if_true, wE_neg, wE_chn, wE_lset, wE_inW, wE_ixW, wS_fr, wS_rais, wT_chn, t_bl, later_nil, wE_fld, wE_mcl, wE_mk, wE_dnw, wE_dgt, wE_din, wT_din, wE_dcp, wE_rev, wE_cmn, wT_cmn, wS_stF, wS_stD, wS_whl, wE_slc, wL_off, wE_pop, wE_dlt, wA_kv, wS_frT, wS_unp, wS_asgC, wS_stI, wE_frz, wd, ML.ix_tup, at3_0, at3_1, c_eq_str, c_ne_int, ofS_inj, String.reduceEq, decide_false, decide_true]
    exact q
  | _ => exact q
theorem far_ix {n : Nat} {d : D} {c : CI} (h : CV n d c) (hb : b2 c.kd = true) (S : Store) : ixP S d (.int 1) = some (.int (far c.kd)) := by
  cases h with
  | jump => rfl
  | choose => rfl
  | _ => cases hb
end K41

namespace K41
open PySem L2 ML

theorem pD_of {a d : Int} : D.tup [.int a, .int d] = pD (a, d) := rfl
theorem lawDepthsU {n : Nat} (H : ∀ m, n = m + 1 → LawS m) : LawS n := by
  intro L ds cs sz ib S hL hS hcs hl hz hn
  obtain ⟨k, rfl⟩ : ∃ n, L = n + 1 := ⟨L - 1, by omega⟩
  show wpr (endF (evS (sem T k) (gvs T) f_law_depths.body [some (.tup ds), some (intsD sz), some (.bl ib), none, none, none, none, none, none, none, none, none, none] S)) _ _
  rw [wrs_end, le_is]
  have hlen := hcs.len
  simp only [le0, wrs_seqL, wS_asg, wS_ife, wS_ret, wS_nil, wS_exp, wE_cS, wE_cI, wE_cN, wE_cB, wE_call, wE_var, wE_glb, wE_bop, wE_idx, wE_lst, wE_tup, wE_blt, wE_met, wT_cmp, wT_and, wT_or, wT_nt, wT_one, wT_tru, wE_ite, wE_and, wE_or, wE_one, wE_nt, wE_cmp, wE_lc, wI_itr, wI_rng, wA_cons, wA_nil, wpO, wpF, List.set, List.getElem?_cons_zero, List.getElem?_cons_succ, Option.join_some, Bool.false_eq_true, if_false, if_true, wE_neg, wE_chn, wE_lset, wE_inW, wE_ixW, wS_fr, wS_rais, wT_chn, t_bl, later_nil, wE_fld, wE_mcl, wE_mk, wE_dnw, wE_dgt, wE_din, wT_din, wE_dcp, wE_rev, wE_cmn, wT_cmn, wS_stF, wS_stD, wS_whl, wE_slc, wL_off, wE_pop, wE_dlt, wA_kv, wS_frT, wS_unp, wS_asgC, wS_stI, wE_frz, nl1, nl2, true_and]
  rw [later]
  simp only [le1, wrs_seqL, wS_asg, wS_ife, wS_ret, wS_nil, wS_exp, wE_cS, wE_cI, wE_cN, wE_cB, wE_call, wE_var, wE_glb, wE_bop, wE_idx, wE_lst, wE_tup, wE_blt, wE_met, wT_cmp, wT_and, wT_or, wT_nt, wT_one, wT_tru, wE_ite, wE_and, wE_or, wE_one, wE_nt, wE_cmp, wE_lc, wI_itr, wI_rng, wA_cons, wA_nil, wpO, wpF, List.set, List.getElem?_cons_zero, List.getElem?_cons_succ, Option.join_some, Bool.false_eq_true, if_false, if_true, wE_neg, wE_chn, wE_lset, wE_inW, wE_ixW, wS_fr, wS_rais, wT_chn, t_bl, later_nil, wE_fld, wE_mcl, wE_mk, wE_dnw, wE_dgt, wE_din, wT_din, wE_dcp, wE_rev, wE_cmn, wT_cmn, wS_stF, wS_stD, wS_whl, wE_slc, wL_off, wE_pop, wE_dlt, wA_kv, wS_frT, wS_unp, wS_asgC, wS_stI, wE_frz]
  rw [later, le2_is]
  simp only [lwL, wrs_seqL, wS_asg, wS_ife, wS_ret, wS_nil, wS_exp, wE_cS, wE_cI, wE_cN, wE_cB, wE_call, wE_var, wE_glb, wE_bop, wE_idx, wE_lst, wE_tup, wE_blt, wE_met, wT_cmp, wT_and, wT_or, wT_nt, wT_one, wT_tru, wE_ite, wE_and, wE_or, wE_one, wE_nt, wE_cmp, wE_lc, wI_itr, wI_rng, wA_cons, wA_nil, wpO, wpF, List.set, List.getElem?_cons_zero, List.getElem?_cons_succ, Option.join_some, Bool.false_eq_true, if_false, if_true, wE_neg, wE_chn, wE_lset, wE_inW, wE_ixW, wS_fr, wS_rais, wT_chn, t_bl, later_nil, wE_fld, wE_mcl, wE_mk, wE_dnw, wE_dgt, wE_din, wT_din, wE_dcp, wE_rev, wE_cmn, wT_cmn, wS_stF, wS_stD, wS_whl, wE_slc, wL_off, wE_pop, wE_dlt, wA_kv, wS_frT, wS_unp, wS_asgC, wS_stI, wE_frz]
  refine wrs_while (fun m env S' => ∃ (sp : List P2) (j : Nat) (z5 z6 z7 z8 z9 z10 z11 z12 : Option D), env = [some (.tup ds), some (intsD sz), some (.bl ib), some (psD sp), some (.int (j : Int)), z5, z6, z7, z8, z9, z10, z11, z12] ∧ Gr S S' ∧ LJ cs sz ib sp j ∧ m = ds.length + 1 - j ∧ sp.length ≤ 1 + 2 * j) (m := ds.length + 1) (by show _ < 1000; omega) ?_ ?_
  · refine ⟨[(0, 0)], 0, none, none, none, none, none, none, none, none, rfl, .refl hS, ⟨by simp, fun p hp => ?_, by simp, by simp, fun i p hi => absurd hi (Nat.not_lt_zero _), fun i j p q hi => absurd hi (Nat.not_lt_zero _)⟩, rfl, by simp⟩
    rw [List.mem_singleton] at hp; subst hp; exact .zero
  · rintro m env S' ⟨sp, j, z5, z6, z7, z8, z9, z10, z11, z12, rfl, G, lj, em, spl⟩
    have jf := lj.few
    have jl := lj.le
    simp only [wrs_seqL, wS_asg, wS_ife, wS_ret, wS_nil, wS_exp, wE_cS, wE_cI, wE_cN, wE_cB, wE_call, wE_var, wE_glb, wE_bop, wE_idx, wE_lst, wE_tup, wE_blt, wE_met, wT_cmp, wT_and, wT_or, wT_nt, wT_one, wT_tru, wE_ite, wE_and, wE_or, wE_one, wE_nt, wE_cmp, wE_lc, wI_itr, wI_rng, wA_cons, wA_nil, wpO, wpF, List.set, List.getElem?_cons_zero, List.getElem?_cons_succ, Option.join_some, Bool.false_eq_true, if_false, if_true, wE_neg, wE_chn, wE_lset, wE_inW, wE_ixW, wS_fr, wS_rais, wT_chn, t_bl, later_nil, wE_fld, wE_mcl, wE_mk, wE_dnw, wE_dgt, wE_din, wT_din, wE_dcp, wE_rev, wE_cmn, wT_cmn, wS_stF, wS_stD, wS_whl, wE_slc, wL_off, wE_pop, wE_dlt, wA_kv, wS_frT, wS_unp, wS_asgC, wS_stI, wE_frz, len_ps, c_lt]
    by_cases hj : j = sp.length
    · subst hj
      rw [decide_eq_false (by omega)]
      simp only [Bool.false_eq_true, if_false]
      rw [later]
      exact tabU hl hlen G lj
    · have hjl : j < sp.length := by omega
      rw [decide_eq_true (show (j : Int) < (sp.length : Int) by omega), if_pos rfl]
      obtain ⟨p, hp⟩ : ∃ p, sp[j]? = some p := ⟨_, List.getElem?_eq_getElem hjl⟩
      obtain ⟨a, d⟩ := p
      have hr : R cs (a, d) := lj.rr _ (List.mem_of_getElem? hp)
      have ix0 : ∀ S, ixP S (psD sp) (.int (j : Int)) = some (pD (a, d)) := fun S => by unfold psD; rw [ix_lst]; exact atI_nat' (by rw [List.getElem?_map, hp]; rfl)
      simp only [lw0, wrs_seqL, wS_asg, wS_ife, wS_ret, wS_nil, wS_exp, wE_cS, wE_cI, wE_cN, wE_cB, wE_call, wE_var, wE_glb, wE_bop, wE_idx, wE_lst, wE_tup, wE_blt, wE_met, wT_cmp, wT_and, wT_or, wT_nt, wT_one, wT_tru, wE_ite, wE_and, wE_or, wE_one, wE_nt, wE_cmp, wE_lc, wI_itr, wI_rng, wA_cons, wA_nil, wpO, wpF, List.set, List.getElem?_cons_zero, List.getElem?_cons_succ, Option.join_some, Bool.false_eq_true, if_false, if_true, wE_neg, wE_chn, wE_lset, wE_inW, wE_ixW, wS_fr, wS_rais, wT_chn, t_bl, later_nil, wE_fld, wE_mcl, wE_mk, wE_dnw, wE_dgt, wE_din, wT_din, wE_dcp, wE_rev, wE_cmn, wT_cmn, wS_stF, wS_stD, wS_whl, wE_slc, wL_off, wE_pop, wE_dlt, wA_kv, wS_frT, wS_unp, wS_asgC, wS_stI, wE_frz, ix0, pD, tupOf, setAll, List.set]
      refine ⟨rfl, ?_⟩
      rw [later]
      simp only [lw1, wrs_seqL, wS_asg, wS_ife, wS_ret, wS_nil, wS_exp, wE_cS, wE_cI, wE_cN, wE_cB, wE_call, wE_var, wE_glb, wE_bop, wE_idx, wE_lst, wE_tup, wE_blt, wE_met, wT_cmp, wT_and, wT_or, wT_nt, wT_one, wT_tru, wE_ite, wE_and, wE_or, wE_one, wE_nt, wE_cmp, wE_lc, wI_itr, wI_rng, wA_cons, wA_nil, wpO, wpF, List.set, List.getElem?_cons_zero, List.getElem?_cons_succ, Option.join_some, Bool.false_eq_true, if_false, if_true, wE_neg, wE_chn, wE_lset, wE_inW, wE_ixW, wS_fr, wS_rais, wT_chn, t_bl, later_nil, wE_fld, wE_mcl, wE_mk, wE_dnw, wE_dgt, wE_din, wT_din, wE_dcp, wE_rev, wE_cmn, wT_cmn, wS_stF, wS_stD, wS_whl, wE_slc, wL_off, wE_pop, wE_dlt, wA_kv, wS_frT, wS_unp, wS_asgC, wS_stI, wE_frz, add_int]
      rw [later]
      simp only [lw2, wrs_seqL, wS_asg, wS_ife, wS_ret, wS_nil, wS_exp, wE_cS, wE_cI, wE_cN, wE_cB, wE_call, wE_var, wE_glb, wE_bop, wE_idx, wE_lst, wE_tup, wE_blt, wE_met, wT_cmp, wT_and, wT_or, wT_nt, wT_one, wT_tru, wE_ite, wE_and, wE_or, wE_one, wE_nt, wE_cmp, wE_lc, wI_itr, wI_rng, wA_cons, wA_nil, wpO, wpF, List.set, List.getElem?_cons_zero, List.getElem?_cons_succ, Option.join_some, Bool.false_eq_true, if_false, if_true, wE_neg, wE_chn, wE_lset, wE_inW, wE_ixW, wS_fr, wS_rais, wT_chn, t_bl, later_nil, wE_fld, wE_mcl, wE_mk, wE_dnw, wE_dgt, wE_din, wT_din, wE_dcp, wE_rev, wE_cmn, wT_cmn, wS_stF, wS_stD, wS_whl, wE_slc, wL_off, wE_pop, wE_dlt, wA_kv, wS_frT, wS_unp, wS_asgC, wS_stI, wE_frz, b_len_tup, c_le, c_lt]
      have no : ∀ {S2}, Gr S S2 → (¬ Good cs sz ib) → LawP cs sz ib S .non S2 := fun G2 g => ⟨G2, .inr ⟨g, rfl⟩⟩
      by_cases h0 : 0 ≤ a
      · rw [decide_eq_true h0]
        simp only [if_true]
        by_cases h1 : a < ds.length
        · rw [decide_eq_true h1]
          simp only [Bool.not_true, Bool.false_eq_true, if_false]
          rw [show ∀ S2, srcOf S2 (psD sp) = some (.vals (sp.map pD)) from fun _ => rfl]
          simp only [wpO]
          refine (comp_keep (onP fun q => decide (q.1 = a)) id G.wf (by rw [List.length_map]; exact Nat.lt_of_le_of_lt (show sp.length ≤ 100 by omega) (by decide)) fun y hy S2 G2 => ?_).wpr fun S2 G2 => ?_
          · obtain ⟨q, hq, rfl⟩ := List.mem_map.mp hy
            refine turn_if ?_ (fun _ S3 G3 => Gv.ups ?_)
            · refine .of ?_
              rw [if_neg (by simp [isOff])]
              simp only [wrs_seqL, wS_asg, wS_ife, wS_ret, wS_nil, wS_exp, wE_cS, wE_cI, wE_cN, wE_cB, wE_call, wE_var, wE_glb, wE_bop, wE_idx, wE_lst, wE_tup, wE_blt, wE_met, wT_cmp, wT_and, wT_or, wT_nt, wT_one, wT_tru, wE_ite, wE_and, wE_or, wE_one, wE_nt, wE_cmp, wE_lc, wI_itr, wI_rng, wA_cons, wA_nil, wpO, wpF, List.set, List.getElem?_cons_zero, List.getElem?_cons_succ, Option.join_some, Bool.false_eq_true, if_false, if_true, wE_neg, wE_chn, wE_lset, wE_inW, wE_ixW, wS_fr, wS_rais, wT_chn, t_bl, later_nil, wE_fld, wE_mcl, wE_mk, wE_dnw, wE_dgt, wE_din, wT_din, wE_dcp, wE_rev, wE_cmn, wT_cmn, wS_stF, wS_stD, wS_whl, wE_slc, wL_off, wE_pop, wE_dlt, wA_kv, wS_frT, wS_unp, wS_asgC, wS_stI, wE_frz, List.map, wipeE, pD, ML.ix_tup, at2_0, c_eq_int]
              exact ⟨rfl, .refl G2.wf⟩
            · simp only [wrs_seqL, wS_asg, wS_ife, wS_ret, wS_nil, wS_exp, wE_cS, wE_cI, wE_cN, wE_cB, wE_call, wE_var, wE_glb, wE_bop, wE_idx, wE_lst, wE_tup, wE_blt, wE_met, wT_cmp, wT_and, wT_or, wT_nt, wT_one, wT_tru, wE_ite, wE_and, wE_or, wE_one, wE_nt, wE_cmp, wE_lc, wI_itr, wI_rng, wA_cons, wA_nil, wpO, wpF, List.set, List.getElem?_cons_zero, List.getElem?_cons_succ, Option.join_some, Bool.false_eq_true, if_false, if_true, wE_neg, wE_chn, wE_lset, wE_inW, wE_ixW, wS_fr, wS_rais, wT_chn, t_bl, later_nil, wE_fld, wE_mcl, wE_mk, wE_dnw, wE_dgt, wE_din, wT_din, wE_dcp, wE_rev, wE_cmn, wT_cmn, wS_stF, wS_stD, wS_whl, wE_slc, wL_off, wE_pop, wE_dlt, wA_kv, wS_frT, wS_unp, wS_asgC, wS_stI, wE_frz, List.map, wipeE]
              exact ⟨rfl, .refl G3.wf⟩
          · rw [List.map_id, filt_ps]
            simp only [nl1, nl2, true_and]
            rw [pD_of, show D.lst ((sp.filter fun q => decide (q.1 = a)).map pD) = psD (sp.filter fun q => decide (q.1 = a)) from rfl, show D.lst [pD (a, d)] = psD [(a, d)] from rfl, ne_ps]
            simp only [wpO]
            have GG := G.trans G2
            by_cases hu : sp.filter (fun q => decide (q.1 = a)) = [(a, d)]
            · rw [decide_eq_true hu]
              simp only [Bool.not_true, Bool.false_eq_true, if_false]
              obtain ⟨b, rfl⟩ : ∃ b : Nat, a = b := ⟨a.toNat, by omega⟩
              have hb : b < cs.length := by omega
              obtain ⟨c, hc⟩ : ∃ c, cs[b]? = some c := ⟨_, List.getElem?_eq_getElem hb⟩
              obtain ⟨dd, hdd, hcv⟩ := hcs.at hc
              have ix1 : ∀ S, ixP S (.tup ds) (.int (b : Int)) = some dd := fun S => by rw [ML.ix_tup]; exact atI_nat' hdd
              try rw [wS_nil]
              rw [later]
              simp only [lw3, wrs_seqL, wS_asg, wS_ife, wS_ret, wS_nil, wS_exp, wE_cS, wE_cI, wE_cN, wE_cB, wE_call, wE_var, wE_glb, wE_bop, wE_idx, wE_lst, wE_tup, wE_blt, wE_met, wT_cmp, wT_and, wT_or, wT_nt, wT_one, wT_tru, wE_ite, wE_and, wE_or, wE_one, wE_nt, wE_cmp, wE_lc, wI_itr, wI_rng, wA_cons, wA_nil, wpO, wpF, List.set, List.getElem?_cons_zero, List.getElem?_cons_succ, Option.join_some, Bool.false_eq_true, if_false, if_true, wE_neg, wE_chn, wE_lset, wE_inW, wE_ixW, wS_fr, wS_rais, wT_chn, t_bl, later_nil, wE_fld, wE_mcl, wE_mk, wE_dnw, wE_dgt, wE_din, wT_din, wE_dcp, wE_rev, wE_cmn, wT_cmn, wS_stF, wS_stD, wS_whl, wE_slc, wL_off, wE_pop, wE_dlt, wA_kv, wS_frT, wS_unp, wS_asgC, wS_stI, wE_frz, ix1]
              rw [later]
              simp only [lw4, wrs_seqL, wS_asg, wS_ife, wS_ret, wS_nil, wS_exp, wE_cS, wE_cI, wE_cN, wE_cB, wE_call, wE_var, wE_glb, wE_bop, wE_idx, wE_lst, wE_tup, wE_blt, wE_met, wT_cmp, wT_and, wT_or, wT_nt, wT_one, wT_tru, wE_ite, wE_and, wE_or, wE_one, wE_nt, wE_cmp, wE_lc, wI_itr, wI_rng, wA_cons, wA_nil, wpO, wpF, List.set, List.getElem?_cons_zero, List.getElem?_cons_succ, Option.join_some, Bool.false_eq_true, if_false, if_true, wE_neg, wE_chn, wE_lset, wE_inW, wE_ixW, wS_fr, wS_rais, wT_chn, t_bl, later_nil, wE_fld, wE_mcl, wE_mk, wE_dnw, wE_dgt, wE_din, wT_din, wE_dcp, wE_rev, wE_cmn, wT_cmn, wS_stF, wS_stD, wS_whl, wE_slc, wL_off, wE_pop, wE_dlt, wA_kv, wS_frT, wS_unp, wS_asgC, wS_stI, wE_frz]
              refine (wantsU (by omega) GG.wf hcv).wpr fun S3 G3 => ?_
              simp only [tupOf, wpO, setAll, List.set]
              refine ⟨rfl, ?_⟩
              rw [later]
              simp only [lw5, wrs_seqL, wS_asg, wS_ife, wS_ret, wS_nil, wS_exp, wE_cS, wE_cI, wE_cN, wE_cB, wE_call, wE_var, wE_glb, wE_bop, wE_idx, wE_lst, wE_tup, wE_blt, wE_met, wT_cmp, wT_and, wT_or, wT_nt, wT_one, wT_tru, wE_ite, wE_and, wE_or, wE_one, wE_nt, wE_cmp, wE_lc, wI_itr, wI_rng, wA_cons, wA_nil, wpO, wpF, List.set, List.getElem?_cons_zero, List.getElem?_cons_succ, Option.join_some, Bool.false_eq_true, if_false, if_true, wE_neg, wE_chn, wE_lset, wE_inW, wE_ixW, wS_fr, wS_rais, wT_chn, t_bl, later_nil, wE_fld, wE_mcl, wE_mk, wE_dnw, wE_dgt, wE_din, wT_din, wE_dcp, wE_rev, wE_cmn, wT_cmn, wS_stF, wS_stD, wS_whl, wE_slc, wL_off, wE_pop, wE_dlt, wA_kv, wS_frT, wS_unp, wS_asgC, wS_stI, wE_frz, c_lt]
              by_cases hw : (c.want : Int) ≤ d
              · rw [decide_eq_false (show ¬ d < (c.want : Int) by omega)]
                simp only [Bool.false_eq_true, if_false]
                have G13 := GG.trans G3
                refine (badU (by omega) G3.wf hcv hz hn H).wpr fun S4 G4 => ?_
                have G14 := G13.trans G4
                simp only [t_bl, wpO]
                cases hbad : c.bad sz ib with
                | true =>
                  simp only [if_true]
                  refine no G14 (not_good hr fun ⟨c', y1, y2, y3, y4⟩ => ?_)
                  have y2 : cs[b]? = some c' := by simpa using y2
                  rw [hc] at y2
                  cases y2
                  rw [hbad] at y4; cases y4
                | false =>
                  simp only [Bool.false_eq_true, if_false]
                  try rw [wS_nil]
                  rw [later]
                  simp only [lw6, wrs_seqL, wS_asg, wS_ife, wS_ret, wS_nil, wS_exp, wE_cS, wE_cI, wE_cN, wE_cB, wE_call, wE_var, wE_glb, wE_bop, wE_idx, wE_lst, wE_tup, wE_blt, wE_met, wT_cmp, wT_and, wT_or, wT_nt, wT_one, wT_tru, wE_ite, wE_and, wE_or, wE_one, wE_nt, wE_cmp, wE_lc, wI_itr, wI_rng, wA_cons, wA_nil, wpO, wpF, List.set, List.getElem?_cons_zero, List.getElem?_cons_succ, Option.join_some, Bool.false_eq_true, if_false, if_true, wE_neg, wE_chn, wE_lset, wE_inW, wE_ixW, wS_fr, wS_rais, wT_chn, t_bl, later_nil, wE_fld, wE_mcl, wE_mk, wE_dnw, wE_dgt, wE_din, wT_din, wE_dcp, wE_rev, wE_cmn, wT_cmn, wS_stF, wS_stD, wS_whl, wE_slc, wL_off, wE_pop, wE_dlt, wA_kv, wS_frT, wS_unp, wS_asgC, wS_stI, wE_frz, nl0, true_and]
                  have G5 : Gr S (S4.new (.lst [])) := G14.trans (Gr.new G14.wf)
                  have o5 : (S4.new (.lst [])).ob S4.nx = some (.lst []) := Store.new_ob
                  have n5 : S4.nx < (S4.new (.lst [])).nx := Nat.lt_succ_self _
                  generalize S4.new (.lst []) = S5 at G5 o5 n5 ⊢
                  have q4 := G14.nx
                  generalize S4.nx = q at o5 n5 q4 ⊢
                  -- the rest, once later is made
                  have rest : ∀ S7, Gr S S7 → q < S7.nx → S7.ob q = some (.lst (((c.kd.lgoals b).map fun x => (x, c.next d)).map pD)) → wrs (evS (sem T k) (gvs T) lw9 [some (.tup ds), some (intsD sz), some (.bl ib), some (psD sp), some (.int ((j : Int) + 1)), some (.int (b : Int)), some (.int d), z7, some dd, some (.int (c.want : Int)), some (.int (c.leave : Int)), some (.loc q), z12] S7)
                      (fun e2 S2 => ∃ k', k' < m ∧ ∃ (sp : List P2) (j : Nat) (z5 z6 z7 z8 z9 z10 z11 z12 : Option D), e2 = [some (.tup ds), some (intsD sz), some (.bl ib), some (psD sp), some (.int (j : Int)), z5, z6, z7, z8, z9, z10, z11, z12] ∧ Gr S S2 ∧ LJ cs sz ib sp j ∧ k' = ds.length + 1 - j ∧ sp.length ≤ 1 + 2 * j) (LawP cs sz ib S) (fun c e S => False) := by
                    intro S7 G7 n7 o7
                    simp only [lw9, wrs_seqL, wS_asg, wS_ife, wS_ret, wS_nil, wS_exp, wE_cS, wE_cI, wE_cN, wE_cB, wE_call, wE_var, wE_glb, wE_bop, wE_idx, wE_lst, wE_tup, wE_blt, wE_met, wT_cmp, wT_and, wT_or, wT_nt, wT_one, wT_tru, wE_ite, wE_and, wE_or, wE_one, wE_nt, wE_cmp, wE_lc, wI_itr, wI_rng, wA_cons, wA_nil, wpO, wpF, List.set, List.getElem?_cons_zero, List.getElem?_cons_succ, Option.join_some, Bool.false_eq_true, if_false, if_true, wE_neg, wE_chn, wE_lset, wE_inW, wE_ixW, wS_fr, wS_rais, wT_chn, t_bl, later_nil, wE_fld, wE_mcl, wE_mk, wE_dnw, wE_dgt, wE_din, wT_din, wE_dcp, wE_rev, wE_cmn, wT_cmn, wS_stF, wS_stD, wS_whl, wE_slc, wL_off, wE_pop, wE_dlt, wA_kv, wS_frT, wS_unp, wS_asgC, wS_stI, wE_frz]
                    have es : srcOf S7 (.loc q) = some (.plc q (((c.kd.lgoals b).map fun x => (x, c.next d)).map pD).length) := by
                      show (obLst (S7.ob q)).map (fun xs => Src.plc q xs.length) = _
                      rw [o7]; rfl
                    rw [es]
                    simp only [wpO]
                    have gl : (c.kd.lgoals (b : Int)).length ≤ 2 := by
                      rw [lgoals_is, List.length_append]
                      split <;> split <;> simp
                    refine (comp_keepP (onP fun q => !decide (q ∈ sp)) id G7.wf n7 o7 (by rw [List.length_map, List.length_map]; exact Nat.lt_of_le_of_lt gl (by decide)) fun y hy S8 G8 => ?_).wpr fun S8 G8 => ?_
                    · obtain ⟨u, hu, rfl⟩ := List.mem_map.mp hy
                      refine turn_if ?_ (fun _ S9 G9 => Gv.ups ?_)
                      · refine .of ?_
                        rw [if_neg (by simp [isOff])]
                        simp only [wrs_seqL, wS_asg, wS_ife, wS_ret, wS_nil, wS_exp, wE_cS, wE_cI, wE_cN, wE_cB, wE_call, wE_var, wE_glb, wE_bop, wE_idx, wE_lst, wE_tup, wE_blt, wE_met, wT_cmp, wT_and, wT_or, wT_nt, wT_one, wT_tru, wE_ite, wE_and, wE_or, wE_one, wE_nt, wE_cmp, wE_lc, wI_itr, wI_rng, wA_cons, wA_nil, wpO, wpF, List.set, List.getElem?_cons_zero, List.getElem?_cons_succ, Option.join_some, Bool.false_eq_true, if_false, if_true, wE_neg, wE_chn, wE_lset, wE_inW, wE_ixW, wS_fr, wS_rais, wT_chn, t_bl, later_nil, wE_fld, wE_mcl, wE_mk, wE_dnw, wE_dgt, wE_din, wT_din, wE_dcp, wE_rev, wE_cmn, wT_cmn, wS_stF, wS_stD, wS_whl, wE_slc, wL_off, wE_pop, wE_dlt, wA_kv, wS_frT, wS_unp, wS_asgC, wS_stI, wE_frz, List.map, wipeE]
                        rw [nin_ps]
                        simp only [wpO]
                        exact ⟨rfl, .refl G8.wf⟩
                      · simp only [wrs_seqL, wS_asg, wS_ife, wS_ret, wS_nil, wS_exp, wE_cS, wE_cI, wE_cN, wE_cB, wE_call, wE_var, wE_glb, wE_bop, wE_idx, wE_lst, wE_tup, wE_blt, wE_met, wT_cmp, wT_and, wT_or, wT_nt, wT_one, wT_tru, wE_ite, wE_and, wE_or, wE_one, wE_nt, wE_cmp, wE_lc, wI_itr, wI_rng, wA_cons, wA_nil, wpO, wpF, List.set, List.getElem?_cons_zero, List.getElem?_cons_succ, Option.join_some, Bool.false_eq_true, if_false, if_true, wE_neg, wE_chn, wE_lset, wE_inW, wE_ixW, wS_fr, wS_rais, wT_chn, t_bl, later_nil, wE_fld, wE_mcl, wE_mk, wE_dnw, wE_dgt, wE_din, wT_din, wE_dcp, wE_rev, wE_cmn, wT_cmn, wS_stF, wS_stD, wS_whl, wE_slc, wL_off, wE_pop, wE_dlt, wA_kv, wS_frT, wS_unp, wS_asgC, wS_stI, wE_frz, List.map, wipeE]
                        exact ⟨rfl, .refl G9.wf⟩
                    · rw [List.map_id, filt_ps]
                      have fl : (((c.kd.lgoals b).map fun x => (x, c.next d)).filter fun q => !decide (q ∈ sp)).length ≤ 2 := Nat.le_trans (List.length_filter_le _ _) (by rw [List.length_map]; exact gl)
                      rw [show psD sp = .lst (sp.map pD) from rfl, add_lw' (by rw [List.length_map, List.length_map]; omega)]
                      simp only [wpF, Bool.false_eq_true, if_false]
                      try rw [later_nil]
                      have lj' := lj.step hp h0 (by simpa using hc) hw hbad hu
                      rw [← List.map_append]
                      refine ⟨ds.length + 1 - (j + 1), by omega, _, j + 1, _, _, _, _, _, _, _, _, rfl, G7.trans G8, lj', rfl, ?_⟩
                      rw [List.length_append]; omega
                  have part8 : ∀ S6, Gr S S6 → q < S6.nx → S6.ob q = some (.lst ((if b1 c.kd = true then [((b : Int) + 1, c.next d)] else []).map pD)) → wrs (evS (sem T k) (gvs T) lw8 [some (.tup ds), some (intsD sz), some (.bl ib), some (psD sp), some (.int ((j : Int) + 1)), some (.int (b : Int)), some (.int d), z7, some dd, some (.int (c.want : Int)), some (.int (c.leave : Int)), some (.loc q), z12] S6)
                      (fun e2 S2 => ∃ k', k' < m ∧ ∃ (sp : List P2) (j : Nat) (z5 z6 z7 z8 z9 z10 z11 z12 : Option D), e2 = [some (.tup ds), some (intsD sz), some (.bl ib), some (psD sp), some (.int (j : Int)), z5, z6, z7, z8, z9, z10, z11, z12] ∧ Gr S S2 ∧ LJ cs sz ib sp j ∧ k' = ds.length + 1 - j ∧ sp.length ≤ 1 + 2 * j) (LawP cs sz ib S) (fun c e S => False) := by
                    intro S6 G6 n6 o6
                    unfold lw8
                    rw [wrs_seqL, wS_ife]
                    refine t8 hcv ?_
                    cases hb2 : b2 c.kd with
                    | true =>
                      rw [if_pos rfl]
                      simp only [wrs_seqL, wS_asg, wS_ife, wS_ret, wS_nil, wS_exp, wE_cS, wE_cI, wE_cN, wE_cB, wE_call, wE_var, wE_glb, wE_bop, wE_idx, wE_lst, wE_tup, wE_blt, wE_met, wT_cmp, wT_and, wT_or, wT_nt, wT_one, wT_tru, wE_ite, wE_and, wE_or, wE_one, wE_nt, wE_cmp, wE_lc, wI_itr, wI_rng, wA_cons, wA_nil, wpO, wpF, List.set, List.getElem?_cons_zero, List.getElem?_cons_succ, Option.join_some, Bool.false_eq_true, if_false, if_true, wE_neg, wE_chn, wE_lset, wE_inW, wE_ixW, wS_fr, wS_rais, wT_chn, t_bl, later_nil, wE_fld, wE_mcl, wE_mk, wE_dnw, wE_dgt, wE_din, wT_din, wE_dcp, wE_rev, wE_cmn, wT_cmn, wS_stF, wS_stD, wS_whl, wE_slc, wL_off, wE_pop, wE_dlt, wA_kv, wS_frT, wS_unp, wS_asgC, wS_stI, wE_frz, add_int, sub_int, far_ix hcv hb2, nl2, true_and]
                      have ex := app_loc (y := .tup [.int ((b : Int) + 1 + far c.kd), .int (d - (c.want : Int) + (c.leave : Int))]) o6 (by rw [List.length_map]; split <;> simp)
                      refine ⟨ex.1, ?_⟩
                      rw [ex.2, wpr_ok]
                      try rw [later_nil]
                      rw [later]
                      refine rest _ (G6.set q4 n6) n6 ?_
                      rw [Store.set_ob, lgoals_is, hb2, List.map_append]
                      split <;> rfl
                    | false =>
                      rw [if_neg Bool.false_ne_true, wS_nil, later]
                      refine rest _ G6 n6 ?_
                      rw [o6, lgoals_is, hb2]
                      split <;> rfl
                  rw [later]
                  unfold lw7
                  rw [wrs_seqL, wS_ife]
                  refine t7 hcv ?_
                  cases hb1 : b1 c.kd with
                  | true =>
                    rw [if_pos rfl]
                    simp only [wrs_seqL, wS_asg, wS_ife, wS_ret, wS_nil, wS_exp, wE_cS, wE_cI, wE_cN, wE_cB, wE_call, wE_var, wE_glb, wE_bop, wE_idx, wE_lst, wE_tup, wE_blt, wE_met, wT_cmp, wT_and, wT_or, wT_nt, wT_one, wT_tru, wE_ite, wE_and, wE_or, wE_one, wE_nt, wE_cmp, wE_lc, wI_itr, wI_rng, wA_cons, wA_nil, wpO, wpF, List.set, List.getElem?_cons_zero, List.getElem?_cons_succ, Option.join_some, Bool.false_eq_true, if_false, if_true, wE_neg, wE_chn, wE_lset, wE_inW, wE_ixW, wS_fr, wS_rais, wT_chn, t_bl, later_nil, wE_fld, wE_mcl, wE_mk, wE_dnw, wE_dgt, wE_din, wT_din, wE_dcp, wE_rev, wE_cmn, wT_cmn, wS_stF, wS_stD, wS_whl, wE_slc, wL_off, wE_pop, wE_dlt, wA_kv, wS_frT, wS_unp, wS_asgC, wS_stI, wE_frz, add_int, sub_int, nl2, true_and]
                    have ex := app_loc (y := .tup [.int ((b : Int) + 1), .int (d - (c.want : Int) + (c.leave : Int))]) o5 (by simp)
                    refine ⟨ex.1, ?_⟩
                    rw [ex.2, wpr_ok]
                    try rw [later_nil]
                    rw [later]
                    refine part8 _ (G5.set q4 n5) n5 ?_
                    rw [Store.set_ob, hb1]; rfl
                  | false =>
                    rw [if_neg Bool.false_ne_true, wS_nil, later]
                    refine part8 _ G5 n5 ?_
                    rw [o5, hb1]; rfl
              · rw [decide_eq_true (show d < (c.want : Int) by omega)]
                simp only [if_true]
                refine no (GG.trans G3) (not_good hr fun ⟨c', y1, y2, y3, y4⟩ => ?_)
                have y2 : cs[b]? = some c' := by simpa using y2
                rw [hc] at y2
                cases y2
                exact hw y3
            · rw [decide_eq_false hu]
              simp only [Bool.not_false, if_true]
              exact no GG (lj.two hp hu)
        · rw [decide_eq_false h1]
          simp only [Bool.not_false, if_true]
          refine no G (not_good hr fun ⟨c', y1, y2, y3, y4⟩ => ?_)
          have := (List.getElem?_eq_some_iff.mp y2).1
          have y1 : 0 ≤ a := y1
          have : a.toNat < cs.length := this
          omega
      · rw [decide_eq_false h0]
        simp only [Bool.false_eq_true, if_false, Bool.not_false, if_true]
        exact no G (not_good hr fun ⟨c', y1, _⟩ => h0 y1)
theorem depthsAll : ∀ n, DepS n
  | 0 => depthsU fun m h => by omega
  | n + 1 => depthsU fun m h => by
    have e : m = n := by omega
    rw [e]; exact @depthsAll n
theorem lawAll : ∀ n, LawS n
  | 0 => lawDepthsU fun m h => by omega
  | n + 1 => lawDepthsU fun m h => by
    have e : m = n := by omega
    rw [e]; exact @lawAll n
end K41

namespace K41
open PySem L2 ML

def lr7 : ST := .seq (.exp (.met false .append (.var 4) (.cons (.call 13 (.cons (.var 0) (.cons (.var 1) (.cons (.bop false .Add (.var 7) (.bop false .Mult (.lst false (.cons (.tup (.cons (.cS ("back" : Str)) (.nil))) (.nil))) (.call 12 (.cons (.var 0) (.cons (.var 1) (.cons (.cI 2) (.nil))))))) (.nil))))) (.nil)))) (.nil)
def lr6 : ST := .seq (.ife (.tru (.var 3)) (.seq (.asg 8 (.call 15 (.cons (.var 0) (.cons (.var 1) (.cons (.call 12 (.cons (.var 0) (.cons (.var 1) (.cons (.cI 3) (.nil))))) (.cons (.cB false) (.nil))))))) (.seq (.asg 7 (.bop false .Add (.var 7) (.lst false (.cons (.tup (.cons (.cS ("block" : Str)) (.cons (.tup (.cons (.cS ("block" : Str)) (.cons (.tup (.cons (.cS ("x" : Str)) (.nil))) (.cons (.tup (.nil)) (.cons (.tup (.nil)) (.nil)))))) (.cons (.bop false .Add (.var 8) (.tup (.cons (.tup (.cons (.cS ("push" : Str)) (.cons (.tup (.cons (.cS ("nil" : Str)) (.nil))) (.nil)))) (.cons (.tup (.cons (.cS ("give" : Str)) (.nil))) (.nil))))) (.nil))))) (.nil))))) (.nil))) (.nil)) lr7
def lr5 : ST := .seq (.asg 7 (.bop false .Add (.var 7) (.lst false (.cons (.tup (.cons (.cS ("send" : Str)) (.cons (.cS ("a" : Str)) (.nil)))) (.cons (.tup (.cons (.cS ("send" : Str)) (.cons (.cS ("+" : Str)) (.nil)))) (.cons (.tup (.cons (.cS ("send" : Str)) (.cons (.cS ("a:b:" : Str)) (.nil)))) (.cons (.tup (.cons (.cS ("super" : Str)) (.cons (.cS ("k:" : Str)) (.nil)))) (.cons (.tup (.cons (.cS ("drop" : Str)) (.nil))) (.cons (.tup (.cons (.cS ("give" : Str)) (.nil))) (.nil)))))))))) lr6
def lr4 : ST := .seq (.asg 7 (.bop false .Add (.var 7) (.lst false (.cons (.tup (.cons (.cS ("write" : Str)) (.cons (.cI 0) (.cons (.call 12 (.cons (.var 0) (.cons (.var 1) (.cons (.cI 2) (.nil))))) (.nil))))) (.cons (.tup (.cons (.cS ("turn" : Str)) (.nil))) (.cons (.tup (.cons (.cS ("jump" : Str)) (.cons (.var 6) (.nil)))) (.cons (.tup (.cons (.cS ("choose" : Str)) (.cons (.var 6) (.cons (.cS ("then:" : Str)) (.nil))))) (.nil)))))))) lr5
def lr3 : ST := .seq (.asg 7 (.bop false .Add (.var 7) (.lst false (.cons (.tup (.cons (.cS ("read" : Str)) (.cons (.call 12 (.cons (.var 0) (.cons (.var 1) (.cons (.cI 2) (.nil))))) (.cons (.call 12 (.cons (.var 0) (.cons (.var 1) (.cons (.cI 2) (.nil))))) (.nil))))) (.cons (.tup (.cons (.cS ("store" : Str)) (.cons (.cS ("p" : Str)) (.nil)))) (.cons (.tup (.cons (.cS ("drop" : Str)) (.nil))) (.nil))))))) lr4
def lr2 : ST := .seq (.asg 7 (.lst false (.cons (.tup (.cons (.cS ("push" : Str)) (.cons (.tup (.cons (.cS ("number" : Str)) (.cons (.var 5) (.nil)))) (.nil)))) (.cons (.tup (.cons (.cS ("push" : Str)) (.cons (.tup (.cons (.cS ("yes" : Str)) (.nil))) (.nil)))) (.cons (.tup (.cons (.cS ("self" : Str)) (.nil))) (.cons (.tup (.cons (.cS ("slot" : Str)) (.cons (.cS ("p" : Str)) (.nil)))) (.cons (.tup (.cons (.cS ("push" : Str)) (.cons (.tup (.cons (.cS ("nil" : Str)) (.nil))) (.nil)))) (.nil)))))))) lr3
def lr1 : ST := .seq (.ife (.cmp .Eq (.call 12 (.cons (.var 0) (.cons (.var 1) (.cons (.cI 2) (.nil))))) (.cI 0)) (.seq (.asg 6 (.bop false .Sub (.bop false .Sub (.call 12 (.cons (.var 0) (.cons (.var 1) (.cons (.bop false .Add (.var 2) (.cI 2)) (.nil))))) (.var 5)) (.cI 1))) (.nil)) (.nil)) lr2
def lr0 : ST := .seq (.asg 6 (.call 12 (.cons (.var 0) (.cons (.var 1) (.cons (.cI 3) (.nil)))))) lr1
def lrL : ST := .fr 5 (.rng (.var 2)) lr0
def lq2 : ST := .seq (.ret (.blt false .tuple (.cons (.var 4) (.nil)))) (.nil)
def lq1 : ST := .seq (.fr 5 (.rng (.var 2)) (.seq (.asg 6 (.call 12 (.cons (.var 0) (.cons (.var 1) (.cons (.cI 3) (.nil)))))) (.seq (.ife (.cmp .Eq (.call 12 (.cons (.var 0) (.cons (.var 1) (.cons (.cI 2) (.nil))))) (.cI 0)) (.seq (.asg 6 (.bop false .Sub (.bop false .Sub (.call 12 (.cons (.var 0) (.cons (.var 1) (.cons (.bop false .Add (.var 2) (.cI 2)) (.nil))))) (.var 5)) (.cI 1))) (.nil)) (.nil)) (.seq (.asg 7 (.lst false (.cons (.tup (.cons (.cS ("push" : Str)) (.cons (.tup (.cons (.cS ("number" : Str)) (.cons (.var 5) (.nil)))) (.nil)))) (.cons (.tup (.cons (.cS ("push" : Str)) (.cons (.tup (.cons (.cS ("yes" : Str)) (.nil))) (.nil)))) (.cons (.tup (.cons (.cS ("self" : Str)) (.nil))) (.cons (.tup (.cons (.cS ("slot" : Str)) (.cons (.cS ("p" : Str)) (.nil)))) (.cons (.tup (.cons (.cS ("push" : Str)) (.cons (.tup (.cons (.cS ("nil" : Str)) (.nil))) (.nil)))) (.nil)))))))) (.seq (.asg 7 (.bop false .Add (.var 7) (.lst false (.cons (.tup (.cons (.cS ("read" : Str)) (.cons (.call 12 (.cons (.var 0) (.cons (.var 1) (.cons (.cI 2) (.nil))))) (.cons (.call 12 (.cons (.var 0) (.cons (.var 1) (.cons (.cI 2) (.nil))))) (.nil))))) (.cons (.tup (.cons (.cS ("store" : Str)) (.cons (.cS ("p" : Str)) (.nil)))) (.cons (.tup (.cons (.cS ("drop" : Str)) (.nil))) (.nil))))))) (.seq (.asg 7 (.bop false .Add (.var 7) (.lst false (.cons (.tup (.cons (.cS ("write" : Str)) (.cons (.cI 0) (.cons (.call 12 (.cons (.var 0) (.cons (.var 1) (.cons (.cI 2) (.nil))))) (.nil))))) (.cons (.tup (.cons (.cS ("turn" : Str)) (.nil))) (.cons (.tup (.cons (.cS ("jump" : Str)) (.cons (.var 6) (.nil)))) (.cons (.tup (.cons (.cS ("choose" : Str)) (.cons (.var 6) (.cons (.cS ("then:" : Str)) (.nil))))) (.nil)))))))) (.seq (.asg 7 (.bop false .Add (.var 7) (.lst false (.cons (.tup (.cons (.cS ("send" : Str)) (.cons (.cS ("a" : Str)) (.nil)))) (.cons (.tup (.cons (.cS ("send" : Str)) (.cons (.cS ("+" : Str)) (.nil)))) (.cons (.tup (.cons (.cS ("send" : Str)) (.cons (.cS ("a:b:" : Str)) (.nil)))) (.cons (.tup (.cons (.cS ("super" : Str)) (.cons (.cS ("k:" : Str)) (.nil)))) (.cons (.tup (.cons (.cS ("drop" : Str)) (.nil))) (.cons (.tup (.cons (.cS ("give" : Str)) (.nil))) (.nil)))))))))) (.seq (.ife (.tru (.var 3)) (.seq (.asg 8 (.call 15 (.cons (.var 0) (.cons (.var 1) (.cons (.call 12 (.cons (.var 0) (.cons (.var 1) (.cons (.cI 3) (.nil))))) (.cons (.cB false) (.nil))))))) (.seq (.asg 7 (.bop false .Add (.var 7) (.lst false (.cons (.tup (.cons (.cS ("block" : Str)) (.cons (.tup (.cons (.cS ("block" : Str)) (.cons (.tup (.cons (.cS ("x" : Str)) (.nil))) (.cons (.tup (.nil)) (.cons (.tup (.nil)) (.nil)))))) (.cons (.bop false .Add (.var 8) (.tup (.cons (.tup (.cons (.cS ("push" : Str)) (.cons (.tup (.cons (.cS ("nil" : Str)) (.nil))) (.nil)))) (.cons (.tup (.cons (.cS ("give" : Str)) (.nil))) (.nil))))) (.nil))))) (.nil))))) (.nil))) (.nil)) (.seq (.exp (.met false .append (.var 4) (.cons (.call 13 (.cons (.var 0) (.cons (.var 1) (.cons (.bop false .Add (.var 7) (.bop false .Mult (.lst false (.cons (.tup (.cons (.cS ("back" : Str)) (.nil))) (.nil))) (.call 12 (.cons (.var 0) (.cons (.var 1) (.cons (.cI 2) (.nil))))))) (.nil))))) (.nil)))) (.nil)))))))))) lq2
def lq0 : ST := .seq (.asg 4 (.lst true (.nil))) lq1
theorem lq_is : f_law_row_of_codes.body = lq0 := rfl
theorem lq1_is : lq1 = .seq lrL lq2 := rfl
theorem hc : T.fns[10]? = some cellF := rfl
theorem hm : T.fns[11]? = some (mixF 10) := rfl
theorem hd : T.fns[12]? = some (drawF 11) := rfl
theorem hp : T.fns[13]? = some (pickF 12) := rfl
section
variable {L t m : Nat} {ns : List Int} {S : Store}
theorem drL {k : Int} (hL : 3 ≤ L) (h : Tn t m S) (hl : m < 90000) (hk : 0 < k) : ML.Sp t m 1 S (fun d => ∃ r, d = .int r ∧ 0 ≤ r ∧ r < k) (sem T L 12 [script ns, .loc t, .int k] S) := by
  obtain ⟨n, rfl⟩ : ∃ n, L = n + 3 := ⟨L - 3, by omega⟩
  exact ok_draw hc hm hd h hl hk
theorem pkL {xs : List D} (hL : 4 ≤ L) (h : Tn t m S) (hl : m < 90000) (hx : 0 < xs.length) : ML.Sp t m 1 S (fun d => d ∈ xs) (sem T L 13 [script ns, .loc t, .lst xs] S) := by
  obtain ⟨n, rfl⟩ : ∃ n, L = n + 4 := ⟨L - 4, by omega⟩
  exact ok_pickL hc hm hd hp h hl hx
end
def AllCV (n : Nat) (xs : List D) : Prop := ∀ x ∈ xs, ∃ c, CV n x c
theorem AllCV.app {n : Nat} {xs ys : List D} (h : AllCV n xs) (k : AllCV n ys) : AllCV n (xs ++ ys) := fun x hx => (List.mem_append.mp hx).elim (h x) (k x)
theorem AllCV.nil {n : Nat} : AllCV n [] := fun x hx => by cases hx
theorem AllCV.cons {n : Nat} {x : D} {c : CI} {xs : List D} (h : CV n x c) (k : AllCV n xs) : AllCV n (x :: xs) := fun y hy => (List.mem_cons.mp hy).elim (fun e => ⟨c, e ▸ h⟩) (k y)
def RowP (n k : Nat) (d : D) : Prop := ∃ ds, d = .tup ds ∧ ds.length ≤ k ∧ AllCV n ds
theorem back_rep {S : Store} {r : Int} (r0 : 0 ≤ r) (r1 : r < 2) : ∃ xs, binP S .Mult (.lst [.tup [.str (Str.ofString "back")]]) (.int r) = some (.newl xs) ∧ xs.length ≤ 1 ∧ ∀ n, AllCV n xs := by
  have : r = 0 ∨ r = 1 := by omega
  rcases this with rfl | rfl
  · exact ⟨[], rfl, Nat.zero_le _, fun n => .nil⟩
  · exact ⟨[.tup [wd "back"]], rfl, Nat.le_refl _, fun n => .cons .back .nil⟩
theorem intL_len {n : Nat} : (intL 0 n).length = n := by unfold intL; rw [List.length_map, List.length_range]
theorem add_tt {S : Store} {xs ys : List D} (h : xs.length + ys.length ≤ 1000) : binP S .Add (.tup xs) (.tup ys) = some (.newt (xs ++ ys)) := by
  show guardP (decide (xs.length + ys.length ≤ nMax)) _ = _
  rw [decide_eq_true (Nat.le_trans h (by decide))]
  rfl
theorem rowGen {L t m nb K B : Nat} {b : Bool} {many : Nat} {ns : List Int} {S : Store} (hL : 8 ≤ L) (h : Tn t m S) (hB : B ≤ 80000) (hm : m + K * many < B) (hmany : many ≤ 9) (hK : 10 ≤ K)
    (Hin : b = true → nb = 1 ∧ 31 ≤ K ∧ ∀ (m' : Nat) (S' : Store) (r : Int), Tn t m' S' → m' < B → 0 ≤ r → r < 3 → ML.Sp t m' 20 S' (RowP 0 2) (sem T (L - 1) 15 [script ns, .loc t, .int r, .bl false] S')) :
    ML.Sp t m (K * many) S (RowP nb many) (sem T L 15 [script ns, .loc t, .int (many : Int), .bl b] S) := by
  obtain ⟨k, rfl⟩ : ∃ n, L = n + 1 := ⟨L - 1, by omega⟩
  show wpr (endF (evS (sem T k) (gvs T) f_law_row_of_codes.body [some (script ns), some (.loc t), some (.int (many : Int)), some (.bl b), none, none, none, none, none] S)) _ _
  rw [wrs_end, lq_is]
  simp only [lq0, wrs_seqL, wS_asg, wS_ife, wS_ret, wS_nil, wS_exp, wE_cS, wE_cI, wE_cN, wE_cB, wE_call, wE_var, wE_glb, wE_bop, wE_idx, wE_lst, wE_tup, wE_blt, wE_met, wT_cmp, wT_and, wT_or, wT_nt, wT_one, wT_tru, wE_ite, wE_and, wE_or, wE_one, wE_nt, wE_cmp, wE_lc, wI_itr, wI_rng, wA_cons, wA_nil, wpO, wpF, List.set, List.getElem?_cons_zero, List.getElem?_cons_succ, Option.join_some, Bool.false_eq_true, if_false, if_true, wE_neg, wE_chn, wE_lset, wE_inW, wE_ixW, wS_fr, wS_rais, wT_chn, t_bl, later_nil, wE_fld, wE_mcl, wE_mk, wE_dnw, wE_dgt, wE_din, wT_din, wE_dcp, wE_rev, wE_cmn, wT_cmn, wS_stF, wS_stD, wS_whl, wE_slc, wL_off, wE_pop, wE_dlt, wA_kv, wS_frT, wS_unp, wS_asgC, wS_stI, wE_frz, nl0, true_and]
  rw [later, lq1_is]
  simp only [lrL, wrs_seqL, wS_asg, wS_ife, wS_ret, wS_nil, wS_exp, wE_cS, wE_cI, wE_cN, wE_cB, wE_call, wE_var, wE_glb, wE_bop, wE_idx, wE_lst, wE_tup, wE_blt, wE_met, wT_cmp, wT_and, wT_or, wT_nt, wT_one, wT_tru, wE_ite, wE_and, wE_or, wE_one, wE_nt, wE_cmp, wE_lc, wI_itr, wI_rng, wA_cons, wA_nil, wpO, wpF, List.set, List.getElem?_cons_zero, List.getElem?_cons_succ, Option.join_some, Bool.false_eq_true, if_false, if_true, wE_neg, wE_chn, wE_lset, wE_inW, wE_ixW, wS_fr, wS_rais, wT_chn, t_bl, later_nil, wE_fld, wE_mcl, wE_mk, wE_dnw, wE_dgt, wE_din, wT_din, wE_dcp, wE_rev, wE_cmn, wT_cmn, wS_stF, wS_stD, wS_whl, wE_slc, wL_off, wE_pop, wE_dlt, wA_kv, wS_frT, wS_unp, wS_asgC, wS_stI, wE_frz]
  refine ⟨⟨by have : (9 : Int) ≤ (nMax : Int) := by decide
              omega, by have : (0 : Int) ≤ (nMax : Int) := by decide
                        omega⟩, ?_⟩
  have hne : S.nx ≠ t := Nat.ne_of_gt h.lt
  rw [Int.toNat_natCast]
  refine wrs_for (fun j env S' => ∃ acc z5 z6 z7 z8, env = [some (script ns), some (.loc t), some (.int (many : Int)), some (.bl b), some (.loc S.nx), z5, z6, z7, z8] ∧ Tn t (m + K * j) S' ∧ Kp t S S' ∧ S.nx < S'.nx ∧ S'.ob S.nx = some (.lst acc) ∧ acc.length = j ∧ AllCV nb acc) ?_ ?_ ?_
  · exact ⟨[], _, _, _, _, rfl, h.gr (Gr.new h.wf), .of (Gr.new h.wf), Nat.lt_succ_self _, Store.new_ob, rfl, .nil⟩
  · rintro j y env S' hy ⟨acc, z5, z6, z7, z8, rfl, T0, K0, n0, o0, al, ac⟩
    have hj := (List.getElem?_eq_some_iff.mp hy).1
    rw [intL_len] at hj
    have hKj : K * j + K ≤ K * many := by rw [← Nat.mul_succ]; exact Nat.mul_le_mul_left K hj
    obtain ⟨yi, rfl⟩ : ∃ yi : Int, y = .int yi := by
      unfold intL at hy
      rw [List.getElem?_map] at hy
      obtain ⟨u, _, rfl⟩ := Option.map_eq_some_iff.mp hy
      exact ⟨_, rfl⟩
    simp only [lr0, wrs_seqL, wS_asg, wS_ife, wS_ret, wS_nil, wS_exp, wE_cS, wE_cI, wE_cN, wE_cB, wE_call, wE_var, wE_glb, wE_bop, wE_idx, wE_lst, wE_tup, wE_blt, wE_met, wT_cmp, wT_and, wT_or, wT_nt, wT_one, wT_tru, wE_ite, wE_and, wE_or, wE_one, wE_nt, wE_cmp, wE_lc, wI_itr, wI_rng, wA_cons, wA_nil, wpO, wpF, List.set, List.getElem?_cons_zero, List.getElem?_cons_succ, Option.join_some, Bool.false_eq_true, if_false, if_true, wE_neg, wE_chn, wE_lset, wE_inW, wE_ixW, wS_fr, wS_rais, wT_chn, t_bl, later_nil, wE_fld, wE_mcl, wE_mk, wE_dnw, wE_dgt, wE_din, wT_din, wE_dcp, wE_rev, wE_cmn, wT_cmn, wS_stF, wS_stD, wS_whl, wE_slc, wL_off, wE_pop, wE_dlt, wA_kv, wS_frT, wS_unp, wS_asgC, wS_stI, wE_frz]
    refine (drL (by omega) T0 (by omega) (by decide)).use fun d S1 ⟨f0, e, _, _⟩ T1 K1 => ?_
    subst e
    rw [later]
    simp only [lr1, wrs_seqL, wS_asg, wS_ife, wS_ret, wS_nil, wS_exp, wE_cS, wE_cI, wE_cN, wE_cB, wE_call, wE_var, wE_glb, wE_bop, wE_idx, wE_lst, wE_tup, wE_blt, wE_met, wT_cmp, wT_and, wT_or, wT_nt, wT_one, wT_tru, wE_ite, wE_and, wE_or, wE_one, wE_nt, wE_cmp, wE_lc, wI_itr, wI_rng, wA_cons, wA_nil, wpO, wpF, List.set, List.getElem?_cons_zero, List.getElem?_cons_succ, Option.join_some, Bool.false_eq_true, if_false, if_true, wE_neg, wE_chn, wE_lset, wE_inW, wE_ixW, wS_fr, wS_rais, wT_chn, t_bl, later_nil, wE_fld, wE_mcl, wE_mk, wE_dnw, wE_dgt, wE_din, wT_din, wE_dcp, wE_rev, wE_cmn, wT_cmn, wS_stF, wS_stD, wS_whl, wE_slc, wL_off, wE_pop, wE_dlt, wA_kv, wS_frT, wS_unp, wS_asgC, wS_stI, wE_frz]
    refine (drL (by omega) T1 (by omega) (by decide)).use fun d S2 ⟨r, e, _, _⟩ T2 K2 => ?_
    subst e
    simp only [c_eq_int, wpO]
    have K02 := (K0.trans K1).trans K2
    -- from the table of codes on
    have go : ∀ (f : Int) (S3 : Store), Tn t (m + K * j + 3) S3 → Kp t S' S3 → Later (sem T k) (gvs T) lr2 (fun env S' => ∃ acc z5 z6 z7 z8, env = [some (script ns), some (.loc t), some (.int (many : Int)), some (.bl b), some (.loc S.nx), z5, z6, z7, z8] ∧ Tn t (m + K * (j + 1)) S' ∧ Kp t S S' ∧ S.nx < S'.nx ∧ S'.ob S.nx = some (.lst acc) ∧ acc.length = j + 1 ∧ AllCV nb acc)
        (fun d S' => RowP nb many d ∧ Tn t (m + K * many) S' ∧ Kp t S S') (fun c _ S => False) [some (script ns), some (.loc t), some (.int (many : Int)), some (.bl b), some (.loc S.nx), some (.int yi), some (.int f), z7, z8] S3 := by
      intro f S3 T3 K3
      rw [later]
      simp only [lr2, wrs_seqL, wS_asg, wS_ife, wS_ret, wS_nil, wS_exp, wE_cS, wE_cI, wE_cN, wE_cB, wE_call, wE_var, wE_glb, wE_bop, wE_idx, wE_lst, wE_tup, wE_blt, wE_met, wT_cmp, wT_and, wT_or, wT_nt, wT_one, wT_tru, wE_ite, wE_and, wE_or, wE_one, wE_nt, wE_cmp, wE_lc, wI_itr, wI_rng, wA_cons, wA_nil, wpO, wpF, List.set, List.getElem?_cons_zero, List.getElem?_cons_succ, Option.join_some, Bool.false_eq_true, if_false, if_true, wE_neg, wE_chn, wE_lset, wE_inW, wE_ixW, wS_fr, wS_rais, wT_chn, t_bl, later_nil, wE_fld, wE_mcl, wE_mk, wE_dnw, wE_dgt, wE_din, wT_din, wE_dcp, wE_rev, wE_cmn, wT_cmn, wS_stF, wS_stD, wS_whl, wE_slc, wL_off, wE_pop, wE_dlt, wA_kv, wS_frT, wS_unp, wS_asgC, wS_stI, wE_frz, nl1, nl2, true_and]
      refine ⟨by show 5 ≤ nMax; decide, ?_⟩
      rw [later]
      simp only [lr3, wrs_seqL, wS_asg, wS_ife, wS_ret, wS_nil, wS_exp, wE_cS, wE_cI, wE_cN, wE_cB, wE_call, wE_var, wE_glb, wE_bop, wE_idx, wE_lst, wE_tup, wE_blt, wE_met, wT_cmp, wT_and, wT_or, wT_nt, wT_one, wT_tru, wE_ite, wE_and, wE_or, wE_one, wE_nt, wE_cmp, wE_lc, wI_itr, wI_rng, wA_cons, wA_nil, wpO, wpF, List.set, List.getElem?_cons_zero, List.getElem?_cons_succ, Option.join_some, Bool.false_eq_true, if_false, if_true, wE_neg, wE_chn, wE_lset, wE_inW, wE_ixW, wS_fr, wS_rais, wT_chn, t_bl, later_nil, wE_fld, wE_mcl, wE_mk, wE_dnw, wE_dgt, wE_din, wT_din, wE_dcp, wE_rev, wE_cmn, wT_cmn, wS_stF, wS_stD, wS_whl, wE_slc, wL_off, wE_pop, wE_dlt, wA_kv, wS_frT, wS_unp, wS_asgC, wS_stI, wE_frz, nl1, nl2, nl3, true_and]
      refine (drL (by omega) T3 (by omega) (by decide)).use fun d S4 ⟨i, e, _, _⟩ T4 K4 => ?_
      subst e
      refine (drL (by omega) T4 (by omega) (by decide)).use fun d S5 ⟨i', e, _, _⟩ T5 K5 => ?_
      subst e
      rw [add_lw' (by simp)]
      simp only [wpF, Bool.false_eq_true, if_false]
      rw [later]
      simp only [lr4, wrs_seqL, wS_asg, wS_ife, wS_ret, wS_nil, wS_exp, wE_cS, wE_cI, wE_cN, wE_cB, wE_call, wE_var, wE_glb, wE_bop, wE_idx, wE_lst, wE_tup, wE_blt, wE_met, wT_cmp, wT_and, wT_or, wT_nt, wT_one, wT_tru, wE_ite, wE_and, wE_or, wE_one, wE_nt, wE_cmp, wE_lc, wI_itr, wI_rng, wA_cons, wA_nil, wpO, wpF, List.set, List.getElem?_cons_zero, List.getElem?_cons_succ, Option.join_some, Bool.false_eq_true, if_false, if_true, wE_neg, wE_chn, wE_lset, wE_inW, wE_ixW, wS_fr, wS_rais, wT_chn, t_bl, later_nil, wE_fld, wE_mcl, wE_mk, wE_dnw, wE_dgt, wE_din, wT_din, wE_dcp, wE_rev, wE_cmn, wT_cmn, wS_stF, wS_stD, wS_whl, wE_slc, wL_off, wE_pop, wE_dlt, wA_kv, wS_frT, wS_unp, wS_asgC, wS_stI, wE_frz, nl1, nl2, nl3, true_and]
      refine (drL (by omega) T5 (by omega) (by decide)).use fun d S6 ⟨i2, e, _, _⟩ T6 K6 => ?_
      subst e
      refine ⟨by show 4 ≤ nMax; decide, ?_⟩
      rw [add_lw' (by simp)]
      simp only [wpF, Bool.false_eq_true, if_false]
      rw [later]
      simp only [lr5, wrs_seqL, wS_asg, wS_ife, wS_ret, wS_nil, wS_exp, wE_cS, wE_cI, wE_cN, wE_cB, wE_call, wE_var, wE_glb, wE_bop, wE_idx, wE_lst, wE_tup, wE_blt, wE_met, wT_cmp, wT_and, wT_or, wT_nt, wT_one, wT_tru, wE_ite, wE_and, wE_or, wE_one, wE_nt, wE_cmp, wE_lc, wI_itr, wI_rng, wA_cons, wA_nil, wpO, wpF, List.set, List.getElem?_cons_zero, List.getElem?_cons_succ, Option.join_some, Bool.false_eq_true, if_false, if_true, wE_neg, wE_chn, wE_lset, wE_inW, wE_ixW, wS_fr, wS_rais, wT_chn, t_bl, later_nil, wE_fld, wE_mcl, wE_mk, wE_dnw, wE_dgt, wE_din, wT_din, wE_dcp, wE_rev, wE_cmn, wT_cmn, wS_stF, wS_stD, wS_whl, wE_slc, wL_off, wE_pop, wE_dlt, wA_kv, wS_frT, wS_unp, wS_asgC, wS_stI, wE_frz, nl1, nl2, nl3, true_and]
      refine ⟨by show 6 ≤ nMax; decide, ?_⟩
      rw [add_lw' (by simp)]
      simp only [wpF, Bool.false_eq_true, if_false]
      have K36 := ((K3.trans K4).trans K5).trans K6
      have cv : AllCV nb ([D.tup [.str (Str.ofString "push"), .tup [.str (Str.ofString "number"), .int yi]], .tup [.str (Str.ofString "push"), .tup [.str (Str.ofString "yes")]], .tup [.str (Str.ofString "self")], .tup [.str (Str.ofString "slot"), .str (Str.ofString "p")], .tup [.str (Str.ofString "push"), .tup [.str (Str.ofString "nil")]]]
          ++ [.tup [.str (Str.ofString "read"), .int i, .int i'], .tup [.str (Str.ofString "store"), .str (Str.ofString "p")], .tup [.str (Str.ofString "drop")]]
          ++ [.tup [.str (Str.ofString "write"), .int 0, .int i2], .tup [.str (Str.ofString "turn")], .tup [.str (Str.ofString "jump"), .int f], .tup [.str (Str.ofString "choose"), .int f, .str (Str.ofString "then:")]]
          ++ [.tup [.str (Str.ofString "send"), .str (Str.ofString "a")], .tup [.str (Str.ofString "send"), .str (Str.ofString "+")], .tup [.str (Str.ofString "send"), .str (Str.ofString "a:b:")], .tup [.str (Str.ofString "super"), .str (Str.ofString "k:")], .tup [.str (Str.ofString "drop")], .tup [.str (Str.ofString "give")]]) :=
        (((AllCV.cons .push (.cons .push (.cons .self (.cons .slot (.cons .push .nil))))).app (.cons .read (.cons .store (.cons .drop .nil)))).app (.cons .write (.cons .turn (.cons .jump (.cons .choose .nil))))).app (.cons (.send .a) (.cons (.send .p) (.cons (.send .ab) (.cons (.sup .k) (.cons .drop (.cons .give .nil))))))
      generalize hxs : [D.tup [.str (Str.ofString "push"), .tup [.str (Str.ofString "number"), .int yi]], .tup [.str (Str.ofString "push"), .tup [.str (Str.ofString "yes")]], .tup [.str (Str.ofString "self")], .tup [.str (Str.ofString "slot"), .str (Str.ofString "p")], .tup [.str (Str.ofString "push"), .tup [.str (Str.ofString "nil")]]]
          ++ [.tup [.str (Str.ofString "read"), .int i, .int i'], .tup [.str (Str.ofString "store"), .str (Str.ofString "p")], .tup [.str (Str.ofString "drop")]]
          ++ [.tup [.str (Str.ofString "write"), .int 0, .int i2], .tup [.str (Str.ofString "turn")], .tup [.str (Str.ofString "jump"), .int f], .tup [.str (Str.ofString "choose"), .int f, .str (Str.ofString "then:")]]
          ++ [.tup [.str (Str.ofString "send"), .str (Str.ofString "a")], .tup [.str (Str.ofString "send"), .str (Str.ofString "+")], .tup [.str (Str.ofString "send"), .str (Str.ofString "a:b:")], .tup [.str (Str.ofString "super"), .str (Str.ofString "k:")], .tup [.str (Str.ofString "drop")], .tup [.str (Str.ofString "give")]] = xs at cv ⊢
      have xl : 0 < xs.length ∧ xs.length ≤ 18 := by rw [← hxs]; simp
      clear hxs
      -- the last: one is picked
      have pick : ∀ (ys : List D) (w8 : Option D) (S7 : Store) (m7 : Nat), 0 < ys.length → ys.length ≤ 30 → AllCV nb ys → Tn t m7 S7 → m7 + 2 ≤ m + K * (j + 1) → Kp t S' S7 → Later (sem T k) (gvs T) lr7 (fun env S' => ∃ acc z5 z6 z7 z8, env = [some (script ns), some (.loc t), some (.int (many : Int)), some (.bl b), some (.loc S.nx), z5, z6, z7, z8] ∧ Tn t (m + K * (j + 1)) S' ∧ Kp t S S' ∧ S.nx < S'.nx ∧ S'.ob S.nx = some (.lst acc) ∧ acc.length = j + 1 ∧ AllCV nb acc)
          (fun d S' => RowP nb many d ∧ Tn t (m + K * many) S' ∧ Kp t S S') (fun c _ S => False) [some (script ns), some (.loc t), some (.int (many : Int)), some (.bl b), some (.loc S.nx), some (.int yi), some (.int f), some (.lst ys), w8] S7 := by
        intro ys w8 S7 m7 y0 y1 yc T7 m7l K7
        have hKs : K * (j + 1) = K * j + K := Nat.mul_succ K j
        rw [later]
        simp only [lr7, wrs_seqL, wS_asg, wS_ife, wS_ret, wS_nil, wS_exp, wE_cS, wE_cI, wE_cN, wE_cB, wE_call, wE_var, wE_glb, wE_bop, wE_idx, wE_lst, wE_tup, wE_blt, wE_met, wT_cmp, wT_and, wT_or, wT_nt, wT_one, wT_tru, wE_ite, wE_and, wE_or, wE_one, wE_nt, wE_cmp, wE_lc, wI_itr, wI_rng, wA_cons, wA_nil, wpO, wpF, List.set, List.getElem?_cons_zero, List.getElem?_cons_succ, Option.join_some, Bool.false_eq_true, if_false, if_true, wE_neg, wE_chn, wE_lset, wE_inW, wE_ixW, wS_fr, wS_rais, wT_chn, t_bl, later_nil, wE_fld, wE_mcl, wE_mk, wE_dnw, wE_dgt, wE_din, wT_din, wE_dcp, wE_rev, wE_cmn, wT_cmn, wS_stF, wS_stD, wS_whl, wE_slc, wL_off, wE_pop, wE_dlt, wA_kv, wS_frT, wS_unp, wS_asgC, wS_stI, wE_frz, nl1, true_and]
        have o7 : S7.ob S.nx = some (.lst acc) := (K7.ob _ n0 hne).trans o0
        refine ⟨(app_loc (y := .non) o7 (by omega)).1, ?_⟩
        refine (drL (by omega) T7 (by omega) (by decide)).use fun d S8 ⟨r, e, r0, r1⟩ T8 K8 => ?_
        subst e
        obtain ⟨bs, e1, e2, e3⟩ := back_rep (S := S8) r0 r1
        rw [e1]
        simp only [wpF, Bool.false_eq_true, if_false]
        rw [add_lw' (by omega)]
        simp only [wpF, Bool.false_eq_true, if_false]
        refine (pkL (by omega) T8 (by omega) (by rw [List.length_append]; omega)).use fun d S9 hd T9 K9 => ?_
        obtain ⟨cc, hcc⟩ := (yc.app (e3 nb)) d hd
        have K09 := (K7.trans K8).trans K9
        have o9 : S9.ob S.nx = some (.lst acc) := (K09.ob _ n0 hne).trans o0
        have n9 : S.nx < S9.nx := Nat.lt_of_lt_of_le n0 K09.nx
        rw [(app_loc (y := d) o9 (by omega)).2, wpr_ok]
        try rw [later_nil]
        exact ⟨acc ++ [d], _, _, _, _, rfl, (T9.setN n9 hne).mono (by omega), (K0.trans K09).setN (Nat.le_refl _), n9, Store.set_ob, by rw [List.length_append, al]; rfl, ac.app (.cons hcc .nil)⟩
      have hKs : K * (j + 1) = K * j + K := Nat.mul_succ K j
      rw [later]
      simp only [lr6, wrs_seqL, wS_asg, wS_ife, wS_ret, wS_nil, wS_exp, wE_cS, wE_cI, wE_cN, wE_cB, wE_call, wE_var, wE_glb, wE_bop, wE_idx, wE_lst, wE_tup, wE_blt, wE_met, wT_cmp, wT_and, wT_or, wT_nt, wT_one, wT_tru, wE_ite, wE_and, wE_or, wE_one, wE_nt, wE_cmp, wE_lc, wI_itr, wI_rng, wA_cons, wA_nil, wpO, wpF, List.set, List.getElem?_cons_zero, List.getElem?_cons_succ, Option.join_some, Bool.false_eq_true, if_false, if_true, wE_neg, wE_chn, wE_lset, wE_inW, wE_ixW, wS_fr, wS_rais, wT_chn, t_bl, later_nil, wE_fld, wE_mcl, wE_mk, wE_dnw, wE_dgt, wE_din, wT_din, wE_dcp, wE_rev, wE_cmn, wT_cmn, wS_stF, wS_stD, wS_whl, wE_slc, wL_off, wE_pop, wE_dlt, wA_kv, wS_frT, wS_unp, wS_asgC, wS_stI, wE_frz, t_bl]
      cases b with
      | false =>
        simp only [Bool.false_eq_true, if_false]
        try rw [later_nil]
        exact pick xs _ S6 (m + K * j + 3 + 1 + 1 + 1) xl.1 (by omega) cv T6 (by omega) K36
      | true =>
        obtain ⟨nb1, hK31, Hin⟩ := Hin rfl
        simp only [if_true]
        refine (drL (by omega) T6 (by omega) (by decide)).use fun d S7 ⟨r, e, r0, r1⟩ T7 K7 => ?_
        subst e
        refine (Hin _ S7 r T7 (by omega) r0 r1).use fun d S8 ⟨is, e, il, ia⟩ T8 K8 => ?_
        subst e
        rw [later]
        simp only [wrs_seqL, wS_asg, wS_ife, wS_ret, wS_nil, wS_exp, wE_cS, wE_cI, wE_cN, wE_cB, wE_call, wE_var, wE_glb, wE_bop, wE_idx, wE_lst, wE_tup, wE_blt, wE_met, wT_cmp, wT_and, wT_or, wT_nt, wT_one, wT_tru, wE_ite, wE_and, wE_or, wE_one, wE_nt, wE_cmp, wE_lc, wI_itr, wI_rng, wA_cons, wA_nil, wpO, wpF, List.set, List.getElem?_cons_zero, List.getElem?_cons_succ, Option.join_some, Bool.false_eq_true, if_false, if_true, wE_neg, wE_chn, wE_lset, wE_inW, wE_ixW, wS_fr, wS_rais, wT_chn, t_bl, later_nil, wE_fld, wE_mcl, wE_mk, wE_dnw, wE_dgt, wE_din, wT_din, wE_dcp, wE_rev, wE_cmn, wT_cmn, wS_stF, wS_stD, wS_whl, wE_slc, wL_off, wE_pop, wE_dlt, wA_kv, wS_frT, wS_unp, wS_asgC, wS_stI, wE_frz, nl0, nl1, nl2, nl3, true_and]
        refine ⟨by show 4 ≤ nMax; decide, ?_⟩
        rw [add_tt (by simp; omega)]
        simp only [wpF, Bool.false_eq_true, if_false, nl3, nl1, true_and]
        rw [add_lw' (by simp; omega)]
        simp only [wpF, Bool.false_eq_true, if_false]
        try rw [later_nil]
        try rw [later_nil]
        have ia2 : AllCV 0 (is ++ [.tup [wd "push", .tup [wd "nil"]], .tup [wd "give"]]) := ia.app (.cons .push (.cons .give .nil))
        obtain ⟨ics, hics⟩ := CVs.of ia2
        have blk : CV 1 (blkD (is ++ [.tup [wd "push", .tup [wd "nil"]], .tup [wd "give"]])) _ := .block (by simp; omega) hics
        rw [← nb1] at blk
        exact pick _ _ S8 (m + K * j + 3 + 1 + 1 + 1 + 1 + 20) (by rw [List.length_append]; simp) (by rw [List.length_append]; simp; omega) (cv.app (.cons blk .nil)) T8 (by omega) ((K36.trans K7).trans K8)
    by_cases hr : r = 0
    · rw [decide_eq_true hr, if_pos rfl]
      rw [add_int]
      simp only [wpF]
      refine (drL (by omega) T2 (by omega) (by omega)).use fun d S3 ⟨r', e, _, _⟩ T3 K3 => ?_
      subst e
      simp only [sub_int, wpF]
      try rw [later_nil]
      exact go _ S3 T3 ((K1.trans K2).trans K3)
    · rw [decide_eq_false hr, if_neg Bool.false_ne_true]
      try rw [later_nil]
      exact go f0 S2 (T2.mono (by omega)) (K1.trans K2)
  · rintro env S' ⟨acc, z5, z6, z7, z8, rfl, T0, K0, n0, o0, al, ac⟩
    rw [intL_len] at al T0
    rw [later]
    simp only [lq2, wrs_seqL, wS_asg, wS_ife, wS_ret, wS_nil, wS_exp, wE_cS, wE_cI, wE_cN, wE_cB, wE_call, wE_var, wE_glb, wE_bop, wE_idx, wE_lst, wE_tup, wE_blt, wE_met, wT_cmp, wT_and, wT_or, wT_nt, wT_one, wT_tru, wE_ite, wE_and, wE_or, wE_one, wE_nt, wE_cmp, wE_lc, wI_itr, wI_rng, wA_cons, wA_nil, wpO, wpF, List.set, List.getElem?_cons_zero, List.getElem?_cons_succ, Option.join_some, Bool.false_eq_true, if_false, if_true, wE_neg, wE_chn, wE_lset, wE_inW, wE_ixW, wS_fr, wS_rais, wT_chn, t_bl, later_nil, wE_fld, wE_mcl, wE_mk, wE_dnw, wE_dgt, wE_din, wT_din, wE_dcp, wE_rev, wE_cmn, wT_cmn, wS_stF, wS_stD, wS_whl, wE_slc, wL_off, wE_pop, wE_dlt, wA_kv, wS_frT, wS_unp, wS_asgC, wS_stI, wE_frz]
    have e : bfP S' .tuple [.loc S.nx] = some (.newt acc) := by
      show (obLst (S'.ob S.nx)).map PR.newt = _
      rw [o0]; rfl
    rw [e]
    exact ⟨⟨acc, rfl, by omega, ac⟩, T0, K0⟩
theorem rowIn {L t m : Nat} {r : Int} {ns : List Int} {S : Store} (hL : 8 ≤ L) (h : Tn t m S) (hm : m < 79900) (r0 : 0 ≤ r) (r1 : r < 3) : ML.Sp t m 20 S (RowP 0 2) (sem T L 15 [script ns, .loc t, .int r, .bl false] S) := by
  obtain ⟨k, rfl⟩ : ∃ k : Nat, r = k := ⟨r.toNat, by omega⟩
  exact (rowGen (K := 10) (nb := 0) (B := 80000) hL h (Nat.le_refl _) (by omega) (by omega) (by decide) (fun e => by cases e)).mono (by omega) fun d ⟨ds, a, b, c⟩ => ⟨ds, a, by omega, c⟩
end K41

namespace K41
open PySem L2 ML

def refD : D := .tup [.str (Str.ofString "refused"), .str (Str.ofString "codes")]
theorem refusalU {L : Nat} {S : Store} (hL : 1 ≤ L) (hS : S.WF) : Ups (sem T L 14 [.exn bcS] S) S refD := by
  obtain ⟨k, rfl⟩ : ∃ n, L = n + 1 := ⟨L - 1, by omega⟩
  exact ⟨S, rfl, .refl hS⟩
def ToldP (cs : List CI) (sz : List Int) (ib : Bool) (S : Store) (d : D) (S' : Store) : Prop := Gr S S' ∧ ((Good cs sz ib ∧ ∃ xs, d = .lst xs ∧ Tab cs xs) ∨ (¬ Good cs sz ib ∧ d = refD))
theorem toldU {L : Nat} {ds : List D} {cs : List CI} {sz : List Int} {ib : Bool} {S : Store} (hL : 30 ≤ L) (hS : S.WF) (h : CVs 1 ds cs) (hl : ds.length ≤ 20) (hz : sz.length ≤ 10) :
    wpr (sem T L 19 [.tup ds, intsD sz, .bl ib] S) (ToldP cs sz ib S) (fun _ _ => False) := by
  obtain ⟨k, rfl⟩ : ∃ n, L = n + 2 := ⟨L - 2, by omega⟩
  have look : wpr (sem T (k + 1) 9 [.tup ds, intsD sz, .bl ib] S) (DepP cs sz ib S) (DepE cs sz ib S) := by
    show wpr (endF (evS (sem T k) (gvs T) f_look_codes.body [some (.tup ds), some (intsD sz), some (.bl ib)] S)) _ _
    rw [wrs_end]
    simp only [f_look_codes, wrs_seqL, wS_asg, wS_ife, wS_ret, wS_nil, wS_exp, wE_cS, wE_cI, wE_cN, wE_cB, wE_call, wE_var, wE_glb, wE_bop, wE_idx, wE_lst, wE_tup, wE_blt, wE_met, wT_cmp, wT_and, wT_or, wT_nt, wT_one, wT_tru, wE_ite, wE_and, wE_or, wE_one, wE_nt, wE_cmp, wE_lc, wI_itr, wI_rng, wA_cons, wA_nil, wpO, wpF, List.set, List.getElem?_cons_zero, List.getElem?_cons_succ, Option.join_some, Bool.false_eq_true, if_false, if_true, wE_neg, wE_chn, wE_lset, wE_inW, wE_ixW, wS_fr, wS_rais, wT_chn, t_bl, later_nil, wE_fld, wE_mcl, wE_mk, wE_dnw, wE_dgt, wE_din, wT_din, wE_dcp, wE_rev, wE_cmn, wT_cmn, wS_stF, wS_stD, wS_whl, wE_slc, wL_off, wE_pop, wE_dlt, wA_kv, wS_frT, wS_unp, wS_asgC, wS_stI, wE_frz]
    rw [show bfP S .list [intsD sz] = some (.newl (sz.map D.int)) from rfl]
    simp only [wpF, Bool.false_eq_true, if_false]
    rw [show D.lst (sz.map D.int) = intsD sz from rfl]
    exact wpr_mono (@depthsAll 1 k ds cs sz ib S (by omega) hS h hl (by omega) (by omega)) (fun d S' z => z) (fun c S' z => z)
  show wpr (endF (evS (sem T (k + 1)) (gvs T) f_law_told.body [some (.tup ds), some (intsD sz), some (.bl ib), none, none, none] S)) _ _
  rw [wrs_end]
  simp only [f_law_told, wrs_seqL, wS_asg, wS_ife, wS_ret, wS_nil, wS_exp, wE_cS, wE_cI, wE_cN, wE_cB, wE_call, wE_var, wE_glb, wE_bop, wE_idx, wE_lst, wE_tup, wE_blt, wE_met, wT_cmp, wT_and, wT_or, wT_nt, wT_one, wT_tru, wE_ite, wE_and, wE_or, wE_one, wE_nt, wE_cmp, wE_lc, wI_itr, wI_rng, wA_cons, wA_nil, wpO, wpF, List.set, List.getElem?_cons_zero, List.getElem?_cons_succ, Option.join_some, Bool.false_eq_true, if_false, if_true, wE_neg, wE_chn, wE_lset, wE_inW, wE_ixW, wS_fr, wS_rais, wT_chn, t_bl, later_nil, wE_fld, wE_mcl, wE_mk, wE_dnw, wE_dgt, wE_din, wT_din, wE_dcp, wE_rev, wE_cmn, wT_cmn, wS_stF, wS_stD, wS_whl, wE_slc, wL_off, wE_pop, wE_dlt, wA_kv, wS_frT, wS_unp, wS_asgC, wS_stI, wE_frz]
  rw [later]
  simp only [wrs_seqL, wS_asg, wS_ife, wS_ret, wS_nil, wS_exp, wE_cS, wE_cI, wE_cN, wE_cB, wE_call, wE_var, wE_glb, wE_bop, wE_idx, wE_lst, wE_tup, wE_blt, wE_met, wT_cmp, wT_and, wT_or, wT_nt, wT_one, wT_tru, wE_ite, wE_and, wE_or, wE_one, wE_nt, wE_cmp, wE_lc, wI_itr, wI_rng, wA_cons, wA_nil, wpO, wpF, List.set, List.getElem?_cons_zero, List.getElem?_cons_succ, Option.join_some, Bool.false_eq_true, if_false, if_true, wE_neg, wE_chn, wE_lset, wE_inW, wE_ixW, wS_fr, wS_rais, wT_chn, t_bl, later_nil, wE_fld, wE_mcl, wE_mk, wE_dnw, wE_dgt, wE_din, wT_din, wE_dcp, wE_rev, wE_cmn, wT_cmn, wS_stF, wS_stD, wS_whl, wE_slc, wL_off, wE_pop, wE_dlt, wA_kv, wS_frT, wS_unp, wS_asgC, wS_stI, wE_frz]
  rw [later]
  simp only [wS_tryK, wrs_seqL, wS_asg, wS_ife, wS_ret, wS_nil, wS_exp, wE_cS, wE_cI, wE_cN, wE_cB, wE_call, wE_var, wE_glb, wE_bop, wE_idx, wE_lst, wE_tup, wE_blt, wE_met, wT_cmp, wT_and, wT_or, wT_nt, wT_one, wT_tru, wE_ite, wE_and, wE_or, wE_one, wE_nt, wE_cmp, wE_lc, wI_itr, wI_rng, wA_cons, wA_nil, wpO, wpF, List.set, List.getElem?_cons_zero, List.getElem?_cons_succ, Option.join_some, Bool.false_eq_true, if_false, if_true, wE_neg, wE_chn, wE_lset, wE_inW, wE_ixW, wS_fr, wS_rais, wT_chn, t_bl, later_nil, wE_fld, wE_mcl, wE_mk, wE_dnw, wE_dgt, wE_din, wT_din, wE_dcp, wE_rev, wE_cmn, wT_cmn, wS_stF, wS_stD, wS_whl, wE_slc, wL_off, wE_pop, wE_dlt, wA_kv, wS_frT, wS_unp, wS_asgC, wS_stI, wE_frz]
  refine wpr_mono look (fun d S1 ⟨g, ⟨xs, e, tb⟩, G1⟩ => ?_) (fun c S1 ⟨g, e, G1⟩ => ?_)
  · subst e
    try rw [later_nil]
    rw [later]
    simp only [wrs_seqL, wS_asg, wS_ife, wS_ret, wS_nil, wS_exp, wE_cS, wE_cI, wE_cN, wE_cB, wE_call, wE_var, wE_glb, wE_bop, wE_idx, wE_lst, wE_tup, wE_blt, wE_met, wT_cmp, wT_and, wT_or, wT_nt, wT_one, wT_tru, wE_ite, wE_and, wE_or, wE_one, wE_nt, wE_cmp, wE_lc, wI_itr, wI_rng, wA_cons, wA_nil, wpO, wpF, List.set, List.getElem?_cons_zero, List.getElem?_cons_succ, Option.join_some, Bool.false_eq_true, if_false, if_true, wE_neg, wE_chn, wE_lset, wE_inW, wE_ixW, wS_fr, wS_rais, wT_chn, t_bl, later_nil, wE_fld, wE_mcl, wE_mk, wE_dnw, wE_dgt, wE_din, wT_din, wE_dcp, wE_rev, wE_cmn, wT_cmn, wS_stF, wS_stD, wS_whl, wE_slc, wL_off, wE_pop, wE_dlt, wA_kv, wS_frT, wS_unp, wS_asgC, wS_stI, wE_frz, c_is, ML.isNon]
    exact ⟨G1, .inl ⟨g, xs, rfl, tb⟩⟩
  · subst e
    have et : List.lookup bcS [(Str.ofString "BadCodes", true)] = some true := by decide +kernel
    rw [et]
    refine ⟨by show 5 < 6; decide, ?_⟩
    rw [later]
    simp only [wrs_seqL, wS_asg, wS_ife, wS_ret, wS_nil, wS_exp, wE_cS, wE_cI, wE_cN, wE_cB, wE_call, wE_var, wE_glb, wE_bop, wE_idx, wE_lst, wE_tup, wE_blt, wE_met, wT_cmp, wT_and, wT_or, wT_nt, wT_one, wT_tru, wE_ite, wE_and, wE_or, wE_one, wE_nt, wE_cmp, wE_lc, wI_itr, wI_rng, wA_cons, wA_nil, wpO, wpF, List.set, List.getElem?_cons_zero, List.getElem?_cons_succ, Option.join_some, Bool.false_eq_true, if_false, if_true, wE_neg, wE_chn, wE_lset, wE_inW, wE_ixW, wS_fr, wS_rais, wT_chn, t_bl, later_nil, wE_fld, wE_mcl, wE_mk, wE_dnw, wE_dgt, wE_din, wT_din, wE_dcp, wE_rev, wE_cmn, wT_cmn, wS_stF, wS_stD, wS_whl, wE_slc, wL_off, wE_pop, wE_dlt, wA_kv, wS_frT, wS_unp, wS_asgC, wS_stI, wE_frz, c_is, ML.isNon]
    exact (refusalU (by omega) G1.wf).wpr fun S2 G2 => ⟨G1.trans G2, .inr ⟨g, rfl⟩⟩
/-! ### comparing tables -/
theorem flat_py : ∀ {xs : List D}, (∀ x ∈ xs, x = .non ∨ ∃ d, x = .int d) → ∃ ps, pys xs = some ps ∧ PyData.canLayAll0 ps = true ∧ PyData.depthAll ps = 0 ∧ PyData.eqvAll ps ps = true
  | [], _ => ⟨[], rfl, rfl, rfl, rfl⟩
  | x :: xs, h => by
    obtain ⟨ps, h1, h2, h3, h4⟩ := flat_py (xs := xs) fun y hy => h y (List.mem_cons_of_mem _ hy)
    rcases h x (List.mem_cons_self ..) with rfl | ⟨d, rfl⟩
    · refine ⟨.none :: ps, ?_, ?_, ?_, ?_⟩
      · show (some PyData.none).bind (fun a => (pys xs).map (a :: ·)) = _
        rw [h1]; rfl
      · show (true && PyData.canLayAll0 ps) = true
        rw [h2]; rfl
      · show max 0 (PyData.depthAll ps) = 0
        rw [h3]; rfl
      · show (true && PyData.eqvAll ps ps) = true
        rw [h4]; rfl
    · refine ⟨.int d :: ps, ?_, ?_, ?_, ?_⟩
      · show (some (PyData.int d)).bind (fun a => (pys xs).map (a :: ·)) = _
        rw [h1]; rfl
      · show (true && PyData.canLayAll0 ps) = true
        rw [h2]; rfl
      · show max 0 (PyData.depthAll ps) = 0
        rw [h3]; rfl
      · show (d == d && PyData.eqvAll ps ps) = true
        rw [h4, beq_self_eq_true]; rfl
theorem eq_flat {S : Store} {xs : List D} (h : ∀ x ∈ xs, x = .non ∨ ∃ d, x = .int d) : cmpP S .Eq (.lst xs) (.lst xs) = some true := by
  obtain ⟨ps, h1, h2, h3, h4⟩ := flat_py h
  show (match py (.lst xs), py (.lst xs) with
    | some a, some b => if (SeqAt.shaped a && SeqAt.shaped b) = true then some (PyData.eqv a b) else none
    | _, _ => none) = _
  have e : py (.lst xs) = some (.list ps) := by
    show (pys xs).map PyData.list = _
    rw [h1]; rfl
  have hs : SeqAt.shaped (.list ps) = true := by
    unfold SeqAt.shaped
    show (PyData.canLayAll0 ps && decide (PyData.depthAll ps + 1 ≤ 64)) = true
    rw [h2, h3]; rfl
  rw [e]
  simp only [hs, Bool.and_self, if_true]
  exact congrArg some h4
theorem eq_ref {S : Store} : cmpP S .Eq refD refD = some true := by
  have e1 : py refD = some (.tuple [.str (Str.ofString "refused"), .str (Str.ofString "codes")]) := rfl
  show (match py refD, py refD with
    | some a, some b => if (SeqAt.shaped a && SeqAt.shaped b) = true then some (PyData.eqv a b) else none
    | _, _ => none) = _
  rw [e1]
  have e2 : SeqAt.shaped (.tuple [.str (Str.ofString "refused"), .str (Str.ofString "codes")]) = true := by decide +kernel
  have e3 : PyData.eqv (.tuple [.str (Str.ofString "refused"), .str (Str.ofString "codes")]) (.tuple [.str (Str.ofString "refused"), .str (Str.ofString "codes")]) = true := by decide +kernel
  simp only [e2, e3, Bool.and_self, if_true]
def Yes (d : D) (S : Store) : Prop := d = .bl true
theorem wf0 : S0.WF := fun n h => rfl
theorem yes_of {r : Rs D} (h : wpr r Yes (fun _ _ => False)) : ∃ S', r = .ok (.bl true) S' := by
  obtain ⟨a, S', e, h⟩ := wpr_elim h
  exact ⟨S', by rw [e, h]⟩
theorem law_pure (ns : List Int) (hns : ns.length ≤ 63) : ∃ S', sem T 60 20 [script ns] S0 = .ok (.bl true) S' := by
  refine yes_of ?_
  show wpr (endF (evS (sem T 59) (gvs T) f_law.body [some (script ns), none, none, none, none, none, none, none] S0)) _ _
  rw [wrs_end]
  simp only [f_law, wrs_seqL, wS_asg, wS_ife, wS_ret, wS_nil, wS_exp, wE_cS, wE_cI, wE_cN, wE_cB, wE_call, wE_var, wE_glb, wE_bop, wE_idx, wE_lst, wE_tup, wE_blt, wE_met, wT_cmp, wT_and, wT_or, wT_nt, wT_one, wT_tru, wE_ite, wE_and, wE_or, wE_one, wE_nt, wE_cmp, wE_lc, wI_itr, wI_rng, wA_cons, wA_nil, wpO, wpF, List.set, List.getElem?_cons_zero, List.getElem?_cons_succ, Option.join_some, Bool.false_eq_true, if_false, if_true, wE_neg, wE_chn, wE_lset, wE_inW, wE_ixW, wS_fr, wS_rais, wT_chn, t_bl, later_nil, wE_fld, wE_mcl, wE_mk, wE_dnw, wE_dgt, wE_din, wT_din, wE_dcp, wE_rev, wE_cmn, wT_cmn, wS_stF, wS_stD, wS_whl, wE_slc, wL_off, wE_pop, wE_dlt, wA_kv, wS_frT, wS_unp, wS_asgC, wS_stI, wE_frz, nl0, true_and]
  have T0 : Tn S0.nx 0 (S0.new (.lst [])) := ⟨Store.new_WF wf0, Nat.lt_succ_self _, [], Store.new_ob, Nat.le_refl _⟩
  rw [later]
  simp only [wrs_seqL, wS_asg, wS_ife, wS_ret, wS_nil, wS_exp, wE_cS, wE_cI, wE_cN, wE_cB, wE_call, wE_var, wE_glb, wE_bop, wE_idx, wE_lst, wE_tup, wE_blt, wE_met, wT_cmp, wT_and, wT_or, wT_nt, wT_one, wT_tru, wE_ite, wE_and, wE_or, wE_one, wE_nt, wE_cmp, wE_lc, wI_itr, wI_rng, wA_cons, wA_nil, wpO, wpF, List.set, List.getElem?_cons_zero, List.getElem?_cons_succ, Option.join_some, Bool.false_eq_true, if_false, if_true, wE_neg, wE_chn, wE_lset, wE_inW, wE_ixW, wS_fr, wS_rais, wT_chn, t_bl, later_nil, wE_fld, wE_mcl, wE_mk, wE_dnw, wE_dgt, wE_din, wT_din, wE_dcp, wE_rev, wE_cmn, wT_cmn, wS_stF, wS_stD, wS_whl, wE_slc, wL_off, wE_pop, wE_dlt, wA_kv, wS_frT, wS_unp, wS_asgC, wS_stI, wE_frz]
  generalize hS : S0.new (.lst []) = S at T0 ⊢
  generalize S0.nx = t at T0 ⊢
  refine (drL (by omega) T0 (by omega) (by decide)).use fun d S1 ⟨r, e, r0, r1⟩ T1 K1 => ?_
  subst e
  obtain ⟨many, rfl⟩ : ∃ k : Nat, r = k := ⟨r.toNat, by omega⟩
  refine (rowGen (K := 31) (nb := 1) (B := 70000) (b := true) (by omega) T1 (by omega) (by omega) (by omega) (by decide) (fun _ => ⟨rfl, Nat.le_refl _, fun m' S' r T' hm r0 r1 => rowIn (by omega) T' (by omega) r0 r1⟩)).use fun d S2 ⟨ds, e, dl, da⟩ T2 K2 => ?_
  subst e
  rw [later]
  simp only [wrs_seqL, wS_asg, wS_ife, wS_ret, wS_nil, wS_exp, wE_cS, wE_cI, wE_cN, wE_cB, wE_call, wE_var, wE_glb, wE_bop, wE_idx, wE_lst, wE_tup, wE_blt, wE_met, wT_cmp, wT_and, wT_or, wT_nt, wT_one, wT_tru, wE_ite, wE_and, wE_or, wE_one, wE_nt, wE_cmp, wE_lc, wI_itr, wI_rng, wA_cons, wA_nil, wpO, wpF, List.set, List.getElem?_cons_zero, List.getElem?_cons_succ, Option.join_some, Bool.false_eq_true, if_false, if_true, wE_neg, wE_chn, wE_lset, wE_inW, wE_ixW, wS_fr, wS_rais, wT_chn, t_bl, later_nil, wE_fld, wE_mcl, wE_mk, wE_dnw, wE_dgt, wE_din, wT_din, wE_dcp, wE_rev, wE_cmn, wT_cmn, wS_stF, wS_stD, wS_whl, wE_slc, wL_off, wE_pop, wE_dlt, wA_kv, wS_frT, wS_unp, wS_asgC, wS_stI, wE_frz, nl0, nl1, nl2, true_and]
  refine ⟨by show 4 ≤ nMax; decide, ?_⟩
  refine (pkL (by omega) T2 (by omega) (by simp)).use fun d S3 hd T3 K3 => ?_
  obtain ⟨es, rfl, el, ea⟩ : ∃ es, d = .tup es ∧ es.length ≤ 2 ∧ AllCV 1 es := by
    simp only [List.mem_cons, List.not_mem_nil, or_false] at hd
    rcases hd with rfl | rfl | rfl | rfl
    · exact ⟨_, rfl, by decide, .nil⟩
    · exact ⟨_, rfl, by simp, .cons .give .nil⟩
    · exact ⟨_, rfl, by simp, .cons .push (.cons .give .nil)⟩
    · exact ⟨_, rfl, by simp, .cons .self (.cons .give .nil)⟩
  rw [add_tt (by omega)]
  simp only [wpF]
  obtain ⟨cs, hcs⟩ := CVs.of (da.app ea)
  have hlen : (ds ++ es).length ≤ 20 := by rw [List.length_append]; omega
  generalize ds ++ es = fs at hcs hlen ⊢
  rw [later]
  simp only [wrs_seqL, wS_asg, wS_ife, wS_ret, wS_nil, wS_exp, wE_cS, wE_cI, wE_cN, wE_cB, wE_call, wE_var, wE_glb, wE_bop, wE_idx, wE_lst, wE_tup, wE_blt, wE_met, wT_cmp, wT_and, wT_or, wT_nt, wT_one, wT_tru, wE_ite, wE_and, wE_or, wE_one, wE_nt, wE_cmp, wE_lc, wI_itr, wI_rng, wA_cons, wA_nil, wpO, wpF, List.set, List.getElem?_cons_zero, List.getElem?_cons_succ, Option.join_some, Bool.false_eq_true, if_false, if_true, wE_neg, wE_chn, wE_lset, wE_inW, wE_ixW, wS_fr, wS_rais, wT_chn, t_bl, later_nil, wE_fld, wE_mcl, wE_mk, wE_dnw, wE_dgt, wE_din, wT_din, wE_dcp, wE_rev, wE_cmn, wT_cmn, wS_stF, wS_stD, wS_whl, wE_slc, wL_off, wE_pop, wE_dlt, wA_kv, wS_frT, wS_unp, wS_asgC, wS_stI, wE_frz, nl0, nl1, nl2, true_and]
  refine ⟨by show 5 ≤ nMax; decide, ?_⟩
  refine (pkL (by omega) T3 (by omega) (by simp)).use fun d S4 hd T4 K4 => ?_
  obtain ⟨sz, rfl, zl⟩ : ∃ sz, d = intsD sz ∧ sz.length ≤ 10 := by
    simp only [List.mem_cons, List.not_mem_nil, or_false] at hd
    rcases hd with rfl | rfl | rfl | rfl | rfl
    · exact ⟨[2, 2], rfl, by decide⟩
    · exact ⟨[2, 2], rfl, by decide⟩
    · exact ⟨[2], rfl, by decide⟩
    · exact ⟨[1, 2], rfl, by decide⟩
    · exact ⟨[], rfl, by decide⟩
  rw [later]
  simp only [wrs_seqL, wS_asg, wS_ife, wS_ret, wS_nil, wS_exp, wE_cS, wE_cI, wE_cN, wE_cB, wE_call, wE_var, wE_glb, wE_bop, wE_idx, wE_lst, wE_tup, wE_blt, wE_met, wT_cmp, wT_and, wT_or, wT_nt, wT_one, wT_tru, wE_ite, wE_and, wE_or, wE_one, wE_nt, wE_cmp, wE_lc, wI_itr, wI_rng, wA_cons, wA_nil, wpO, wpF, List.set, List.getElem?_cons_zero, List.getElem?_cons_succ, Option.join_some, Bool.false_eq_true, if_false, if_true, wE_neg, wE_chn, wE_lset, wE_inW, wE_ixW, wS_fr, wS_rais, wT_chn, t_bl, later_nil, wE_fld, wE_mcl, wE_mk, wE_dnw, wE_dgt, wE_din, wT_din, wE_dcp, wE_rev, wE_cmn, wT_cmn, wS_stF, wS_stD, wS_whl, wE_slc, wL_off, wE_pop, wE_dlt, wA_kv, wS_frT, wS_unp, wS_asgC, wS_stI, wE_frz]
  refine (drL (by omega) T4 (by omega) (by decide)).use fun d S5 ⟨r, e, r0, r1⟩ T5 K5 => ?_
  subst e
  simp only [c_eq_int, wpO]
  generalize decide (r = 0) = ib
  rw [later]
  simp only [wrs_seqL, wS_asg, wS_ife, wS_ret, wS_nil, wS_exp, wE_cS, wE_cI, wE_cN, wE_cB, wE_call, wE_var, wE_glb, wE_bop, wE_idx, wE_lst, wE_tup, wE_blt, wE_met, wT_cmp, wT_and, wT_or, wT_nt, wT_one, wT_tru, wE_ite, wE_and, wE_or, wE_one, wE_nt, wE_cmp, wE_lc, wI_itr, wI_rng, wA_cons, wA_nil, wpO, wpF, List.set, List.getElem?_cons_zero, List.getElem?_cons_succ, Option.join_some, Bool.false_eq_true, if_false, if_true, wE_neg, wE_chn, wE_lset, wE_inW, wE_ixW, wS_fr, wS_rais, wT_chn, t_bl, later_nil, wE_fld, wE_mcl, wE_mk, wE_dnw, wE_dgt, wE_din, wT_din, wE_dcp, wE_rev, wE_cmn, wT_cmn, wS_stF, wS_stD, wS_whl, wE_slc, wL_off, wE_pop, wE_dlt, wA_kv, wS_frT, wS_unp, wS_asgC, wS_stI, wE_frz]
  refine wpr_mono (@lawAll 1 59 fs cs sz ib S5 (by omega) T5.wf hcs hlen (by omega) (by omega)) (fun due S6 ⟨G6, z6⟩ => ?_) (fun _ _ z => z)
  rw [later]
  simp only [wrs_seqL, wS_asg, wS_ife, wS_ret, wS_nil, wS_exp, wE_cS, wE_cI, wE_cN, wE_cB, wE_call, wE_var, wE_glb, wE_bop, wE_idx, wE_lst, wE_tup, wE_blt, wE_met, wT_cmp, wT_and, wT_or, wT_nt, wT_one, wT_tru, wE_ite, wE_and, wE_or, wE_one, wE_nt, wE_cmp, wE_lc, wI_itr, wI_rng, wA_cons, wA_nil, wpO, wpF, List.set, List.getElem?_cons_zero, List.getElem?_cons_succ, Option.join_some, Bool.false_eq_true, if_false, if_true, wE_neg, wE_chn, wE_lset, wE_inW, wE_ixW, wS_fr, wS_rais, wT_chn, t_bl, later_nil, wE_fld, wE_mcl, wE_mk, wE_dnw, wE_dgt, wE_din, wT_din, wE_dcp, wE_rev, wE_cmn, wT_cmn, wS_stF, wS_stD, wS_whl, wE_slc, wL_off, wE_pop, wE_dlt, wA_kv, wS_frT, wS_unp, wS_asgC, wS_stI, wE_frz]
  rw [show ∀ S, bfP S .list [intsD sz] = some (.newl (sz.map D.int)) from fun _ => rfl]
  simp only [wpF, Bool.false_eq_true, if_false]
  rw [show D.lst (sz.map D.int) = intsD sz from rfl, later]
  simp only [wrs_seqL, wS_asg, wS_ife, wS_ret, wS_nil, wS_exp, wE_cS, wE_cI, wE_cN, wE_cB, wE_call, wE_var, wE_glb, wE_bop, wE_idx, wE_lst, wE_tup, wE_blt, wE_met, wT_cmp, wT_and, wT_or, wT_nt, wT_one, wT_tru, wE_ite, wE_and, wE_or, wE_one, wE_nt, wE_cmp, wE_lc, wI_itr, wI_rng, wA_cons, wA_nil, wpO, wpF, List.set, List.getElem?_cons_zero, List.getElem?_cons_succ, Option.join_some, Bool.false_eq_true, if_false, if_true, wE_neg, wE_chn, wE_lset, wE_inW, wE_ixW, wS_fr, wS_rais, wT_chn, t_bl, later_nil, wE_fld, wE_mcl, wE_mk, wE_dnw, wE_dgt, wE_din, wT_din, wE_dcp, wE_rev, wE_cmn, wT_cmn, wS_stF, wS_stD, wS_whl, wE_slc, wL_off, wE_pop, wE_dlt, wA_kv, wS_frT, wS_unp, wS_asgC, wS_stI, wE_frz]
  refine wpr_mono (toldU (by omega) G6.wf hcs hlen zl) (fun fd S7 ⟨G7, z7⟩ => ?_) (fun _ _ z => z)
  rw [later]
  simp only [wrs_seqL, wS_asg, wS_ife, wS_ret, wS_nil, wS_exp, wE_cS, wE_cI, wE_cN, wE_cB, wE_call, wE_var, wE_glb, wE_bop, wE_idx, wE_lst, wE_tup, wE_blt, wE_met, wT_cmp, wT_and, wT_or, wT_nt, wT_one, wT_tru, wE_ite, wE_and, wE_or, wE_one, wE_nt, wE_cmp, wE_lc, wI_itr, wI_rng, wA_cons, wA_nil, wpO, wpF, List.set, List.getElem?_cons_zero, List.getElem?_cons_succ, Option.join_some, Bool.false_eq_true, if_false, if_true, wE_neg, wE_chn, wE_lset, wE_inW, wE_ixW, wS_fr, wS_rais, wT_chn, t_bl, later_nil, wE_fld, wE_mcl, wE_mk, wE_dnw, wE_dgt, wE_din, wT_din, wE_dcp, wE_rev, wE_cmn, wT_cmn, wS_stF, wS_stD, wS_whl, wE_slc, wL_off, wE_pop, wE_dlt, wA_kv, wS_frT, wS_unp, wS_asgC, wS_stI, wE_frz, nl2, true_and]
  have ez : cmpP S7 .Eq (intsD sz) (intsD sz) = some true := eq_flat fun x hx => by
    obtain ⟨i, _, rfl⟩ := List.mem_map.mp hx
    exact .inr ⟨i, rfl⟩
  rw [ez]
  simp only [wpO, t_bl, if_true, c_is]
  rcases z6 with ⟨g, xs, rfl, tb⟩ | ⟨g, rfl⟩
  · rcases z7 with ⟨_, ys, rfl, tb'⟩ | ⟨g', _⟩
    · simp only [ML.isNon, Bool.false_eq_true, if_false]
      rw [tb.det tb', eq_flat tb'.flat]
      rfl
    · exact absurd g g'
  · rcases z7 with ⟨g', _⟩ | ⟨_, rfl⟩
    · exact absurd g' g
    · simp only [ML.isNon, if_true]
      rw [show D.tup [.str (Str.ofString "refused"), .str (Str.ofString "codes")] = refD from rfl, eq_ref]
      rfl
end K41

namespace K41
open PySem L2 ML
theorem all_mk {wd : World} {K : PySem.W.Frag} {h : Heap} {mg : Str → Option Value} {fa f0 f1 f2 f3 f4 f5 f6 f7 f8 f9 f10 f11 f12 f13 f14 f15 f16 f17 f18 f19 f20 : Addr} (X : K.In h) (G : h.Ns mainGlobals mg) (hfa : mg "law" = some (.ref fa))
    {od0 an0 od1 an1 od2 an2 od3 an3 od4 an4 od5 an5 od6 an6 od7 an7 od8 an8 od9 an9 od10 an10 od11 an11 od12 an12 od13 an13 od14 an14 od15 an15 od16 an16 od17 an17 od18 an18 od19 an19 od20 an20 : Option Addr} {sl0 sl1 sl2 sl3 sl4 sl5 sl6 sl7 sl8 sl9 sl10 sl11 sl12 sl13 sl14 sl15 sl16 sl17 sl18 sl19 sl20 : Array (Option Value)} {oc0 kV0 dc0 pm0 cd0 ct0 oc1 kV1 dc1 pm1 cd1 ct1 oc2 kV2 dc2 pm2 cd2 ct2 oc3 kV3 dc3 pm3 cd3 ct3 oc4 kV4 dc4 pm4 cd4 ct4 oc5 kV5 dc5 pm5 cd5 ct5 oc6 kV6 dc6 pm6 cd6 ct6 oc7 kV7 dc7 pm7 cd7 ct7 oc8 kV8 dc8 pm8 cd8 ct8 oc9 kV9 dc9 pm9 cd9 ct9 oc10 kV10 dc10 pm10 cd10 ct10 oc11 kV11 dc11 pm11 cd11 ct11 oc12 kV12 dc12 pm12 cd12 ct12 oc13 kV13 dc13 pm13 cd13 ct13 oc14 kV14 dc14 pm14 cd14 ct14 oc15 kV15 dc15 pm15 cd15 ct15 oc16 kV16 dc16 pm16 cd16 ct16 oc17 kV17 dc17 pm17 cd17 ct17 oc18 kV18 dc18 pm18 cd18 ct18 oc19 kV19 dc19 pm19 cd19 ct19 oc20 kV20 dc20 pm20 cd20 ct20 : Value}
    (a0 : PySem.W.nsIn K mainGlobals ("is_worded" : Str) = some (some (.ref f0))) (l0 : K.lookup f0 = some ⟨oc0, od0, .func (PySem.W.fnOf ("is_worded" : Str) ("is_worded" : Str) (defArgs s_is_worded) (defBody s_is_worded) (defScope s_is_worded) .none kV0 dc0 pm0 an0 cd0 ct0), sl0⟩) (c0 : PySem.W.codeIn K cd0 ("is_worded" : Str) = true) (k0 : PySem.W.keepIn K (.ref f0) = true)
    (a1 : PySem.W.nsIn K mainGlobals ("is_name" : Str) = some (some (.ref f1))) (l1 : K.lookup f1 = some ⟨oc1, od1, .func (PySem.W.fnOf ("is_name" : Str) ("is_name" : Str) (defArgs s_is_name) (defBody s_is_name) (defScope s_is_name) .none kV1 dc1 pm1 an1 cd1 ct1), sl1⟩) (c1 : PySem.W.codeIn K cd1 ("is_name" : Str) = true) (k1 : PySem.W.keepIn K (.ref f1) = true)
    (a2 : PySem.W.nsIn K mainGlobals ("words_of" : Str) = some (some (.ref f2))) (l2 : K.lookup f2 = some ⟨oc2, od2, .func (PySem.W.fnOf ("words_of" : Str) ("words_of" : Str) (defArgs s_words_of) (defBody s_words_of) (defScope s_words_of) .none kV2 dc2 pm2 an2 cd2 ct2), sl2⟩) (c2 : PySem.W.codeIn K cd2 ("words_of" : Str) = true) (k2 : PySem.W.keepIn K (.ref f2) = true)
    (a3 : PySem.W.nsIn K mainGlobals ("arity_of" : Str) = some (some (.ref f3))) (l3 : K.lookup f3 = some ⟨oc3, od3, .func (PySem.W.fnOf ("arity_of" : Str) ("arity_of" : Str) (defArgs s_arity_of) (defBody s_arity_of) (defScope s_arity_of) .none kV3 dc3 pm3 an3 cd3 ct3), sl3⟩) (c3 : PySem.W.codeIn K cd3 ("arity_of" : Str) = true) (k3 : PySem.W.keepIn K (.ref f3) = true)
    (a4 : PySem.W.nsIn K mainGlobals ("taken_by" : Str) = some (some (.ref f4))) (l4 : K.lookup f4 = some ⟨oc4, od4, .func (PySem.W.fnOf ("taken_by" : Str) ("taken_by" : Str) (defArgs s_taken_by) (defBody s_taken_by) (defScope s_taken_by) .none kV4 dc4 pm4 an4 cd4 ct4), sl4⟩) (c4 : PySem.W.codeIn K cd4 ("taken_by" : Str) = true) (k4 : PySem.W.keepIn K (.ref f4) = true)
    (a5 : PySem.W.nsIn K mainGlobals ("left_by" : Str) = some (some (.ref f5))) (l5 : K.lookup f5 = some ⟨oc5, od5, .func (PySem.W.fnOf ("left_by" : Str) ("left_by" : Str) (defArgs s_left_by) (defBody s_left_by) (defScope s_left_by) .none kV5 dc5 pm5 an5 cd5 ct5), sl5⟩) (c5 : PySem.W.codeIn K cd5 ("left_by" : Str) = true) (k5 : PySem.W.keepIn K (.ref f5) = true)
    (a6 : PySem.W.nsIn K mainGlobals ("goals_of" : Str) = some (some (.ref f6))) (l6 : K.lookup f6 = some ⟨oc6, od6, .func (PySem.W.fnOf ("goals_of" : Str) ("goals_of" : Str) (defArgs s_goals_of) (defBody s_goals_of) (defScope s_goals_of) .none kV6 dc6 pm6 an6 cd6 ct6), sl6⟩) (c6 : PySem.W.codeIn K cd6 ("goals_of" : Str) = true) (k6 : PySem.W.keepIn K (.ref f6) = true)
    (a7 : PySem.W.nsIn K mainGlobals ("look_code" : Str) = some (some (.ref f7))) (l7 : K.lookup f7 = some ⟨oc7, od7, .func (PySem.W.fnOf ("look_code" : Str) ("look_code" : Str) (defArgs s_look_code) (defBody s_look_code) (defScope s_look_code) .none kV7 dc7 pm7 an7 cd7 ct7), sl7⟩) (c7 : PySem.W.codeIn K cd7 ("look_code" : Str) = true) (k7 : PySem.W.keepIn K (.ref f7) = true)
    (a8 : PySem.W.nsIn K mainGlobals ("depths" : Str) = some (some (.ref f8))) (l8 : K.lookup f8 = some ⟨oc8, od8, .func (PySem.W.fnOf ("depths" : Str) ("depths" : Str) (defArgs s_depths) (defBody s_depths) (defScope s_depths) .none kV8 dc8 pm8 an8 cd8 ct8), sl8⟩) (c8 : PySem.W.codeIn K cd8 ("depths" : Str) = true) (k8 : PySem.W.keepIn K (.ref f8) = true)
    (a9 : PySem.W.nsIn K mainGlobals ("look_codes" : Str) = some (some (.ref f9))) (l9 : K.lookup f9 = some ⟨oc9, od9, .func (PySem.W.fnOf ("look_codes" : Str) ("look_codes" : Str) (defArgs s_look_codes) (defBody s_look_codes) (defScope s_look_codes) .none kV9 dc9 pm9 an9 cd9 ct9), sl9⟩) (c9 : PySem.W.codeIn K cd9 ("look_codes" : Str) = true) (k9 : PySem.W.keepIn K (.ref f9) = true)
    (a10 : PySem.W.nsIn K mainGlobals ("_law_cell" : Str) = some (some (.ref f10))) (l10 : K.lookup f10 = some ⟨oc10, od10, .func (PySem.W.fnOf ("_law_cell" : Str) ("_law_cell" : Str) (defArgs s_law_cell) (defBody s_law_cell) (defScope s_law_cell) .none kV10 dc10 pm10 an10 cd10 ct10), sl10⟩) (c10 : PySem.W.codeIn K cd10 ("_law_cell" : Str) = true) (k10 : PySem.W.keepIn K (.ref f10) = true)
    (a11 : PySem.W.nsIn K mainGlobals ("_law_mix" : Str) = some (some (.ref f11))) (l11 : K.lookup f11 = some ⟨oc11, od11, .func (PySem.W.fnOf ("_law_mix" : Str) ("_law_mix" : Str) (defArgs s_law_mix) (defBody s_law_mix) (defScope s_law_mix) .none kV11 dc11 pm11 an11 cd11 ct11), sl11⟩) (c11 : PySem.W.codeIn K cd11 ("_law_mix" : Str) = true) (k11 : PySem.W.keepIn K (.ref f11) = true)
    (a12 : PySem.W.nsIn K mainGlobals ("_law_draw" : Str) = some (some (.ref f12))) (l12 : K.lookup f12 = some ⟨oc12, od12, .func (PySem.W.fnOf ("_law_draw" : Str) ("_law_draw" : Str) (defArgs s_law_draw) (defBody s_law_draw) (defScope s_law_draw) .none kV12 dc12 pm12 an12 cd12 ct12), sl12⟩) (c12 : PySem.W.codeIn K cd12 ("_law_draw" : Str) = true) (k12 : PySem.W.keepIn K (.ref f12) = true)
    (a13 : PySem.W.nsIn K mainGlobals ("_law_pick" : Str) = some (some (.ref f13))) (l13 : K.lookup f13 = some ⟨oc13, od13, .func (PySem.W.fnOf ("_law_pick" : Str) ("_law_pick" : Str) (defArgs s_law_pick) (defBody s_law_pick) (defScope s_law_pick) .none kV13 dc13 pm13 an13 cd13 ct13), sl13⟩) (c13 : PySem.W.codeIn K cd13 ("_law_pick" : Str) = true) (k13 : PySem.W.keepIn K (.ref f13) = true)
    (a14 : PySem.W.nsIn K mainGlobals ("_law_refusal" : Str) = some (some (.ref f14))) (l14 : K.lookup f14 = some ⟨oc14, od14, .func (PySem.W.fnOf ("_law_refusal" : Str) ("_law_refusal" : Str) (defArgs s_law_refusal) (defBody s_law_refusal) (defScope s_law_refusal) .none kV14 dc14 pm14 an14 cd14 ct14), sl14⟩) (c14 : PySem.W.codeIn K cd14 ("_law_refusal" : Str) = true) (k14 : PySem.W.keepIn K (.ref f14) = true)
    (a15 : PySem.W.nsIn K mainGlobals ("_law_row_of_codes" : Str) = some (some (.ref f15))) (l15 : K.lookup f15 = some ⟨oc15, od15, .func (PySem.W.fnOf ("_law_row_of_codes" : Str) ("_law_row_of_codes" : Str) (defArgs s_law_row_of_codes) (defBody s_law_row_of_codes) (defScope s_law_row_of_codes) .none kV15 dc15 pm15 an15 cd15 ct15), sl15⟩) (c15 : PySem.W.codeIn K cd15 ("_law_row_of_codes" : Str) = true) (k15 : PySem.W.keepIn K (.ref f15) = true)
    (a16 : PySem.W.nsIn K mainGlobals ("_law_wants" : Str) = some (some (.ref f16))) (l16 : K.lookup f16 = some ⟨oc16, od16, .func (PySem.W.fnOf ("_law_wants" : Str) ("_law_wants" : Str) (defArgs s_law_wants) (defBody s_law_wants) (defScope s_law_wants) .none kV16 dc16 pm16 an16 cd16 ct16), sl16⟩) (c16 : PySem.W.codeIn K cd16 ("_law_wants" : Str) = true) (k16 : PySem.W.keepIn K (.ref f16) = true)
    (a17 : PySem.W.nsIn K mainGlobals ("_law_bad_code" : Str) = some (some (.ref f17))) (l17 : K.lookup f17 = some ⟨oc17, od17, .func (PySem.W.fnOf ("_law_bad_code" : Str) ("_law_bad_code" : Str) (defArgs s_law_bad_code) (defBody s_law_bad_code) (defScope s_law_bad_code) .none kV17 dc17 pm17 an17 cd17 ct17), sl17⟩) (c17 : PySem.W.codeIn K cd17 ("_law_bad_code" : Str) = true) (k17 : PySem.W.keepIn K (.ref f17) = true)
    (a18 : PySem.W.nsIn K mainGlobals ("_law_depths" : Str) = some (some (.ref f18))) (l18 : K.lookup f18 = some ⟨oc18, od18, .func (PySem.W.fnOf ("_law_depths" : Str) ("_law_depths" : Str) (defArgs s_law_depths) (defBody s_law_depths) (defScope s_law_depths) .none kV18 dc18 pm18 an18 cd18 ct18), sl18⟩) (c18 : PySem.W.codeIn K cd18 ("_law_depths" : Str) = true) (k18 : PySem.W.keepIn K (.ref f18) = true)
    (a19 : PySem.W.nsIn K mainGlobals ("_law_told" : Str) = some (some (.ref f19))) (l19 : K.lookup f19 = some ⟨oc19, od19, .func (PySem.W.fnOf ("_law_told" : Str) ("_law_told" : Str) (defArgs s_law_told) (defBody s_law_told) (defScope s_law_told) .none kV19 dc19 pm19 an19 cd19 ct19), sl19⟩) (c19 : PySem.W.codeIn K cd19 ("_law_told" : Str) = true) (k19 : PySem.W.keepIn K (.ref f19) = true)
    (a20 : PySem.W.nsIn K mainGlobals ("law" : Str) = some (some (.ref f20))) (l20 : K.lookup f20 = some ⟨oc20, od20, .func (PySem.W.fnOf ("law" : Str) ("law" : Str) (defArgs s_law) (defBody s_law) (defScope s_law) .none kV20 dc20 pm20 an20 cd20 ct20), sl20⟩) (c20 : PySem.W.codeIn K cd20 ("law" : Str) = true) (k20 : PySem.W.keepIn K (.ref f20) = true)
    (z0 : PySem.W.nsIn K mainGlobals ("ValueError" : Str) = some none)
    (z1 : PySem.W.nsIn K mainGlobals ("all" : Str) = some none)
    (z2 : PySem.W.nsIn K mainGlobals ("isinstance" : Str) = some none)
    (z3 : PySem.W.nsIn K mainGlobals ("len" : Str) = some none)
    (z4 : PySem.W.nsIn K mainGlobals ("list" : Str) = some none)
    (z5 : PySem.W.nsIn K mainGlobals ("range" : Str) = some none)
    (z6 : PySem.W.nsIn K mainGlobals ("tuple" : Str) = some none)
    {tk0 : Tok} (g0 : PySem.W.nsIn K mainGlobals ("SMALL" : Str) = some (some (.str ("abcdefghijklmnopqrstuvwxyz" : Str) tk0)))
    {tk1 : Tok} (g1 : PySem.W.nsIn K mainGlobals ("GREAT" : Str) = some (some (.str ("ABCDEFGHIJKLMNOPQRSTUVWXYZ" : Str) tk1)))
    {tk2 : Tok} (g2 : PySem.W.nsIn K mainGlobals ("FIGURES" : Str) = some (some (.str ("0123456789" : Str) tk2)))
    {tk3 : Tok} (g3 : PySem.W.nsIn K mainGlobals ("SIGNS" : Str) = some (some (.str ("+-*<=" : Str) tk3)))
    {ga4 : Addr} {gn4 : Nat} {go4 : Array (Option Value)} {tk4_0 tk4_1 tk4_2 tk4_3 tk4_4 : Tok} (g4 : PySem.W.nsIn K mainGlobals ("KEPT" : Str) = some (some (.ref ga4))) (gl4 : K.lookup ga4 = some ⟨.type "list", none, .seq #[.str ("self" : Str) tk4_0, .str ("super" : Str) tk4_1, .str ("nil" : Str) tk4_2, .str ("yes" : Str) tk4_3, .str ("no" : Str) tk4_4] gn4, go4⟩)
    {tk5 : Tok} (g5 : PySem.W.nsIn K mainGlobals ("MOST_SIGNS" : Str) = some (some (.int 12 tk5)))
    {tk6 : Tok} (g6 : PySem.W.nsIn K mainGlobals ("MOST_WORDS" : Str) = some (some (.int 3 tk6)))
    {ec0 : Addr} (x0 : PySem.W.nsIn K mainGlobals ("BadCodes" : Str) = some (some (.ref ec0))) (xe0 : PySem.W.excIn K ec0 [.type "ValueError", .type "Exception", .type "BaseException", .type "object"] "ValueError.__new__" = true) (xk0 : PySem.W.keepIn K (.ref ec0) = true) (xs0 : PySem.W.subIn K (.ref ec0) (.type "BaseException") = some true) (xt0 : PySem.W.typeIn K (.ref ec0) = some (.type "type"))
    {da0 : Addr} {dt0_0 dt0_1 dt0_2 dt0_3 dt0_4 dt0_5 dt0_6 dt0_7 dt0_8 : Tok} (d0 : PySem.W.nsIn K mainGlobals ("TAKEN" : Str) = some (some (.ref da0))) {dn0 : Nat} {du0_0 dw0_0 du0_1 dw0_1 du0_2 dw0_2 du0_3 dw0_3 du0_4 dw0_4 du0_5 dw0_5 du0_6 dw0_6 du0_7 dw0_7 du0_8 dw0_8 : Tok} (dl0 : K.lookup da0 = some ⟨.type "dict", none, .dict #[⟨PyData.keyHash wd.params ("push" : Str), .str ("push" : Str) du0_0, .int 0 dw0_0⟩, ⟨PyData.keyHash wd.params ("self" : Str), .str ("self" : Str) du0_1, .int 0 dw0_1⟩, ⟨PyData.keyHash wd.params ("read" : Str), .str ("read" : Str) du0_2, .int 0 dw0_2⟩, ⟨PyData.keyHash wd.params ("slot" : Str), .str ("slot" : Str) du0_3, .int 0 dw0_3⟩, ⟨PyData.keyHash wd.params ("block" : Str), .str ("block" : Str) du0_4, .int 0 dw0_4⟩, ⟨PyData.keyHash wd.params ("write" : Str), .str ("write" : Str) du0_5, .int 1 dw0_5⟩, ⟨PyData.keyHash wd.params ("store" : Str), .str ("store" : Str) du0_6, .int 1 dw0_6⟩, ⟨PyData.keyHash wd.params ("drop" : Str), .str ("drop" : Str) du0_7, .int 1 dw0_7⟩, ⟨PyData.keyHash wd.params ("jump" : Str), .str ("jump" : Str) du0_8, .int 0 dw0_8⟩] dn0, #[]⟩) (do0 : (da0 == sysModules) = false) (dv0_0 : PySem.W.nsIn K da0 ("push" : Str) = some (some (.int 0 dt0_0))) (dv0_1 : PySem.W.nsIn K da0 ("self" : Str) = some (some (.int 0 dt0_1))) (dv0_2 : PySem.W.nsIn K da0 ("read" : Str) = some (some (.int 0 dt0_2))) (dv0_3 : PySem.W.nsIn K da0 ("slot" : Str) = some (some (.int 0 dt0_3))) (dv0_4 : PySem.W.nsIn K da0 ("block" : Str) = some (some (.int 0 dt0_4))) (dv0_5 : PySem.W.nsIn K da0 ("write" : Str) = some (some (.int 1 dt0_5))) (dv0_6 : PySem.W.nsIn K da0 ("store" : Str) = some (some (.int 1 dt0_6))) (dv0_7 : PySem.W.nsIn K da0 ("drop" : Str) = some (some (.int 1 dt0_7))) (dv0_8 : PySem.W.nsIn K da0 ("jump" : Str) = some (some (.int 0 dt0_8)))
    {da1 : Addr} {dt1_0 dt1_1 dt1_2 dt1_3 : Tok} (d1 : PySem.W.nsIn K mainGlobals ("MORE_TAKEN" : Str) = some (some (.ref da1))) {dn1 : Nat} {du1_0 dw1_0 du1_1 dw1_1 du1_2 dw1_2 du1_3 dw1_3 : Tok} (dl1 : K.lookup da1 = some ⟨.type "dict", none, .dict #[⟨PyData.keyHash wd.params ("choose" : Str), .str ("choose" : Str) du1_0, .int 1 dw1_0⟩, ⟨PyData.keyHash wd.params ("turn" : Str), .str ("turn" : Str) du1_1, .int 0 dw1_1⟩, ⟨PyData.keyHash wd.params ("give" : Str), .str ("give" : Str) du1_2, .int 1 dw1_2⟩, ⟨PyData.keyHash wd.params ("back" : Str), .str ("back" : Str) du1_3, .int 1 dw1_3⟩] dn1, #[]⟩) (do1 : (da1 == sysModules) = false) (dv1_0 : PySem.W.nsIn K da1 ("choose" : Str) = some (some (.int 1 dt1_0))) (dv1_1 : PySem.W.nsIn K da1 ("turn" : Str) = some (some (.int 0 dt1_1))) (dv1_2 : PySem.W.nsIn K da1 ("give" : Str) = some (some (.int 1 dt1_2))) (dv1_3 : PySem.W.nsIn K da1 ("back" : Str) = some (some (.int 1 dt1_3)))
    {da2 : Addr} {dt2_0 dt2_1 dt2_2 dt2_3 dt2_4 dt2_5 dt2_6 dt2_7 dt2_8 : Tok} (d2 : PySem.W.nsIn K mainGlobals ("LEFT" : Str) = some (some (.ref da2))) {dn2 : Nat} {du2_0 dw2_0 du2_1 dw2_1 du2_2 dw2_2 du2_3 dw2_3 du2_4 dw2_4 du2_5 dw2_5 du2_6 dw2_6 du2_7 dw2_7 du2_8 dw2_8 : Tok} (dl2 : K.lookup da2 = some ⟨.type "dict", none, .dict #[⟨PyData.keyHash wd.params ("push" : Str), .str ("push" : Str) du2_0, .int 1 dw2_0⟩, ⟨PyData.keyHash wd.params ("self" : Str), .str ("self" : Str) du2_1, .int 1 dw2_1⟩, ⟨PyData.keyHash wd.params ("read" : Str), .str ("read" : Str) du2_2, .int 1 dw2_2⟩, ⟨PyData.keyHash wd.params ("slot" : Str), .str ("slot" : Str) du2_3, .int 1 dw2_3⟩, ⟨PyData.keyHash wd.params ("block" : Str), .str ("block" : Str) du2_4, .int 1 dw2_4⟩, ⟨PyData.keyHash wd.params ("write" : Str), .str ("write" : Str) du2_5, .int 1 dw2_5⟩, ⟨PyData.keyHash wd.params ("store" : Str), .str ("store" : Str) du2_6, .int 1 dw2_6⟩, ⟨PyData.keyHash wd.params ("drop" : Str), .str ("drop" : Str) du2_7, .int 0 dw2_7⟩, ⟨PyData.keyHash wd.params ("jump" : Str), .str ("jump" : Str) du2_8, .int 0 dw2_8⟩] dn2, #[]⟩) (do2 : (da2 == sysModules) = false) (dv2_0 : PySem.W.nsIn K da2 ("push" : Str) = some (some (.int 1 dt2_0))) (dv2_1 : PySem.W.nsIn K da2 ("self" : Str) = some (some (.int 1 dt2_1))) (dv2_2 : PySem.W.nsIn K da2 ("read" : Str) = some (some (.int 1 dt2_2))) (dv2_3 : PySem.W.nsIn K da2 ("slot" : Str) = some (some (.int 1 dt2_3))) (dv2_4 : PySem.W.nsIn K da2 ("block" : Str) = some (some (.int 1 dt2_4))) (dv2_5 : PySem.W.nsIn K da2 ("write" : Str) = some (some (.int 1 dt2_5))) (dv2_6 : PySem.W.nsIn K da2 ("store" : Str) = some (some (.int 1 dt2_6))) (dv2_7 : PySem.W.nsIn K da2 ("drop" : Str) = some (some (.int 0 dt2_7))) (dv2_8 : PySem.W.nsIn K da2 ("jump" : Str) = some (some (.int 0 dt2_8)))
    {da3 : Addr} {dt3_0 dt3_1 dt3_2 dt3_3 : Tok} (d3 : PySem.W.nsIn K mainGlobals ("MORE_LEFT" : Str) = some (some (.ref da3))) {dn3 : Nat} {du3_0 dw3_0 du3_1 dw3_1 du3_2 dw3_2 du3_3 dw3_3 : Tok} (dl3 : K.lookup da3 = some ⟨.type "dict", none, .dict #[⟨PyData.keyHash wd.params ("choose" : Str), .str ("choose" : Str) du3_0, .int 0 dw3_0⟩, ⟨PyData.keyHash wd.params ("turn" : Str), .str ("turn" : Str) du3_1, .int 0 dw3_1⟩, ⟨PyData.keyHash wd.params ("give" : Str), .str ("give" : Str) du3_2, .int 0 dw3_2⟩, ⟨PyData.keyHash wd.params ("back" : Str), .str ("back" : Str) du3_3, .int 0 dw3_3⟩] dn3, #[]⟩) (do3 : (da3 == sysModules) = false) (dv3_0 : PySem.W.nsIn K da3 ("choose" : Str) = some (some (.int 0 dt3_0))) (dv3_1 : PySem.W.nsIn K da3 ("turn" : Str) = some (some (.int 0 dt3_1))) (dv3_2 : PySem.W.nsIn K da3 ("give" : Str) = some (some (.int 0 dt3_2))) (dv3_3 : PySem.W.nsIn K da3 ("back" : Str) = some (some (.int 0 dt3_3)))
    {ca1 : Addr} (cl1 : PySem.W.nsIn K mainGlobals ("BadCodes" : Str) = some (some (.ref ca1)))
    {ca2 : Addr} (cl2 : PySem.W.nsIn K mainGlobals ("BadRun" : Str) = some (some (.ref ca2)))
    {ca3 : Addr} (cl3 : PySem.W.nsIn K mainGlobals ("BadClass" : Str) = some (some (.ref ca3)))
    {ca4 : Addr} (cl4 : PySem.W.nsIn K mainGlobals ("BadName" : Str) = some (some (.ref ca4)))
    {ca5 : Addr} (cl5 : PySem.W.nsIn K mainGlobals ("BadText" : Str) = some (some (.ref ca5)))
    {ca6 : Addr} (cl6 : PySem.W.nsIn K mainGlobals ("BadTree" : Str) = some (some (.ref ca6)))
    {ca7 : Addr} (cl7 : PySem.W.nsIn K mainGlobals ("HouseError" : Str) = some (some (.ref ca7)))
    (ex0_0 : PySem.W.findIn K (.ref ec0) "__getattribute__" = some (some (.builtin "BaseException.__getattribute__")))
    (ex0_1 : PySem.W.findIn K (.ref ec0) "__getattr__" = some none)
    (ex0_2 : PySem.W.subIn K (.ref ec0) (.type "BaseException") = some true)
    (ex0_3 : PySem.W.hasDictIn K ec0 = true)
    (ex0_4 : PySem.W.findIn K (.ref ec0) "__class__" = some (some (.builtin "object.__class__")))
    (ex0_5 : PySem.W.specialIn K (.builtin "object.__class__") "__get__" = some (some (.builtin "getset_descriptor.__get__")))
    (ex0_6 : PySem.W.takesIn K (.builtin "object.__class__") = some true)
    (ex0_7 : PySem.W.mroIn K ec0 (.type "object") = some true)
    (sk0 : PySem.W.kitOne K (.ref ec0) (.type "ValueError") = some true) (sm0 : PySem.W.exmOne K (.ref ec0) (.type "ValueError") = some true)
    (sk1 : PySem.W.kitOne K (.ref ec0) (.ref ca1) = some true) (sm1 : PySem.W.exmOne K (.ref ec0) (.ref ca1) = some true)
    (sk2 : PySem.W.kitOne K (.ref ec0) (.ref ca2) = some false) (sm2 : PySem.W.exmOne K (.ref ec0) (.ref ca2) = some false)
    (sk3 : PySem.W.kitOne K (.ref ec0) (.ref ca3) = some false) (sm3 : PySem.W.exmOne K (.ref ec0) (.ref ca3) = some false)
    (sk4 : PySem.W.kitOne K (.ref ec0) (.ref ca4) = some false) (sm4 : PySem.W.exmOne K (.ref ec0) (.ref ca4) = some false)
    (sk5 : PySem.W.kitOne K (.ref ec0) (.ref ca5) = some false) (sm5 : PySem.W.exmOne K (.ref ec0) (.ref ca5) = some false)
    (sk6 : PySem.W.kitOne K (.ref ec0) (.ref ca6) = some false) (sm6 : PySem.W.exmOne K (.ref ec0) (.ref ca6) = some false)
    (sk7 : PySem.W.kitOne K (.ref ec0) (.ref ca7) = some true) (sm7 : PySem.W.exmOne K (.ref ec0) (.ref ca7) = some true)
    : ∃ (st : Stmt) (fd : FuncData), (∀ (s : Shared) (u : Value), BindsTo s fd ⟨[u], []⟩ [(("script" : Str), u)]) ∧ Prog T (wdOf K) mg wd ∧ DefAt T K mg f_law st fa fd := by
  have e := hfa.symm.trans (PySem.W.mg_of X G a20)
  cases e
  have D0 : DefAt T K mg f_is_worded s_is_worded _ _ := ⟨fun _ => PySem.W.mg_of X G a0, ⟨_, fun_mk (st := s_is_worded) l0 c0 k0⟩, (fun_mk (st := s_is_worded) l0 c0 k0).binds (ps := f_is_worded.ps) (fun _ _ _ _ _ _ us hl => match us, hl with | [_, _], _ => rfl), sc_is_worded, ck_is_worded⟩
  have D1 : DefAt T K mg f_is_name s_is_name _ _ := ⟨fun _ => PySem.W.mg_of X G a1, ⟨_, fun_mk (st := s_is_name) l1 c1 k1⟩, (fun_mk (st := s_is_name) l1 c1 k1).binds (ps := f_is_name.ps) (fun _ _ _ _ _ _ us hl => match us, hl with | [_], _ => rfl), sc_is_name, ck_is_name⟩
  have D2 : DefAt T K mg f_words_of s_words_of _ _ := ⟨fun _ => PySem.W.mg_of X G a2, ⟨_, fun_mk (st := s_words_of) l2 c2 k2⟩, (fun_mk (st := s_words_of) l2 c2 k2).binds (ps := f_words_of.ps) (fun _ _ _ _ _ _ us hl => match us, hl with | [_], _ => rfl), sc_words_of, ck_words_of⟩
  have D3 : DefAt T K mg f_arity_of s_arity_of _ _ := ⟨fun _ => PySem.W.mg_of X G a3, ⟨_, fun_mk (st := s_arity_of) l3 c3 k3⟩, (fun_mk (st := s_arity_of) l3 c3 k3).binds (ps := f_arity_of.ps) (fun _ _ _ _ _ _ us hl => match us, hl with | [_], _ => rfl), sc_arity_of, ck_arity_of⟩
  have D4 : DefAt T K mg f_taken_by s_taken_by _ _ := ⟨fun _ => PySem.W.mg_of X G a4, ⟨_, fun_mk (st := s_taken_by) l4 c4 k4⟩, (fun_mk (st := s_taken_by) l4 c4 k4).binds (ps := f_taken_by.ps) (fun _ _ _ _ _ _ us hl => match us, hl with | [_], _ => rfl), sc_taken_by, ck_taken_by⟩
  have D5 : DefAt T K mg f_left_by s_left_by _ _ := ⟨fun _ => PySem.W.mg_of X G a5, ⟨_, fun_mk (st := s_left_by) l5 c5 k5⟩, (fun_mk (st := s_left_by) l5 c5 k5).binds (ps := f_left_by.ps) (fun _ _ _ _ _ _ us hl => match us, hl with | [_], _ => rfl), sc_left_by, ck_left_by⟩
  have D6 : DefAt T K mg f_goals_of s_goals_of _ _ := ⟨fun _ => PySem.W.mg_of X G a6, ⟨_, fun_mk (st := s_goals_of) l6 c6 k6⟩, (fun_mk (st := s_goals_of) l6 c6 k6).binds (ps := f_goals_of.ps) (fun _ _ _ _ _ _ us hl => match us, hl with | [_, _], _ => rfl), sc_goals_of, ck_goals_of⟩
  have D7 : DefAt T K mg f_look_code s_look_code _ _ := ⟨fun _ => PySem.W.mg_of X G a7, ⟨_, fun_mk (st := s_look_code) l7 c7 k7⟩, (fun_mk (st := s_look_code) l7 c7 k7).binds (ps := f_look_code.ps) (fun _ _ _ _ _ _ us hl => match us, hl with | [_, _, _, _], _ => rfl), sc_look_code, ck_look_code⟩
  have D8 : DefAt T K mg f_depths s_depths _ _ := ⟨fun _ => PySem.W.mg_of X G a8, ⟨_, fun_mk (st := s_depths) l8 c8 k8⟩, (fun_mk (st := s_depths) l8 c8 k8).binds (ps := f_depths.ps) (fun _ _ _ _ _ _ us hl => match us, hl with | [_, _, _], _ => rfl), sc_depths, ck_depths⟩
  have D9 : DefAt T K mg f_look_codes s_look_codes _ _ := ⟨fun _ => PySem.W.mg_of X G a9, ⟨_, fun_mk (st := s_look_codes) l9 c9 k9⟩, (fun_mk (st := s_look_codes) l9 c9 k9).binds (ps := f_look_codes.ps) (fun _ _ _ _ _ _ us hl => match us, hl with | [_, _, _], _ => rfl), sc_look_codes, ck_look_codes⟩
  have D10 : DefAt T K mg f_law_cell s_law_cell _ _ := ⟨fun _ => PySem.W.mg_of X G a10, ⟨_, fun_mk (st := s_law_cell) l10 c10 k10⟩, (fun_mk (st := s_law_cell) l10 c10 k10).binds (ps := f_law_cell.ps) (fun _ _ _ _ _ _ us hl => match us, hl with | [_, _], _ => rfl), sc_law_cell, ck_law_cell⟩
  have D11 : DefAt T K mg f_law_mix s_law_mix _ _ := ⟨fun _ => PySem.W.mg_of X G a11, ⟨_, fun_mk (st := s_law_mix) l11 c11 k11⟩, (fun_mk (st := s_law_mix) l11 c11 k11).binds (ps := f_law_mix.ps) (fun _ _ _ _ _ _ us hl => match us, hl with | [_, _], _ => rfl), sc_law_mix, ck_law_mix⟩
  have D12 : DefAt T K mg f_law_draw s_law_draw _ _ := ⟨fun _ => PySem.W.mg_of X G a12, ⟨_, fun_mk (st := s_law_draw) l12 c12 k12⟩, (fun_mk (st := s_law_draw) l12 c12 k12).binds (ps := f_law_draw.ps) (fun _ _ _ _ _ _ us hl => match us, hl with | [_, _, _], _ => rfl), sc_law_draw, ck_law_draw⟩
  have D13 : DefAt T K mg f_law_pick s_law_pick _ _ := ⟨fun _ => PySem.W.mg_of X G a13, ⟨_, fun_mk (st := s_law_pick) l13 c13 k13⟩, (fun_mk (st := s_law_pick) l13 c13 k13).binds (ps := f_law_pick.ps) (fun _ _ _ _ _ _ us hl => match us, hl with | [_, _, _], _ => rfl), sc_law_pick, ck_law_pick⟩
  have D14 : DefAt T K mg f_law_refusal s_law_refusal _ _ := ⟨fun _ => PySem.W.mg_of X G a14, ⟨_, fun_mk (st := s_law_refusal) l14 c14 k14⟩, (fun_mk (st := s_law_refusal) l14 c14 k14).binds (ps := f_law_refusal.ps) (fun _ _ _ _ _ _ us hl => match us, hl with | [_], _ => rfl), sc_law_refusal, ck_law_refusal⟩
  have D15 : DefAt T K mg f_law_row_of_codes s_law_row_of_codes _ _ := ⟨fun _ => PySem.W.mg_of X G a15, ⟨_, fun_mk (st := s_law_row_of_codes) l15 c15 k15⟩, (fun_mk (st := s_law_row_of_codes) l15 c15 k15).binds (ps := f_law_row_of_codes.ps) (fun _ _ _ _ _ _ us hl => match us, hl with | [_, _, _, _], _ => rfl), sc_law_row_of_codes, ck_law_row_of_codes⟩
  have D16 : DefAt T K mg f_law_wants s_law_wants _ _ := ⟨fun _ => PySem.W.mg_of X G a16, ⟨_, fun_mk (st := s_law_wants) l16 c16 k16⟩, (fun_mk (st := s_law_wants) l16 c16 k16).binds (ps := f_law_wants.ps) (fun _ _ _ _ _ _ us hl => match us, hl with | [_], _ => rfl), sc_law_wants, ck_law_wants⟩
  have D17 : DefAt T K mg f_law_bad_code s_law_bad_code _ _ := ⟨fun _ => PySem.W.mg_of X G a17, ⟨_, fun_mk (st := s_law_bad_code) l17 c17 k17⟩, (fun_mk (st := s_law_bad_code) l17 c17 k17).binds (ps := f_law_bad_code.ps) (fun _ _ _ _ _ _ us hl => match us, hl with | [_, _, _], _ => rfl), sc_law_bad_code, ck_law_bad_code⟩
  have D18 : DefAt T K mg f_law_depths s_law_depths _ _ := ⟨fun _ => PySem.W.mg_of X G a18, ⟨_, fun_mk (st := s_law_depths) l18 c18 k18⟩, (fun_mk (st := s_law_depths) l18 c18 k18).binds (ps := f_law_depths.ps) (fun _ _ _ _ _ _ us hl => match us, hl with | [_, _, _], _ => rfl), sc_law_depths, ck_law_depths⟩
  have D19 : DefAt T K mg f_law_told s_law_told _ _ := ⟨fun _ => PySem.W.mg_of X G a19, ⟨_, fun_mk (st := s_law_told) l19 c19 k19⟩, (fun_mk (st := s_law_told) l19 c19 k19).binds (ps := f_law_told.ps) (fun _ _ _ _ _ _ us hl => match us, hl with | [_, _, _], _ => rfl), sc_law_told, ck_law_told⟩
  have D20 : DefAt T K mg f_law s_law _ _ := ⟨fun _ => PySem.W.mg_of X G a20, ⟨_, fun_mk (st := s_law) l20 c20 k20⟩, (fun_mk (st := s_law) l20 c20 k20).binds (ps := f_law.ps) (fun _ _ _ _ _ _ us hl => match us, hl with | [_], _ => rfl), sc_law, ck_law⟩
  refine ⟨_, _, fun s v => .of_eq rfl, ⟨?_, ?_, ?_, ?_, ?_, ?_, ?_, ?_, ?_, ?_⟩, D20⟩
  · intro k f hk ho
    match k, hk with
    | 0, hk => cases hk; exact ⟨_, _, _, D0⟩
    | 1, hk => cases hk; exact ⟨_, _, _, D1⟩
    | 2, hk => cases hk; exact ⟨_, _, _, D2⟩
    | 3, hk => cases hk; exact ⟨_, _, _, D3⟩
    | 4, hk => cases hk; exact ⟨_, _, _, D4⟩
    | 5, hk => cases hk; exact ⟨_, _, _, D5⟩
    | 6, hk => cases hk; exact ⟨_, _, _, D6⟩
    | 7, hk => cases hk; exact ⟨_, _, _, D7⟩
    | 8, hk => cases hk; exact ⟨_, _, _, D8⟩
    | 9, hk => cases hk; exact ⟨_, _, _, D9⟩
    | 10, hk => cases hk; exact ⟨_, _, _, D10⟩
    | 11, hk => cases hk; exact ⟨_, _, _, D11⟩
    | 12, hk => cases hk; exact ⟨_, _, _, D12⟩
    | 13, hk => cases hk; exact ⟨_, _, _, D13⟩
    | 14, hk => cases hk; exact ⟨_, _, _, D14⟩
    | 15, hk => cases hk; exact ⟨_, _, _, D15⟩
    | 16, hk => cases hk; exact ⟨_, _, _, D16⟩
    | 17, hk => cases hk; exact ⟨_, _, _, D17⟩
    | 18, hk => cases hk; exact ⟨_, _, _, D18⟩
    | 19, hk => cases hk; exact ⟨_, _, _, D19⟩
    | 20, hk => cases hk; exact ⟨_, _, _, D20⟩
    | k + 21, hk => cases hk
  · intro k x d hk
    match k, hk with
    | 0, hk => cases hk; exact ⟨_, .str _, PySem.W.mg_of X G g0, ⟨_, rfl⟩, fun g => .str _⟩
    | 1, hk => cases hk; exact ⟨_, .str _, PySem.W.mg_of X G g1, ⟨_, rfl⟩, fun g => .str _⟩
    | 2, hk => cases hk; exact ⟨_, .str _, PySem.W.mg_of X G g2, ⟨_, rfl⟩, fun g => .str _⟩
    | 3, hk => cases hk; exact ⟨_, .str _, PySem.W.mg_of X G g3, ⟨_, rfl⟩, fun g => .str _⟩
    | 4, hk => cases hk; exact ⟨_, .ref ga4, PySem.W.mg_of X G g4, rfl, fun g => .cst (xs := [.str ("self" : Str), .str ("super" : Str), .str ("nil" : Str), .str ("yes" : Str), .str ("no" : Str)]) (.inr ⟨_, _, gn4, gl4, rfl, rfl, rfl, (by show 5 ≤ sizeLine; decide), .cons ⟨_, rfl⟩ (.cons ⟨_, rfl⟩ (.cons ⟨_, rfl⟩ (.cons ⟨_, rfl⟩ (.cons ⟨_, rfl⟩ (.nil)))))⟩) (.cons (.str _) (.cons (.str _) (.cons (.str _) (.cons (.str _) (.cons (.str _) (.nil))))))⟩
    | 5, hk => cases hk; exact ⟨_, .int _, PySem.W.mg_of X G g5, ⟨_, rfl⟩, fun g => .int _⟩
    | 6, hk => cases hk; exact ⟨_, .int _, PySem.W.mg_of X G g6, ⟨_, rfl⟩, fun g => .int _⟩
    | k + 7, hk => cases hk
  · intro x hx
    simp only [T, List.mem_cons, List.not_mem_nil, or_false] at hx
    rcases hx with rfl | rfl | rfl | rfl | rfl | rfl | rfl
    · exact PySem.W.mg_none_of X G z0
    · exact PySem.W.mg_none_of X G z1
    · exact PySem.W.mg_none_of X G z2
    · exact PySem.W.mg_none_of X G z3
    · exact PySem.W.mg_none_of X G z4
    · exact PySem.W.mg_none_of X G z5
    · exact PySem.W.mg_none_of X G z6
  · intro c hc
    simp only [T, List.mem_cons, List.not_mem_nil, or_false] at hc
    subst hc
    · refine ⟨ec0, ?_, PySem.W.mg_of X G x0, xe0, xk0, xs0, xt0⟩
      show (match PySem.W.nsIn K mainGlobals ("BadCodes" : Str) with | some (some (.ref C)) => some C | _ => none) = some ec0
      rw [x0]
  · intro x kvs hx
    simp only [T, List.mem_cons, List.not_mem_nil, or_false] at hx
    rcases hx with hx | hx | hx | hx
    · cases hx
      refine dct_mk (PySem.W.mg_of X G d0) (dicW_of dl0 do0) fun q hq => ?_
      simp only [List.mem_cons, List.not_mem_nil, or_false] at hq
      rcases hq with rfl | rfl | rfl | rfl | rfl | rfl | rfl | rfl | rfl
      · exact ⟨_, dv0_0, ⟨_, rfl⟩⟩
      · exact ⟨_, dv0_1, ⟨_, rfl⟩⟩
      · exact ⟨_, dv0_2, ⟨_, rfl⟩⟩
      · exact ⟨_, dv0_3, ⟨_, rfl⟩⟩
      · exact ⟨_, dv0_4, ⟨_, rfl⟩⟩
      · exact ⟨_, dv0_5, ⟨_, rfl⟩⟩
      · exact ⟨_, dv0_6, ⟨_, rfl⟩⟩
      · exact ⟨_, dv0_7, ⟨_, rfl⟩⟩
      · exact ⟨_, dv0_8, ⟨_, rfl⟩⟩
    · cases hx
      refine dct_mk (PySem.W.mg_of X G d1) (dicW_of dl1 do1) fun q hq => ?_
      simp only [List.mem_cons, List.not_mem_nil, or_false] at hq
      rcases hq with rfl | rfl | rfl | rfl
      · exact ⟨_, dv1_0, ⟨_, rfl⟩⟩
      · exact ⟨_, dv1_1, ⟨_, rfl⟩⟩
      · exact ⟨_, dv1_2, ⟨_, rfl⟩⟩
      · exact ⟨_, dv1_3, ⟨_, rfl⟩⟩
    · cases hx
      refine dct_mk (PySem.W.mg_of X G d2) (dicW_of dl2 do2) fun q hq => ?_
      simp only [List.mem_cons, List.not_mem_nil, or_false] at hq
      rcases hq with rfl | rfl | rfl | rfl | rfl | rfl | rfl | rfl | rfl
      · exact ⟨_, dv2_0, ⟨_, rfl⟩⟩
      · exact ⟨_, dv2_1, ⟨_, rfl⟩⟩
      · exact ⟨_, dv2_2, ⟨_, rfl⟩⟩
      · exact ⟨_, dv2_3, ⟨_, rfl⟩⟩
      · exact ⟨_, dv2_4, ⟨_, rfl⟩⟩
      · exact ⟨_, dv2_5, ⟨_, rfl⟩⟩
      · exact ⟨_, dv2_6, ⟨_, rfl⟩⟩
      · exact ⟨_, dv2_7, ⟨_, rfl⟩⟩
      · exact ⟨_, dv2_8, ⟨_, rfl⟩⟩
    · cases hx
      refine dct_mk (PySem.W.mg_of X G d3) (dicW_of dl3 do3) fun q hq => ?_
      simp only [List.mem_cons, List.not_mem_nil, or_false] at hq
      rcases hq with rfl | rfl | rfl | rfl
      · exact ⟨_, dv3_0, ⟨_, rfl⟩⟩
      · exact ⟨_, dv3_1, ⟨_, rfl⟩⟩
      · exact ⟨_, dv3_2, ⟨_, rfl⟩⟩
      · exact ⟨_, dv3_3, ⟨_, rfl⟩⟩
  · intro x hx
    simp only [T, List.mem_cons, List.not_mem_nil, or_false] at hx
    rcases hx with rfl | rfl | rfl | rfl | rfl | rfl | rfl | rfl
    · exact ⟨.ty "ValueError", .type "ValueError", .ty _, .inr ⟨PySem.W.mg_none_of X G z0, by decide +kernel⟩⟩
    · exact ⟨.ref ca1, .ref ca1, .own _, .inl (PySem.W.mg_of X G cl1)⟩
    · exact ⟨.ref ca2, .ref ca2, .own _, .inl (PySem.W.mg_of X G cl2)⟩
    · exact ⟨.ref ca3, .ref ca3, .own _, .inl (PySem.W.mg_of X G cl3)⟩
    · exact ⟨.ref ca4, .ref ca4, .own _, .inl (PySem.W.mg_of X G cl4)⟩
    · exact ⟨.ref ca5, .ref ca5, .own _, .inl (PySem.W.mg_of X G cl5)⟩
    · exact ⟨.ref ca6, .ref ca6, .own _, .inl (PySem.W.mg_of X G cl6)⟩
    · exact ⟨.ref ca7, .ref ca7, .own _, .inl (PySem.W.mg_of X G cl7)⟩
  · intro c x b hx
    have EX0 : ExcC K ec0 := ⟨ex0_0, ex0_1, ex0_2, ex0_3, ex0_4, ex0_5, ex0_6, ex0_7⟩
    have CW0 : (wdOf K).cl ("BadCodes" : Str) = some ec0 := by show (match PySem.W.nsIn K mainGlobals ("BadCodes" : Str) with | some (some (.ref C)) => some C | _ => none) = some ec0; rw [x0]
    simp only [T, List.mem_cons, List.not_mem_nil, or_false] at hx
    rcases hx with hx | hx | hx | hx | hx | hx | hx | hx
    · cases hx
      exact ⟨_, CW0, subAt_blt EX0 (PySem.W.mg_none_of X G z0) (by decide +kernel) sk0 sm0⟩
    · cases hx
      exact ⟨_, CW0, subAt_own EX0 (PySem.W.mg_of X G cl1) sk1 sm1⟩
    · cases hx
      exact ⟨_, CW0, subAt_own EX0 (PySem.W.mg_of X G cl2) sk2 sm2⟩
    · cases hx
      exact ⟨_, CW0, subAt_own EX0 (PySem.W.mg_of X G cl3) sk3 sm3⟩
    · cases hx
      exact ⟨_, CW0, subAt_own EX0 (PySem.W.mg_of X G cl4) sk4 sm4⟩
    · cases hx
      exact ⟨_, CW0, subAt_own EX0 (PySem.W.mg_of X G cl5) sk5 sm5⟩
    · cases hx
      exact ⟨_, CW0, subAt_own EX0 (PySem.W.mg_of X G cl6) sk6 sm6⟩
    · cases hx
      exact ⟨_, CW0, subAt_own EX0 (PySem.W.mg_of X G cl7) sk7 sm7⟩
  · intro c f hx; cases hx
  · intro c m k hx; cases hx
  · intro c k hx; cases hx
end K41
open PySem PySem.W PyProof.Rows
set_option maxRecDepth 100000 in
set_option maxHeartbeats 0 in
theorem PySem.Challenge.cw_thinghall_k41_whole_looked_at_holds : PySem.Challenge.rw_thinghall_k41_whole_looked_at.Holds := by
  w_on; o_law; k_head; (case hw => w_witness2)
  k_fill
  refine ML.walk (l := PySem.Challenge.rw_thinghall_k41_whole_looked_at) (T := K41.T) (f := K41.f_law) (n := 60) (k := 20) rfl rfl rfl rfl ⟨rfl, by decide, by decide⟩ (fun w h Y => PySem.W.kIn_of Y) K41.law_pure ?F
  case F =>
    intro w mg fa h KX G hmg
    refine' K41.all_mk KX G hmg ?q_a0 ?q_l0 ?q_c0 ?q_k0 ?q_a1 ?q_l1 ?q_c1 ?q_k1 ?q_a2 ?q_l2 ?q_c2 ?q_k2 ?q_a3 ?q_l3 ?q_c3 ?q_k3 ?q_a4 ?q_l4 ?q_c4 ?q_k4 ?q_a5 ?q_l5 ?q_c5 ?q_k5 ?q_a6 ?q_l6 ?q_c6 ?q_k6 ?q_a7 ?q_l7 ?q_c7 ?q_k7 ?q_a8 ?q_l8 ?q_c8 ?q_k8 ?q_a9 ?q_l9 ?q_c9 ?q_k9 ?q_a10 ?q_l10 ?q_c10 ?q_k10 ?q_a11 ?q_l11 ?q_c11 ?q_k11 ?q_a12 ?q_l12 ?q_c12 ?q_k12 ?q_a13 ?q_l13 ?q_c13 ?q_k13 ?q_a14 ?q_l14 ?q_c14 ?q_k14 ?q_a15 ?q_l15 ?q_c15 ?q_k15 ?q_a16 ?q_l16 ?q_c16 ?q_k16 ?q_a17 ?q_l17 ?q_c17 ?q_k17 ?q_a18 ?q_l18 ?q_c18 ?q_k18 ?q_a19 ?q_l19 ?q_c19 ?q_k19 ?q_a20 ?q_l20 ?q_c20 ?q_k20 ?q_z0 ?q_z1 ?q_z2 ?q_z3 ?q_z4 ?q_z5 ?q_z6 ?q_g0 ?q_g1 ?q_g2 ?q_g3 ?q_g4 ?q_gl4 ?q_g5 ?q_g6 ?q_x0 ?q_xe0 ?q_xk0 ?q_xs0 ?q_xt0 ?q_d0 ?q_dl0 ?q_do0 ?q_dv0_0 ?q_dv0_1 ?q_dv0_2 ?q_dv0_3 ?q_dv0_4 ?q_dv0_5 ?q_dv0_6 ?q_dv0_7 ?q_dv0_8 ?q_d1 ?q_dl1 ?q_do1 ?q_dv1_0 ?q_dv1_1 ?q_dv1_2 ?q_dv1_3 ?q_d2 ?q_dl2 ?q_do2 ?q_dv2_0 ?q_dv2_1 ?q_dv2_2 ?q_dv2_3 ?q_dv2_4 ?q_dv2_5 ?q_dv2_6 ?q_dv2_7 ?q_dv2_8 ?q_d3 ?q_dl3 ?q_do3 ?q_dv3_0 ?q_dv3_1 ?q_dv3_2 ?q_dv3_3 ?q_cl1 ?q_cl2 ?q_cl3 ?q_cl4 ?q_cl5 ?q_cl6 ?q_cl7 ?q_ex0_0 ?q_ex0_1 ?q_ex0_2 ?q_ex0_3 ?q_ex0_4 ?q_ex0_5 ?q_ex0_6 ?q_ex0_7 ?q_sk0 ?q_sm0 ?q_sk1 ?q_sm1 ?q_sk2 ?q_sm2 ?q_sk3 ?q_sm3 ?q_sk4 ?q_sm4 ?q_sk5 ?q_sm5 ?q_sk6 ?q_sm6 ?q_sk7 ?q_sm7
    (case q_a0 => k_is)
    (case q_l0 => k_is)
    (case q_c0 => k_is)
    (case q_k0 => k_is)
    (case q_a1 => k_is)
    (case q_l1 => k_is)
    (case q_c1 => k_is)
    (case q_k1 => k_is)
    (case q_a2 => k_is)
    (case q_l2 => k_is)
    (case q_c2 => k_is)
    (case q_k2 => k_is)
    (case q_a3 => k_is)
    (case q_l3 => k_is)
    (case q_c3 => k_is)
    (case q_k3 => k_is)
    (case q_a4 => k_is)
    (case q_l4 => k_is)
    (case q_c4 => k_is)
    (case q_k4 => k_is)
    (case q_a5 => k_is)
    (case q_l5 => k_is)
    (case q_c5 => k_is)
    (case q_k5 => k_is)
    (case q_a6 => k_is)
    (case q_l6 => k_is)
    (case q_c6 => k_is)
    (case q_k6 => k_is)
    (case q_a7 => k_is)
    (case q_l7 => k_is)
    (case q_c7 => k_is)
    (case q_k7 => k_is)
    (case q_a8 => k_is)
    (case q_l8 => k_is)
    (case q_c8 => k_is)
    (case q_k8 => k_is)
    (case q_a9 => k_is)
    (case q_l9 => k_is)
    (case q_c9 => k_is)
    (case q_k9 => k_is)
    (case q_a10 => k_is)
    (case q_l10 => k_is)
    (case q_c10 => k_is)
    (case q_k10 => k_is)
    (case q_a11 => k_is)
    (case q_l11 => k_is)
    (case q_c11 => k_is)
    (case q_k11 => k_is)
    (case q_a12 => k_is)
    (case q_l12 => k_is)
    (case q_c12 => k_is)
    (case q_k12 => k_is)
    (case q_a13 => k_is)
    (case q_l13 => k_is)
    (case q_c13 => k_is)
    (case q_k13 => k_is)
    (case q_a14 => k_is)
    (case q_l14 => k_is)
    (case q_c14 => k_is)
    (case q_k14 => k_is)
    (case q_a15 => k_is)
    (case q_l15 => k_is)
    (case q_c15 => k_is)
    (case q_k15 => k_is)
    (case q_a16 => k_is)
    (case q_l16 => k_is)
    (case q_c16 => k_is)
    (case q_k16 => k_is)
    (case q_a17 => k_is)
    (case q_l17 => k_is)
    (case q_c17 => k_is)
    (case q_k17 => k_is)
    (case q_a18 => k_is)
    (case q_l18 => k_is)
    (case q_c18 => k_is)
    (case q_k18 => k_is)
    (case q_a19 => k_is)
    (case q_l19 => k_is)
    (case q_c19 => k_is)
    (case q_k19 => k_is)
    (case q_a20 => k_is)
    (case q_l20 => k_is)
    (case q_c20 => k_is)
    (case q_k20 => k_is)
    (case q_z0 => k_is)
    (case q_z1 => k_is)
    (case q_z2 => k_is)
    (case q_z3 => k_is)
    (case q_z4 => k_is)
    (case q_z5 => k_is)
    (case q_z6 => k_is)
    (case q_g0 => k_is)
    (case q_g1 => k_is)
    (case q_g2 => k_is)
    (case q_g3 => k_is)
    (case q_g4 => k_is)
    (case q_gl4 => k_is)
    (case q_g5 => k_is)
    (case q_g6 => k_is)
    (case q_x0 => k_is)
    (case q_xe0 => k_exc)
    (case q_xk0 => k_is)
    (case q_xs0 => k_is)
    (case q_xt0 => k_is)
    (case q_d0 => k_is)
    (case q_dl0 => k_is)
    (case q_do0 => exact rfl)
    (case q_dv0_0 => k_is)
    (case q_dv0_1 => k_is)
    (case q_dv0_2 => k_is)
    (case q_dv0_3 => k_is)
    (case q_dv0_4 => k_is)
    (case q_dv0_5 => k_is)
    (case q_dv0_6 => k_is)
    (case q_dv0_7 => k_is)
    (case q_dv0_8 => k_is)
    (case q_d1 => k_is)
    (case q_dl1 => k_is)
    (case q_do1 => exact rfl)
    (case q_dv1_0 => k_is)
    (case q_dv1_1 => k_is)
    (case q_dv1_2 => k_is)
    (case q_dv1_3 => k_is)
    (case q_d2 => k_is)
    (case q_dl2 => k_is)
    (case q_do2 => exact rfl)
    (case q_dv2_0 => k_is)
    (case q_dv2_1 => k_is)
    (case q_dv2_2 => k_is)
    (case q_dv2_3 => k_is)
    (case q_dv2_4 => k_is)
    (case q_dv2_5 => k_is)
    (case q_dv2_6 => k_is)
    (case q_dv2_7 => k_is)
    (case q_dv2_8 => k_is)
    (case q_d3 => k_is)
    (case q_dl3 => k_is)
    (case q_do3 => exact rfl)
    (case q_dv3_0 => k_is)
    (case q_dv3_1 => k_is)
    (case q_dv3_2 => k_is)
    (case q_dv3_3 => k_is)
    (case q_cl1 => k_is)
    (case q_cl2 => k_is)
    (case q_cl3 => k_is)
    (case q_cl4 => k_is)
    (case q_cl5 => k_is)
    (case q_cl6 => k_is)
    (case q_cl7 => k_is)
    (case q_ex0_0 => k_is)
    (case q_ex0_1 => k_is)
    (case q_ex0_2 => k_is)
    (case q_ex0_3 => k_is)
    (case q_ex0_4 => k_is)
    (case q_ex0_5 => k_is)
    (case q_ex0_6 => k_is)
    (case q_ex0_7 => k_is)
    (case q_sk0 => kit_is)
    (case q_sm0 => kts_exm)
    (case q_sk1 => kit_is)
    (case q_sm1 => kts_exm)
    (case q_sk2 => kit_is)
    (case q_sm2 => kts_exm)
    (case q_sk3 => kit_is)
    (case q_sm3 => kts_exm)
    (case q_sk4 => kit_is)
    (case q_sm4 => kts_exm)
    (case q_sk5 => kit_is)
    (case q_sm5 => kts_exm)
    (case q_sk6 => kit_is)
    (case q_sm6 => kts_exm)
    (case q_sk7 => kit_is)
    (case q_sm7 => kts_exm)
