import PyProof.Rows.All
import Wide.All
import OpenK.AllK
import Wide.FinOn
import HandS.Strs
import HandS.Exc
import HandS.ExcIs
import HandS.IsInst
import HandS.ForMost
import HandS.ExcOwn
import HandS.WordsExc
import HandS.TupAny
import HandS.Flow
import HandS.RaiseMore
import HandS.HeadHook3
import PySem.Challenge.RW_thinghall_k10_whole_written
set_option Elab.async false
set_option linter.all false
set_option maxRecDepth 100000
set_option maxHeartbeats 4000000
/-! len(set(xs)) of a tuple or list of any texts -/
namespace ML
open PySem PySem.Spec PyProof.Rows
def metS (a : List Str) (x : Str) : List Str := if a.any (· == x) = true then a else a ++ [x]
/-- each text once, where it is first met -/
def met (xs : List Str) : List Str := xs.foldl metS []
theorem met_snoc (xs : List Str) (x : Str) : met (xs ++ [x]) = metS (met xs) x := by simp [met, List.foldl_append]
theorem metS_any (a : List Str) (x k : Str) : (metS a x).any (· == k) = (a.any (· == k) || decide (k = x)) := by
  unfold metS
  split
  · rename_i h
    by_cases e : k = x
    · rw [e, h]; rfl
    · rw [decide_eq_false e, Bool.or_false]
  · rw [List.any_append]
    congr 1
    by_cases e : k = x
    · simp [e]
    · have z : (x == k) = false := beq_eq_false_iff_ne.mpr fun z => e z.symm
      simp [e, z]
theorem metS_len (a : List Str) (x : Str) : (metS a x).length = if a.any (· == x) = true then a.length else a.length + 1 := by
  unfold metS
  split
  · rfl
  · simp
theorem met_le : ∀ xs : List Str, (met xs).length ≤ xs.length := by
  intro xs
  have gen : ∀ (xs a : List Str), (xs.foldl metS a).length ≤ a.length + xs.length := by
    intro xs
    induction xs with
    | nil => intro a; exact Nat.le_refl _
    | cons x xs ih =>
      intro a
      refine Nat.le_trans (ih (metS a x)) ?_
      rw [metS_len]
      simp only [List.length_cons]
      split <;> omega
  have := gen xs []
  simpa [met] using this
theorem take_snoc {xs : List Str} {i : Nat} (h : i < xs.length) : xs.take (i + 1) = xs.take i ++ [xs.getD i Str.empty] := by
  rw [List.take_succ, List.getElem?_eq_getElem h]
  simp [List.getD, List.getElem?_eq_getElem h]
/-- a set with nothing in it -/
abbrev set0 (led : Bool) : Obj := { cls := .type "set", dict := none, data := .set #[] 0 (.fresh 0 0 led) }
section
variable {prog : Program} {w : World} {A : Around} {R : Result → Shared → Prop}
  {I : Addr} {fp wr : List Addr} {G : Array GenState → Array GenState → Prop} {n : Nat} {P : Nat → Value → Prop} {St : Nat → Shared → Prop}
theorem turnsS (W : WalksS prog w A.in1 I fp wr G n P St) (B : Addr) (nf : B ∉ fp) (xs : List Str) (el : xs.length = n) (room : n + 1 < scanBound)
    (vl : ∀ i v, P i v → ∃ t, v = .str (xs.getD i Str.empty) t) : ∀ (k i : Nat) (s : Shared), n - i = k → i ≤ n → St i s →
      s.heap.SetOf (PySem.strKind prog w) B (fun z => (met (xs.take i)).any (· == z)) (met (xs.take i)).length →
      (∀ s', Moved (B :: wr) G s s' → s'.heap.SetOf (PySem.strKind prog w) B (fun z => (met xs).any (· == z)) (met xs).length → R (.ok (.ret .none)) s') →
      codeAny (model prog w) A (.builtin "set.update.loop" ⟨[.ref B, .ref I], []⟩) R s := by
  have nw : B ∉ wr := fun z => nf (W.sub _ z)
  have inc : ∀ b ∈ wr, b ∈ B :: wr := fun _ z => .tail _ z
  intro k
  induction k with
  | zero =>
    intro i s ek hi st sO fin
    have ei : i = xs.length := by omega
    refine codeAny_builtin PyProof.Rows.F.entry_set_update_loop ?_
    rw [Around.under_plainId PyProof.Rows.F.plain_set_update_loop _]
    show wpAny _ A.in1 (pyNext (.ref I) >>= _) _ _ s
    refine wpAny_bind (W.done s _ _ (by rw [ei, el] at st; exact st) fun s' mv => ?_)
    show wpAny _ A.in1 (ret Value.none) _ _ s'
    refine wpAny_pure (fin s' (mv.mono inc) ?_)
    obtain ⟨o, es, ep, tb, ho, more⟩ := sO
    rw [ei, List.take_length] at more
    exact ⟨o, es, ep, tb, mv.heap B _ nw ho, more⟩
  | succ k ih =>
    intro i s ek hi st sO fin
    have lt : i < n := by omega
    refine codeAny_builtin PyProof.Rows.F.entry_set_update_loop ?_
    rw [Around.under_plainId PyProof.Rows.F.plain_set_update_loop _]
    show wpAny _ A.in1 (pyNext (.ref I) >>= _) _ _ s
    refine wpAny_bind (W.item i s _ _ lt st fun v s' pv st' mv => ?_)
    obtain ⟨tk, ev⟩ := vl i v pv
    subst ev
    have sO' : s'.heap.SetOf (PySem.strKind prog w) B (fun z => (met (xs.take i)).any (· == z)) (met (xs.take i)).length := by
      obtain ⟨o, es, ep, tb, ho, more⟩ := sO
      exact ⟨o, es, ep, tb, mv.heap B _ nw ho, more⟩
    generalize ex : xs.getD i Str.empty = x at *
    show wpAny _ A.in1 (holding [Value.str x tk] (setAdd B (.str x tk)) >>= _) _ _ s'
    refine wpAny_bind (wpAny_holding ?_)
    unfold setAdd
    refine wpAny_holding (wpAny_bind ((PySem.strKind prog w).pyHash (k := x) (strKind_is _ _ _ _) ?_))
    have fit : (met (xs.take i)).length + 1 < scanBound := by
      have q := met_le (xs.take i)
      rw [List.length_take] at q
      omega
    refine wpAny_setAddHashed_of (knd := PySem.strKind prog w) (s := { s' with toks := s'.toks + 1 }) (strKind_is _ _ _ _) rfl sO' fit fun h2 same sO2 => ?_
    have eq : met (xs.take (i + 1)) = metS (met (xs.take i)) x := by rw [take_snoc (by omega), met_snoc, ex]
    have sO3 : h2.SetOf (PySem.strKind prog w) B (fun z => (met (xs.take (i + 1))).any (· == z)) (met (xs.take (i + 1))).length :=
      SetOf_congr sO2 (fun z => by rw [eq, metS_any]) (by rw [eq, metS_len])
    refine wpAny_pure ⟨plainId_quiet PyProof.Rows.F.plain_set_update_loop _, ih (i + 1) _ (by omega) lt (W.frame _ s' _ _ st' (Nat.le_succ _) fun b hb o e => ?_) sO3 fun s2 mv2 sO4 => ?_⟩
    · rw [same.2 b fun z => nf (z ▸ hb)]
      exact e
    · refine fin s2 (Moved.trans W.gtrans ((mv.mono inc).then_heap (Nat.le_succ _) fun b o hb e => ?_) mv2) sO4
      rw [same.2 b fun z => hb (z ▸ .head _)]
      exact e
end
section
variable {prog : Program} {w : World} {A : Around} {E : Value → Shared → Prop} {s : Shared}
theorem setOfTuple {l : Addr} {its : Array Value} {xs : List Str} {Q : Value → Shared → Prop} (calm : A.handled = none) (tl : s.heap.IsTuple l its) (txt : StrsAre its.toList xs) (room : xs.length + 1 < scanBound)
    (q : ∀ (h2 : Heap) (tk : Nat), h2.SetOf (PySem.strKind prog w) s.heap.objs.size (fun z => (met xs).any (· == z)) (met xs).length →
      (∀ b o, b < s.heap.objs.size → s.heap.get? b = some o → h2.get? b = some o) → Q (.ref s.heap.objs.size) { s with heap := h2, toks := tk }) :
    wpAny (model prog w) A (call (.type "set") [.ref l]) Q E s := by
  obtain ⟨mroC, mroT, mro⟩ := PySem.F.called_set.mro
  have f1 := PySem.F.called_set.made
  have f2 := PySem.F.called_set.sub
  have f3 := PySem.F.called_set.notType
  have f4 := PySem.F.called_set.canCreate
  have f5 := PySem.F.typeCall_set_1 (.ref l)
  refine wpAny_call (codeAny_of_tree ?_)
  show wpAny _ _ (callAny (.type "set") _) _ _ _
  refine wpAny_pure ⟨Code.quiet_builtin _ (by decide +kernel), codeAny_builtin PySem.F.entry_type_call ?_⟩
  rw [Around.under_plain (weight_type_call_type "set" [.ref l] []) rfl]
  repeat any_goals first | assumption | wp_step
  refine codeAny_mono (code_set_new_1 (.ref l) (E := E) (Q₁ := fun v s1 => ∃ led : Bool, v = .ref s.heap.objs.size ∧ s1 = { s with heap := s.heap.push (set0 led) }) fun led => ⟨led, rfl, rfl⟩) fun r s1 hr => ?_
  cases r with
  | error e => exact hr
  | ok fl =>
    cases fl with
    | ret v =>
      obtain ⟨led, rfl, rfl⟩ := hr
      have at0 : (s.heap.push (set0 led)).get? s.heap.objs.size = some (set0 led) := Heap.get?_push_size _ rfl
      have ty : Shared.TypeIs { s with heap := s.heap.push (set0 led) } (.ref s.heap.objs.size) "set" := ⟨_, at0, rfl⟩
      have f6 := PySem.F.called_set.init.lookup
      have f7 := PySem.F.called_set.init.bind (.ref s.heap.objs.size)
      repeat any_goals first | assumption | wp_step
      refine codeAny_mono (codeAny_call_builtin (R := wants (fun r s2 => r = .none ∧ ∃ h2 tk, s2 = { s with heap := h2, toks := tk } ∧
        h2.SetOf (PySem.strKind prog w) s.heap.objs.size (fun z => (met xs).any (· == z)) (met xs).length ∧ ∀ b o, b < s.heap.objs.size → s.heap.get? b = some o → h2.get? b = some o) E)
        PySem.F.called_set.init.plain PySem.F.entry_set_init (check_set_init_1 ty ?_)) fun r2 s2 hr2 => ?_
      · obtain ⟨⟨c0, d0, b0, sl0⟩, g0, gc, gn, gd⟩ := tl
        cases gc
        cases gd
        have g1 : (s.heap.push (set0 led)).get? l = some { cls := .type "tuple", dict := d0, data := .seq its gn, slots := sl0 } := Heap.get?_push_of_some _ g0
        have f8 := PySem.F.sub_tuple_set
        have f9 := PySem.F.sub_tuple_frozenset
        have f10 : (Value.type "tuple" == Value.type "dict") = false := by decide
        have tl1 : (s.heap.push (set0 led)).IsTuple l its := ⟨_, g1, rfl, gn, rfl⟩
        unfold Builtin.«set.__init__» noKeywords Builtin.Frozenset.updateFrom
        generalize ePI : pyIter = PI
        wp_walk
        cases ePI
        refine wpAny_pyIter_tuple tl1 (wpAny_bind (wpAny_runValue ?_))
        have ll : l < s.heap.objs.size := Heap.lt_size g0
        have calm3 : A.in1.in1.in1.handled = none := by simp [calm]
        have ln : l ≠ (s.heap.push (set0 led)).objs.size := by rw [Heap.size_push]; exact Nat.ne_of_lt (Nat.lt_succ_of_lt ll)
        have bn : s.heap.objs.size ∉ [(s.heap.push (set0 led)).objs.size, l] := by
          rw [Heap.size_push]
          intro z
          rcases List.mem_cons.mp z with z | z
          · exact absurd z (Nat.ne_of_lt (Nat.lt_succ_self _))
          · exact absurd (List.mem_singleton.mp z) (Nat.ne_of_gt ll)
        have lx : xs.length = its.size := by rw [← StrsAre.len_eq txt, Array.length_toList]
        refine turnsS ((Walks.tuple calm3 _ l ln its).toS) s.heap.objs.size bn xs lx (by omega) (fun i v hv => SS.strs_at txt i v (by rw [Array.getElem?_toList]; exact hv)) (its.size - 0) 0 _ (by omega) (Nat.zero_le _) ⟨⟨_, Heap.get?_push_size _ rfl, rfl, rfl⟩, tl1.push _⟩ ?z1 ?z2
        case z1 =>
          refine SetOf_congr ((setObjOf_fresh (knd := PySem.strKind prog w) led).setOf (Heap.get?_push_of_some _ at0) ?_) (fun _ => rfl) rfl
          unfold scanBound
          omega
        case z2 =>
          rintro ⟨h2, g2, d2, k2, o2⟩ mv sO
          cases (show g2 = s.gens from mv.gens)
          cases (show d2 = s.drawn from mv.drawn)
          cases (show o2 = s.os from mv.os)
          show wpAny _ _ _ _ _ _
          refine wpAny_pure ?_
          show wpAny _ _ (ret Value.none) _ _ _
          refine wpAny_pure ⟨rfl, h2, k2, rfl, sO, fun b o hb e => mv.heap b o ?_ (Heap.get?_push_of_some _ (Heap.get?_push_of_some _ e))⟩
          rw [Heap.size_push]
          intro z
          rcases List.mem_cons.mp z with z | z
          · exact absurd z (Nat.ne_of_lt hb)
          · exact absurd (List.mem_singleton.mp z) (Nat.ne_of_lt (Nat.lt_succ_of_lt hb))
      · cases r2 with
        | error e => exact hr2
        | ok fl2 =>
          cases fl2 with
          | ret r =>
            obtain ⟨rfl, h2, tk, rfl, sO, kp⟩ := hr2
            repeat any_goals first | assumption | wp_step
            exact q _ _ sO kp
          | _ => exact hr2.elim
    | _ => exact hr.elim
end
open L2
/-- len(set(xs)), xs a tuple of texts -/
def tLset (K : PySem.W.Frag) (ta : TE) : TE := fun σ H Q => ta σ H fun x H1 => ∃ (l : Addr) (xs : List Str), x = .ref l ∧ SqT K H1 l (xs.map V.str) ∧ xs.length ≤ 1000 ∧ Q (.int (met xs).length) H1
theorem pe_lset {X : Cx} {a : Expr} {ta : TE} {p p2 q pos : Pos} (calm : X.calm = true) (g1 : Gl X "len") (m1 : X.mg "len" = none) (g2 : Gl X "set") (m2 : X.mg "set" = none) (ha : PE X a ta)
    (na : starEach [a] X.env = (false, eval a X.env) :: starEach [] X.env) : PE X (.Call (.Name "len" p) [.Call (.Name "set" p2) [a] [] q] [] pos) (tLset X.K ta) := by
  refine ⟨fun pins s σ H Q I h => Call_ (ld_blt I g1 m1 boot_len ?_)⟩
  refine PyProof.Rows.callWith_builtin1 (PyProof.Rows.args_cons ?_ rfl) rfl rfl
  refine Call_ (ld_blt I g2 m2 boot_set ?_)
  refine PyProof.Rows.callWith_type1 (PyProof.Rows.args_cons (thn (ha.run pins s σ H _ I h) fun v s1 ⟨x, H1, I1, r1, q1⟩ => PyProof.Rows.args_nil ?_) na) na rfl
  obtain ⟨l, xs, rfl, sq, hl, q1⟩ := q1
  cases r1
  obtain ⟨its, r, pl, hz⟩ := I1.tuple sq
  refine setOfTuple (I1.ok.hd calm) pl (by simpa using strsAre_of r) (by unfold scanBound; omega) fun h2 tk sO kp => PyProof.Rows.args_nil ?_
  obtain ⟨o, es, ep, t, ho, hex, hd, _, _, _, hf, hn⟩ := sO
  have I2 : Inv X pins σ H1 { s1 with heap := h2, toks := tk } := I1.kept fun b o e => kp b o (Heap.lt_size e) e
  have := met_le xs
  exact call_len_set ho hex hd hf (by rw [hn]; omega) ⟨.int (met xs).length, H1, I2.tok _, ⟨_, by rw [hn]⟩, q1⟩
end ML

/-! try .. except C as e: .. where the caught error is kept beyond the clause -/
namespace ML
open PySem PySem.Spec PyProof.Rows L2
def ExK (cls : Value) (d : Option Addr) (a : Addr) : HO := .ext fun h => ∃ (oe : Obj) (vs : Array Value), h.get? a = some oe ∧ Zc cls d oe ∧ oe.data = .fields vs
section
variable {X : Cx} {pins : List (Addr × Obj)} {σ : L2.St} {H : Hp} {s : Shared} {a : Addr} {oe : Obj} {vs : Array Value} {cls : Value} {d : Option Addr}
/-- an object beside the tracked ones comes to be tracked -/
theorem inv_take (I : Inv X ((a, oe) :: pins) σ H s) (hz : Zc cls d oe) (hd : oe.data = .fields vs) (h0 : X.s_0.heap.get? a = none) (hp : ∀ p ∈ X.pn ++ pins, p.1 ≠ a) : Inv X pins σ (upd H a (ExK cls d a)) s := by
  obtain ⟨p1, p2, p3, p4, p5⟩ := I.pin (a, oe) (List.mem_append_right _ (List.mem_cons_self ..))
  have ne : ∀ {b : Addr} {o : HO}, H b = some o → b ≠ a := fun {b o} q z => by rw [z] at q; rw [show H a = none from p2] at q; cases q
  refine ⟨I.ok, I.os, I.bare, ?_, I.loc, I.cell, ?_, fun x c q => ?_, fun p hm => ?_, fun b o q => ?_, I.len⟩
  · have U := I.base
    exact ⟨U.keep, U.slot, fun b o q n hx => by rw [upd_ne (fun z => by rw [z] at q; rw [h0] at q; cases q)]; exact U.free b o q n hx, U.there,
      fun b xs q => by rw [upd_ne (ne (U.tups b xs q))]; exact U.tups b xs q, fun b o u q => by rw [upd_ne (ne (U.frzs b o u q))]; exact U.frzs b o u q,
      fun b ps q => by
        obtain ⟨m, e⟩ := U.tbls b ps q
        exact ⟨m, by rw [upd_ne (ne e)]; exact e⟩⟩
  · rw [upd_ne (Ne.symm p3)]
    exact I.free
  · rw [upd_ne (fun z => ?_)]
    · exact I.freeC x c q
    · obtain ⟨v, hv⟩ := I.cell x c q
      rw [z] at hv
      obtain ⟨o, e1, e2⟩ := hv
      rw [show s.heap.get? a = some oe from p1] at e1
      cases e1
      exact p5 _ (by first | exact e2 | exact e2.1 | exact e2.2)
  · have hm' : p ∈ X.pn ++ (a, oe) :: pins := by
      rcases List.mem_append.mp hm with h | h
      · exact List.mem_append_left _ h
      · exact List.mem_append_right _ (List.mem_cons_of_mem _ h)
    obtain ⟨q1, q2, q3⟩ := I.pin p hm'
    exact ⟨q1, by rw [upd_ne (hp p hm)]; exact q2, q3⟩
  · by_cases hb : b = a
    · subst hb
      rw [upd_same] at q
      cases q
      exact ⟨⟨oe, vs, p1, hz, hd⟩, ⟨oe, p1⟩, fun h1 h2 ⟨o, w, e, z1, z2⟩ k => ⟨o, w, k o e, z1, z2⟩⟩
    · rw [upd_ne hb] at q
      exact (I.hok b o q).stay (fun c u _ r => r) (fun c r => by rw [upd_ne (ne r)]; exact r) fun c xs r => by rw [upd_ne (ne r)]; exact r
end
/-- what the clause asks of an error of the body -/
def wKeep (K : PySem.W.Frag) (c : Value) (i : Nat) (ts : Addr → Value → Option Addr → TS) (Wout : WX) (D : Ends) : WX := fun cls d σ H =>
  ∃ b, PySem.W.exmOne K cls c = some b ∧
    (b = true → ∀ a, H a = none → ts a cls d { nx := fun σ' H' => D.nx (σ'.set i none) (upd H' a (ExK cls d a)), rt := fun v H' => D.rt v (upd H' a (ExK cls d a)), bk := fun σ' H' => D.bk (σ'.set i none) (upd H' a (ExK cls d a)), ct := fun σ' H' => D.ct (σ'.set i none) (upd H' a (ExK cls d a)) } (σ.set i (some (.ref a))) H) ∧
    (b = false → Wout cls d σ H)
section
variable {X : Cx} {x n : Str} {c : Value} {i : Nat} {body rest : List Stmt} {st : Stmt} {np pos pos' : Pos} {tb : WX → TS} {ts : Addr → Value → Option Addr → TS} {Wout : WX}
theorem ps_try_keep (hs : X.stack = X.env :: X.outer) (hf : X.env.frame = some X.env.locals) (hex : X.ex = []) (hN : X.N.Nodup) (hi : X.N[i]? = some n) (hln : X.env.kindOf n = some .local) (hc : Names X x c) (tk : Takes X Wout)
    (hb : ∀ (W : WX) (pn : List (Addr × Obj)) (xe : Value → Shared → Prop), Takes (X.tr pn xe) W → PassesOwn (model X.prog X.w) X.A X.env xe → PSs (X.tr pn xe) body (tb W))
    (hsu : ∀ (a : Addr) (oe : Obj) (cls : Value) (d : Option Addr) (pn : List (Addr × Obj)), Zc cls d oe → (∃ vs, oe.data = .fields vs) → PSs (X.suite a ((a, oe) :: pn)) (st :: rest) (ts a cls d)) :
    PS X (.Try body [.ExceptHandler (some (.Name x np)) (some n) (st :: rest) pos'] [] [] pos) (fun D σ H => tb (wKeep X.K c i ts Wout D) D σ H) := by
  refine ⟨fun pins s σ H D I h => wpAny_Try_except ?_⟩
  have ok := I.ok
  have fr : X.A.frames = some (X.env :: X.outer) := by rw [ok.frames, hs]
  refine wpAny_mono ((hb (wKeep X.K c i ts Wout D) (X.pn ++ pins) _ (fun u s' xx => ?caught) PassesOwn.looking).run [] s σ H D (I.toTry _) h) (fun f s1 sp => ?through) (fun e s1 he => he)
  case caught =>
    obtain ⟨a, B, sI, pins', σ1, H1, cls, d, rfl, J', nb, up, sky, na, os, ag, b, e1, yes, no⟩ := xx
    have J : Inv X pins σ1 H1 sI := J'.ofTry ok
    rw [show (X.tr (X.pn ++ pins) _).stack = X.env :: X.outer from hs] at sky
    show wpAny (model X.prog X.w) X.A (noteFrame (.ref a) X.env) _ _ _
    refine Sky.land Zc.steady fr hf sky fun h3 F3 up3 => ?_
    have J3 : Inv X pins σ1 H1 { s' with heap := h3 } := J.landed nb F3.1 (up.trans up3) os ag
    obtain ⟨o3, v3, g3, z3, d3⟩ := F3.there
    have nfr : a ∉ frs (X.env :: X.outer) := fun hm => by
      obtain ⟨_, o', e', hnf⟩ := F3.2.2.1.mem hm
      rw [g3] at e'
      cases e'
      exact hnf _ d3
    have nL : a ≠ X.env.locals := fun z => nfr (List.mem_filterMap.mpr ⟨X.env, List.mem_cons_self, by rw [hf, z]⟩)
    have nF : a ∉ X.fs := fun hm => by
      obtain ⟨e, he, q⟩ := List.mem_filterMap.mp hm
      exact nfr (List.mem_filterMap.mpr ⟨e, List.mem_cons_of_mem _ he, q⟩)
    have fresh : sI.heap.get? a = none := by
      cases q : sI.heap.get? a with
      | none => rfl
      | some o =>
        have z := nb a o q (by rw [show frs (X.tr (X.pn ++ pins) _).stack = frs (X.env :: X.outer) from by rw [show (X.tr (X.pn ++ pins) _).stack = X.env :: X.outer from hs]]; exact nfr)
        rw [F3.2.1] at z
        cases z
    have h0 : X.s_0.heap.get? a = none := by
      cases q : X.s_0.heap.get? a with
      | none => rfl
      | some o =>
        obtain ⟨o', z⟩ := J.base.there a o q (by rw [hex]; exact List.not_mem_nil)
        rw [fresh] at z
        cases z
    have hp : ∀ p ∈ X.pn ++ pins, p.1 ≠ a := fun p hm z => by
      have q := (J.pin p hm).1
      rw [z, fresh] at q
      cases q
    have S3 := J3.suite g3 d3 na nL nF
    refine wpAny_handleBy_cons (codeAny_handlers_test ?_) (by intro q; cases q)
    have LT : PySem.W.Looks (model X.prog X.w) h3 (typeOf (.ref a)) cls := fun A Q E s k q => wpAny_typeOf_ref (k _ _ g3) (by rw [z3.1]; exact q)
    have LM := PySem.W.exm_one (M := model X.prog X.w) J3.kIn LT e1
    have ask : ∀ {Q : Value → Shared → Prop} {E : Value → Shared → Prop}, Q c { s' with heap := h3 } → wpAny (model X.prog X.w) (X.A.mark (some (.ref a))) (eval (.Name x np) X.env) Q E { s' with heap := h3 } := fun {Q E} q => by
      obtain ⟨hg, hdb, hm | ⟨hm, hv, hnn⟩⟩ := hc
      · exact ld_glob (X := X.suite a ((a, o3) :: (X.pn ++ pins))) S3 hg hm q hdb
      · exact ld_blt (X := X.suite a ((a, o3) :: (X.pn ++ pins))) S3 hg hm hv q hnn hdb
    refine ask (LM.here ?_)
    cases b with
    | true =>
      refine codeAny_handlers_suite_as (HandSPX.lands_againZ F3 fun h4 F4 up4 => ?_)
      have J4 : Inv X pins σ1 H1 { s' with heap := h4 } := J.landed nb F4.1 ((up.trans up3).trans up4) os ag
      obtain ⟨o4, v4, g4, z4, d4⟩ := F4.there
      have S4 := J4.suite g4 d4 na nL nF
      refine store_ok (X := X.suite a ((a, o4) :: (X.pn ++ pins))) (v := .ref a) S4 hN hi (.inl hln) rfl (fun s5 S5 => ?_) (.inr hln)
      refine wpAny_mono ((hsu a o4 cls d (X.pn ++ pins) z4 ⟨_, d4⟩).run [] s5 _ H1 _ S5 (yes rfl a na)) (fun f s6 sp => ?_) (fun _ _ z => False.elim z)
      have goes : ∀ {σ6 : L2.St} {H6 : Hp} {Q : Shared → Prop}, Inv (X.suite a ((a, o4) :: (X.pn ++ pins))) [] σ6 H6 s6 → (∀ s7, Inv X pins (σ6.set i none) (upd H6 a (ExK cls d a)) s7 → Q s7) →
          wpAny (model X.prog X.w) X.A (do bindName X.env n .none; unbindBehindTheSuite X.env n pos') (fun _ s7 => Q s7) X.xe s6 := fun {σ6 H6 Q} S6 hq => by
        have I6 : Inv X ((a, o4) :: pins) σ6 H6 s6 := ⟨ok, S6.os, S6.bare, S6.base, S6.loc, S6.cell, S6.free, S6.freeC, fun p hm => S6.pin p (by
          rw [List.append_nil]
          rcases List.mem_append.mp hm with z | z
          · exact List.mem_cons_of_mem _ (List.mem_append_left _ z)
          · rcases List.mem_cons.mp z with z | z
            · rw [z]; exact List.mem_cons_self
            · exact List.mem_cons_of_mem _ (List.mem_append_right _ z)), S6.hok, S6.len⟩
        exact gone_ok I6 hN hi hln fun s7 J7 => hq s7 (inv_take J7 z4 d4 h0 hp)
      cases f with
      | next => obtain ⟨σ6, H6, S6, q6⟩ := sp; exact goes S6 fun s7 J7 => ⟨_, _, J7, q6⟩
      | brk => obtain ⟨σ6, H6, S6, q6⟩ := sp; exact goes S6 fun s7 J7 => ⟨_, _, J7, q6⟩
      | cont => obtain ⟨σ6, H6, S6, q6⟩ := sp; exact goes S6 fun s7 J7 => ⟨_, _, J7, q6⟩
      | ret u => obtain ⟨v6, σ6, H6, S6, r6, q6⟩ := sp; exact goes S6 fun s7 J7 => ⟨_, _, _, J7, r6, q6⟩
    | false =>
      show wpAny _ X.A (handleBy (.ref a) X.env []) _ _ _
      refine wpAny_handleBy_nil ?_
      obtain ⟨_, _, _, o5, v5, T, oT, ts', g5, _, d5, t5, _⟩ := id F3
      unfold PySem.passOn
      refine wpAny_bind (wpAny_field g5 d5 t5 ?_)
      rw [if_neg (show ¬ ((Value.ref T == Value.none) = true) from by simp)]
      have up_ : wpAny (model X.prog X.w) X.A (setFlight (.ref a) X.env.frame) (fun _ s4 => wpAny (model X.prog X.w) X.A (throw (.ref a) : Sem Flow) (SP X pins D) X.xe s4) X.xe { s' with heap := h3 } := by
        rw [hf]
        refine HandSPX.setFlight_upZ F3 fun h4 F4 up4 => wpAny_throw (tk _ _ ?_)
        exact ⟨a, B, sI, pins, σ1, H1, cls, d, rfl, J, nb, (up.trans up3).trans up4, .inr (.inr (by rw [hs]; exact F4)), na, os, ag, no rfl⟩
      first
        | exact wpAny_bind (wpAny_pure (wpAny_bind up_))
        | exact wpAny_bind up_
  case through =>
    cases f with
    | next => obtain ⟨σ', H', J', q⟩ := sp; exact wpAny_execs_nil ⟨σ', H', J'.ofTry ok, q⟩
    | brk => obtain ⟨σ', H', J', q⟩ := sp; exact ⟨σ', H', J'.ofTry ok, q⟩
    | cont => obtain ⟨σ', H', J', q⟩ := sp; exact ⟨σ', H', J'.ofTry ok, q⟩
    | ret u => obtain ⟨v, σ', H', J', r, q⟩ := sp; exact ⟨v, σ', H', J'.ofTry ok, r, q⟩
end
/-- isinstance(x, c), x a tracked error -/
def rIsX (K : PySem.W.Frag) : List V → Hp → VK → Prop := fun xs H Q => ∃ (a C : Addr) (c : V) (u : Value) (b : Bool), xs = [.ref a, c] ∧ ClsV c u ∧ H a = some (ExK (.ref C) none a) ∧ ExcC K C ∧ PySem.W.kitOne K (.ref C) u = some b ∧ Q (.bl b) H
theorem call_isX {X : Cx} : CallR X (.builtin "isinstance") (rIsX X.K) := by
  intro pins s σ H xs us Q I r h
  obtain ⟨a, C, c, u, b, rfl, k, ha, ec, e, q⟩ := h
  obtain ⟨u1, u2, rfl, r1, r2⟩ := vals2 r
  have e2 := k.eq r2
  subst e2
  cases (show u1 = Value.ref a from r1)
  obtain ⟨⟨oe, vs, g, hz, hd⟩, _⟩ := (show ObjOk X.prog X.w H s.heap a (ExK (.ref C) none a) from I.hok a _ ha)
  have J : PySem.W.InstAt s.heap a oe C none := by
    obtain ⟨oc, od, oda, osl⟩ := oe
    obtain ⟨h1, h2⟩ := hz
    dsimp only at h1 h2 hd
    subst h1 h2 hd
    exact ⟨g, rfl, rfl, trivial⟩
  exact PySem.W.kia_one (PySem.W.handS_kitx_exc ec.hg ec.hk ec.hs ec.hd ec.ha ec.hn ec.ht ec.hm) I.kIn J e (fun z => nomatch z) fun tk => ⟨.bl b, H, I.tok tk, rfl, q⟩
end ML

/-! The data that the programs work on, the store of what may change, and how both stand in HandS's heap. -/
namespace ML
open PySem L2

inductive D where
  | non | bl (b : Bool) | int (i : Int) | str (s : Str)
  | tup (xs : List D) | lst (xs : List D) | cst (xs : List D)
  | loc (n : Nat)
  | exn (c : Str)

/-- what may change -/
inductive Ob where
  | lst (xs : List D)
  | dct (kvs : List (Key × D))
  | ins (c : Str) (fs : List (Str × D))

structure Store where
  nx : Nat
  ob : Nat → Option Ob

/-- the world around: the written part, the addresses of the program's classes -/
structure Wd where
  K : PySem.W.Frag
  cl : Str → Option Addr

/-- what is frozen; where each place of the store lies -/
structure Gh where
  F : Hp
  ι : Nat → Addr
  nx : Nat

structure Gh.Le (g g' : Gh) : Prop where
  F : ∀ a o, g.F a = some o → g'.F a = some o
  nx : g.nx ≤ g'.nx
  ι : ∀ n, n < g.nx → g'.ι n = g.ι n
theorem Gh.Le.refl (g : Gh) : g.Le g := ⟨fun _ _ h => h, Nat.le_refl _, fun _ _ => rfl⟩
theorem Gh.Le.trans {a b c : Gh} (h : a.Le b) (k : b.Le c) : a.Le c :=
  ⟨fun x o q => k.F x o (h.F x o q), Nat.le_trans h.nx k.nx, fun n q => (k.ι n (Nat.lt_of_lt_of_le q h.nx)).trans (h.ι n q)⟩

/-- a caught error of the class at C -/
def ExH (C a : Addr) : HO := .ext fun h => ∃ (oe : Obj) (vs : Array Value), h.get? a = some oe ∧ Zc (.ref C) none oe ∧ oe.data = .fields vs

mutual
inductive Rl (w : Wd) (g : Gh) : D → V → Prop
  | non : Rl w g .non .non
  | bl (b : Bool) : Rl w g (.bl b) (.bl b)
  | int (i : Int) : Rl w g (.int i) (.int i)
  | str (x : Str) : Rl w g (.str x) (.str x)
  | tup {a : Addr} {xs : List V} {ds : List D} : SqT w.K g.F a xs → Rls w g ds xs → Rl w g (.tup ds) (.ref a)
  | lst {a : Addr} {xs : List V} {ds : List D} : g.F a = some (.lst xs) → Rls w g ds xs → Rl w g (.lst ds) (.ref a)
  | cst {a : Addr} {xs : List V} {ds : List D} : SqL w.K g.F a xs → Rls w g ds xs → Rl w g (.cst ds) (.ref a)
  | loc {n : Nat} : n < g.nx → Rl w g (.loc n) (.ref (g.ι n))
  | exn {c : Str} {C a : Addr} : w.cl c = some C → g.F a = some (ExH C a) → Rl w g (.exn c) (.ref a)
inductive Rls (w : Wd) (g : Gh) : List D → List V → Prop
  | nil : Rls w g [] []
  | cons {d : D} {v : V} {ds : List D} {vs : List V} : Rl w g d v → Rls w g ds vs → Rls w g (d :: ds) (v :: vs)
end

theorem sqT_le {K : PySem.W.Frag} {F F' : Hp} {a : Addr} {xs : List V} (h : ∀ a o, F a = some o → F' a = some o) (s : SqT K F a xs) : SqT K F' a xs := by
  rcases s with (s | ⟨o, s⟩) | s
  · exact .inl (.inl (h _ _ s))
  · exact .inl (.inr ⟨o, h _ _ s⟩)
  · exact .inr s
theorem sqL_le {K : PySem.W.Frag} {F F' : Hp} {a : Addr} {xs : List V} (h : ∀ a o, F a = some o → F' a = some o) (s : SqL K F a xs) : SqL K F' a xs := by
  rcases s with (s | ⟨o, s⟩) | s
  · exact .inl (.inl (h _ _ s))
  · exact .inl (.inr ⟨o, h _ _ s⟩)
  · exact .inr s

mutual
theorem Rl.mono {w : Wd} {g g' : Gh} (l : g.Le g') : ∀ {d : D} {v : V}, Rl w g d v → Rl w g' d v
  | _, _, .non => .non
  | _, _, .bl b => .bl b
  | _, _, .int i => .int i
  | _, _, .str x => .str x
  | _, _, .tup s r => .tup (sqT_le l.F s) (Rls.mono l r)
  | _, _, .lst s r => .lst (l.F _ _ s) (Rls.mono l r)
  | _, _, .cst s r => .cst (sqL_le l.F s) (Rls.mono l r)
  | _, _, .loc (n := n) h => by rw [← l.ι n h]; exact .loc (Nat.lt_of_lt_of_le h l.nx)
  | _, _, .exn h q => .exn h (l.F _ _ q)
theorem Rls.mono {w : Wd} {g g' : Gh} (l : g.Le g') : ∀ {ds : List D} {vs : List V}, Rls w g ds vs → Rls w g' ds vs
  | _, _, .nil => .nil
  | _, _, .cons r t => .cons (Rl.mono l r) (Rls.mono l t)
end
theorem Rls.length {w : Wd} {g : Gh} : ∀ {ds : List D} {vs : List V}, Rls w g ds vs → ds.length = vs.length
  | _, _, .nil => rfl
  | _, _, .cons _ t => by simp [Rls.length t]
theorem Rls.get {w : Wd} {g : Gh} : ∀ {ds : List D} {vs : List V} {i : Nat} {d : D}, Rls w g ds vs → ds[i]? = some d → ∃ v, vs[i]? = some v ∧ Rl w g d v
  | _, _, i, _, .nil, e => by simp at e
  | _, _, 0, _, .cons r _, e => by simp at e; subst e; exact ⟨_, rfl, r⟩
  | _, _, i + 1, d, .cons _ t, e => by
    obtain ⟨v, h1, h2⟩ := Rls.get (i := i) (d := d) t (by simpa using e)
    exact ⟨v, by simpa using h1, h2⟩
theorem Rls.getV {w : Wd} {g : Gh} : ∀ {ds : List D} {vs : List V} {i : Nat} {v : V}, Rls w g ds vs → vs[i]? = some v → ∃ d, ds[i]? = some d ∧ Rl w g d v
  | _, _, i, _, .nil, e => by simp at e
  | _, _, 0, _, .cons r _, e => by simp at e; subst e; exact ⟨_, rfl, r⟩
  | _, _, i + 1, d, .cons _ t, e => by
    obtain ⟨v, h1, h2⟩ := Rls.getV (i := i) (v := d) t (by simpa using e)
    exact ⟨v, by simpa using h1, h2⟩
theorem Rls.append {w : Wd} {g : Gh} : ∀ {ds es : List D} {vs us : List V}, Rls w g ds vs → Rls w g es us → Rls w g (ds ++ es) (vs ++ us)
  | _, _, _, _, .nil, s => s
  | _, _, _, _, .cons r t, s => .cons r (Rls.append t s)
theorem Rls.take {w : Wd} {g : Gh} : ∀ {ds : List D} {vs : List V} (n : Nat), Rls w g ds vs → Rls w g (ds.take n) (vs.take n)
  | _, _, 0, _ => .nil
  | _, _, _ + 1, .nil => .nil
  | _, _, n + 1, .cons r t => .cons r (Rls.take n t)
theorem Rls.drop {w : Wd} {g : Gh} : ∀ {ds : List D} {vs : List V} (n : Nat), Rls w g ds vs → Rls w g (ds.drop n) (vs.drop n)
  | _, _, 0, r => r
  | _, _, _ + 1, .nil => .nil
  | _, _, n + 1, .cons _ t => Rls.drop n t
theorem Rls.set {w : Wd} {g : Gh} {d : D} {v : V} (r : Rl w g d v) : ∀ {ds : List D} {vs : List V} (i : Nat), Rls w g ds vs → Rls w g (ds.set i d) (vs.set i v)
  | _, _, _, .nil => .nil
  | _, _, 0, .cons _ t => .cons r t
  | _, _, i + 1, .cons q t => .cons q (Rls.set r i t)
theorem Rls.reverse {w : Wd} {g : Gh} : ∀ {ds : List D} {vs : List V}, Rls w g ds vs → Rls w g ds.reverse vs.reverse
  | _, _, .nil => .nil
  | _, _, .cons r t => by
    rw [List.reverse_cons, List.reverse_cons]
    exact (Rls.reverse t).append (.cons r .nil)

def KRl (w : Wd) (g : Gh) : List (Key × D) → List (Key × V) → Prop := Paired fun p q => p.1 = q.1 ∧ Rl w g p.2 q.2
def FRl (w : Wd) (g : Gh) : List (Str × D) → List (Str × V) → Prop := Paired fun p q => p.1 = q.1 ∧ Rl w g p.2 q.2
theorem KRl.mono {w : Wd} {g g' : Gh} (l : g.Le g') {a : List (Key × D)} {b : List (Key × V)} (h : KRl w g a b) : KRl w g' a b := Paired.mapP h fun _ _ z => ⟨z.1, z.2.mono l⟩
theorem FRl.mono {w : Wd} {g g' : Gh} (l : g.Le g') {a : List (Str × D)} {b : List (Str × V)} (h : FRl w g a b) : FRl w g' a b := Paired.mapP h fun _ _ z => ⟨z.1, z.2.mono l⟩

def RlO (w : Wd) (g : Gh) : Ob → Option HO → Prop
  | .lst ds, h => ∃ xs, h = some (.lst xs) ∧ Rls w g ds xs
  | .dct kvs, h => ∃ ps, h = some (.dK ps) ∧ KRl w g kvs ps
  | .ins c fs, h => ∃ C dx ps, w.cl c = some C ∧ h = some (.ins C dx ps) ∧ FRl w g fs ps
theorem RlO.mono {w : Wd} {g g' : Gh} (l : g.Le g') {o : Ob} {h : Option HO} (r : RlO w g o h) : RlO w g' o h := by
  cases o with
  | lst ds => obtain ⟨xs, e, r⟩ := r; exact ⟨xs, e, r.mono l⟩
  | dct kvs => obtain ⟨xs, e, r⟩ := r; exact ⟨xs, e, r.mono l⟩
  | ins c fs => obtain ⟨C, dx, xs, e1, e, r⟩ := r; exact ⟨C, dx, xs, e1, e, r.mono l⟩

structure Ok (w : Wd) (g : Gh) (S : Store) (H : Hp) : Prop where
  sub : ∀ a o, g.F a = some o → H a = some o
  nx : S.nx = g.nx
  inj : ∀ m n, m < g.nx → n < g.nx → g.ι m = g.ι n → m = n
  use : ∀ n, n < g.nx → H (g.ι n) ≠ none
  lt : ∀ n o, S.ob n = some o → n < g.nx
  fr : ∀ n o, S.ob n = some o → g.F (g.ι n) = none
  ob : ∀ n o, S.ob n = some o → RlO w g o (H (g.ι n))

section
variable {w : Wd} {g : Gh} {S : Store} {H : Hp}
theorem Ok.none (k : Ok w g S H) {p : Addr} (h : H p = Option.none) : g.F p = Option.none := by
  cases e : g.F p with
  | none => rfl
  | some o => rw [k.sub p o e] at h; cases h
theorem Ok.sqL (k : Ok w g S H) {a : Addr} {xs : List V} (s : SqL w.K g.F a xs) : SqL w.K H a xs := sqL_le k.sub s
theorem Ok.sqT (k : Ok w g S H) {a : Addr} {xs : List V} (s : SqT w.K g.F a xs) : SqT w.K H a xs := sqT_le k.sub s

/-- one frozen thing more -/
def Gh.add (g : Gh) (p : Addr) (o : HO) : Gh := { g with F := upd g.F p o }
theorem Gh.add_le {p : Addr} {o : HO} (h : g.F p = Option.none) : g.Le (g.add p o) :=
  ⟨fun a u e => by show upd g.F p o a = some u; rw [upd_ne (ne_of_none e h)]; exact e, Nat.le_refl _, fun _ _ => rfl⟩
theorem Ok.addF (k : Ok w g S H) {p : Addr} {o : HO} (h : H p = Option.none) : Ok w (g.add p o) S (upd H p o) := by
  have hn := k.none h
  have ne : ∀ n, n < g.nx → g.ι n ≠ p := fun n q z => k.use n q (by rw [z]; exact h)
  refine ⟨fun a u e => ?_, k.nx, k.inj, fun n q => ?_, k.lt, fun n u e => ?_, fun n u e => ?_⟩
  · have e' : upd g.F p o a = some u := e
    by_cases c : a = p
    · subst c; rw [upd_same] at e' ⊢; exact e'
    · rw [upd_ne c] at e' ⊢; exact k.sub a u e'
  · show upd H p o (g.ι n) ≠ Option.none
    rw [upd_ne (ne n q)]; exact k.use n q
  · show upd g.F p o (g.ι n) = Option.none
    rw [upd_ne (ne n (k.lt n u e))]; exact k.fr n u e
  · show RlO w (g.add p o) u (upd H p o (g.ι n))
    rw [upd_ne (ne n (k.lt n u e))]; exact (k.ob n u e).mono (Gh.add_le hn)

/-- one place of the store more -/
def Gh.put (g : Gh) (p : Addr) : Gh := { g with ι := fun n => if n = g.nx then p else g.ι n, nx := g.nx + 1 }
def Store.new (S : Store) (o : Ob) : Store := ⟨S.nx + 1, fun n => if n = S.nx then some o else S.ob n⟩
def Store.set (S : Store) (m : Nat) (o : Ob) : Store := ⟨S.nx, fun n => if n = m then some o else S.ob n⟩
/-- the list at m is frozen: nothing writes it any more -/
def Store.del (S : Store) (m : Nat) : Store := ⟨S.nx, fun n => if n = m then Option.none else S.ob n⟩
theorem Gh.put_le {p : Addr} : g.Le (g.put p) :=
  ⟨fun _ _ e => e, Nat.le_succ _, fun n q => by show (if n = g.nx then p else g.ι n) = g.ι n; rw [if_neg (Nat.ne_of_lt q)]⟩
theorem Gh.put_ι {p : Addr} : (g.put p).ι g.nx = p := by show (if g.nx = g.nx then p else _) = p; rw [if_pos rfl]
theorem Ok.addS (k : Ok w g S H) {p : Addr} {o : Ob} {h : HO} {H' : Hp} (hp : H p = Option.none) (keep : ∀ a u, H a = some u → H' a = some u) (hh : H' p = some h) (r : RlO w (g.put p) o (some h)) : Ok w (g.put p) (S.new o) H' := by
  have ne : ∀ n, n < g.nx → g.ι n ≠ p := fun n q z => k.use n q (by rw [z]; exact hp)
  have ι1 : ∀ n, n < g.nx → (g.put p).ι n = g.ι n := Gh.put_le.ι
  have keepS : ∀ n, n < g.nx → ∃ u, H (g.ι n) = some u ∧ H' (g.ι n) = some u := fun n q => by
    cases e : H (g.ι n) with
    | none => exact absurd e (k.use n q)
    | some u => exact ⟨u, rfl, keep _ _ e⟩
  have cs : ∀ n, n < g.nx + 1 → n < g.nx ∨ n = g.nx := fun n q => by omega
  refine ⟨fun a u e => keep a u (k.sub a u e), by show S.nx + 1 = g.nx + 1; rw [k.nx], fun m n hm hn e => ?_, fun n hn => ?_, fun n u e => ?_, fun n u e => ?_, fun n u e => ?_⟩
  · rcases cs m hm with hm | rfl
    · rcases cs n hn with hn | rfl
      · rw [ι1 m hm, ι1 n hn] at e; exact k.inj m n hm hn e
      · rw [ι1 m hm, Gh.put_ι] at e; exact absurd e (ne m hm)
    · rcases cs n hn with hn | rfl
      · rw [ι1 n hn, Gh.put_ι] at e; exact absurd e.symm (ne n hn)
      · rfl
  · rcases cs n hn with hn | rfl
    · rw [ι1 n hn]
      obtain ⟨u, _, e⟩ := keepS n hn
      rw [e]; exact fun z => nomatch z
    · rw [Gh.put_ι, hh]; exact fun z => nomatch z
  · have e' : (if n = S.nx then some o else S.ob n) = some u := e
    by_cases c : n = S.nx
    · show n < g.nx + 1
      rw [c, k.nx]; exact Nat.lt_succ_self _
    · rw [if_neg c] at e'
      exact Nat.lt_succ_of_lt (k.lt n u e')
  · have e' : (if n = S.nx then some o else S.ob n) = some u := e
    show g.F ((g.put p).ι n) = Option.none
    by_cases c : n = S.nx
    · rw [c, k.nx, Gh.put_ι]; exact k.none hp
    · rw [if_neg c] at e'
      rw [ι1 n (k.lt n u e')]; exact k.fr n u e'
  · have e' : (if n = S.nx then some o else S.ob n) = some u := e
    by_cases c : n = S.nx
    · rw [if_pos c] at e'
      cases e'
      rw [c, k.nx, Gh.put_ι, hh]; exact r
    · rw [if_neg c] at e'
      have q := k.lt n u e'
      rw [ι1 n q]
      obtain ⟨v, e1, e2⟩ := keepS n q
      have z := (k.ob n u e').mono (Gh.put_le (p := p))
      rw [e1] at z; rw [e2]; exact z
/-- a place of the store is written -/
theorem Ok.setS (k : Ok w g S H) {m : Nat} {o o' : Ob} {h : HO} (e : S.ob m = some o) (r : RlO w g o' (some h)) : Ok w g (S.set m o') (upd H (g.ι m) h) := by
  have hm := k.lt m o e
  have nF := k.fr m o e
  refine ⟨fun a u q => ?_, k.nx, k.inj, fun n q => ?_, fun n u q => ?_, fun n u q => ?_, fun n u q => ?_⟩
  · rw [upd_ne (ne_of_none q nF)]; exact k.sub a u q
  · by_cases c : g.ι n = g.ι m
    · rw [c, upd_same]; exact fun z => nomatch z
    · rw [upd_ne c]; exact k.use n q
  · have q' : (if n = m then some o' else S.ob n) = some u := q
    by_cases c : n = m
    · rw [c]; exact hm
    · rw [if_neg c] at q'; exact k.lt n u q'
  · have q' : (if n = m then some o' else S.ob n) = some u := q
    by_cases c : n = m
    · rw [c]; exact nF
    · rw [if_neg c] at q'; exact k.fr n u q'
  · have q' : (if n = m then some o' else S.ob n) = some u := q
    by_cases c : n = m
    · rw [if_pos c] at q'; cases q'
      rw [c, upd_same]; exact r
    · rw [if_neg c] at q'
      have hn := k.lt n u q'
      rw [upd_ne (fun z => c (k.inj n m hn hm z))]
      exact k.ob n u q'
/-- a list of the store is frozen -/
theorem Ok.frz (k : Ok w g S H) {m : Nat} {o : Ob} {h : HO} (e : S.ob m = some o) (hh : H (g.ι m) = some h) : g.Le (g.add (g.ι m) h) ∧ Ok w (g.add (g.ι m) h) (S.del m) H := by
  have hm := k.lt m o e
  have le : g.Le (g.add (g.ι m) h) := Gh.add_le (k.fr m o e)
  refine ⟨le, fun a u q => ?_, k.nx, k.inj, k.use, fun n u q => ?_, fun n u q => ?_, fun n u q => ?_⟩
  · have q' : upd g.F (g.ι m) h a = some u := q
    by_cases c : a = g.ι m
    · rw [c, upd_same] at q'; cases q'; rw [c]; exact hh
    · rw [upd_ne c] at q'; exact k.sub a u q'
  all_goals
    have q' : (if n = m then Option.none else S.ob n) = some u := q
    have c : n ≠ m := fun c => by rw [if_pos c] at q'; cases q'
    rw [if_neg c] at q'
    have hn := k.lt n u q'
  · exact hn
  · show upd g.F (g.ι m) h (g.ι n) = Option.none
    rw [upd_ne (fun z => c (k.inj n m hn hm z))]; exact k.fr n u q'
  · exact (k.ob n u q').mono le
end

/-! ### computations -/
inductive Rs (α : Type) where
  | ok (a : α) (S : Store)
  | exc (c : Str) (S : Store)
  | bad
abbrev M (α : Type) : Type := Store → Rs α
def Rs.andThen {α β : Type} : Rs α → (α → M β) → Rs β
  | .ok a S, k => k a S
  | .exc c S, _ => .exc c S
  | .bad, _ => .bad
def M.bind {α β : Type} (m : M α) (k : α → M β) : M β := fun S => (m S).andThen k
def M.pure {α : Type} (a : α) : M α := fun S => .ok a S
def M.bad {α : Type} : M α := fun _ => .bad
def M.exc {α : Type} (c : Str) : M α := fun S => .exc c S

/-- what is wanted of an end -/
def Pg {α : Type} (w : Wd) (g : Gh) (E : Str → Hp → Prop) (R : α → Gh → Hp → Prop) : Rs α → Prop
  | .ok a S' => ∀ g' H', g.Le g' → Ok w g' S' H' → R a g' H'
  | .exc c S' => ∀ g' H', g.Le g' → Ok w g' S' H' → E c H'
  | .bad => False
theorem Pg.mono {α : Type} {w : Wd} {g g1 : Gh} {E : Str → Hp → Prop} {R : α → Gh → Hp → Prop} (l : g.Le g1) : ∀ {r : Rs α}, Pg w g E R r → Pg w g1 E R r
  | .ok _ _, h => fun g' H' l' => h g' H' (l.trans l')
  | .exc _ _, h => fun g' H' l' => h g' H' (l.trans l')
  | .bad, h => h
/-- .. of a value, a list of values, a truth -/
abbrev Pst (w : Wd) (g : Gh) (E : Str → Hp → Prop) (Q : VK) : Rs D → Prop := Pg w g E fun d g' H' => ∀ v, Rl w g' d v → Q v H'
abbrev PstA (w : Wd) (g : Gh) (E : Str → Hp → Prop) (Q : List V → Hp → Prop) : Rs (List D) → Prop := Pg w g E fun d g' H' => ∀ v, Rls w g' d v → Q v H'
abbrev PstT (w : Wd) (g : Gh) (E : Str → Hp → Prop) (Q : Bool → Hp → Prop) : Rs Bool → Prop := Pg w g E fun d _ H' => Q d H'

/-! ### environments -/
abbrev Env := List (Option D)
structure REnv (w : Wd) (g : Gh) (env : Env) (σ : L2.St) : Prop where
  len : env.length = σ.length
  get : ∀ (i : Nat) (d : D), env[i]? = some (some d) → ∃ v : V, σ[i]? = some (some v) ∧ Rl w g d v
theorem REnv.mono {w : Wd} {g g' : Gh} {env : Env} {σ : L2.St} (l : g.Le g') (r : REnv w g env σ) : REnv w g' env σ :=
  ⟨r.len, fun i d e => let ⟨v, h1, h2⟩ := r.get i d e; ⟨v, h1, h2.mono l⟩⟩
theorem REnv.set {w : Wd} {g : Gh} {env : Env} {σ : L2.St} {d : D} {v : V} (r : REnv w g env σ) (i : Nat) (h : Rl w g d v) : REnv w g (env.set i (some d)) (σ.set i (some v)) := by
  refine ⟨by simp [r.len], fun j e q => ?_⟩
  by_cases c : i = j
  · subst c
    rw [List.getElem?_set] at q ⊢
    rw [if_pos rfl] at q ⊢
    split at q
    · rename_i hlt
      cases q
      rw [if_pos (by rw [← r.len]; exact hlt)]
      exact ⟨v, rfl, h⟩
    · cases q
  · rw [List.getElem?_set_ne c] at q ⊢
    exact r.get j e q
end ML

/-! What the built-in operations do with data. -/
namespace ML
open PySem PySem.Spec PyProof.Rows L2

/-! ### lists as they are read and made -/
/-- what an operation gives: a value, a new list, a new tuple -/
inductive PR where
  | val (d : D)
  | newl (xs : List D)
  | newt (xs : List D)
/-- a new list is a value (m = false), or a place of the store -/
def fin (m : Bool) : PR → M D
  | .val d => M.pure d
  | .newl xs => if m then fun S => .ok (.loc S.nx) (S.new (.lst xs)) else M.pure (.lst xs)
  | .newt xs => M.pure (.tup xs)
def finO (m : Bool) : Option PR → M D
  | some r => fin m r
  | none => M.bad

section
variable {w : Wd} {g : Gh} {S : Store} {H : Hp} {E : Str → Hp → Prop} {Q : VK} {m : Bool} {d : D} {v : V} {ds : List D} {vs : List V}
theorem fin_val (p : Pst w g E Q (fin m (.val d) S)) (k : Ok w g S H) (r : Rl w g d v) : Q v H := p g H (Gh.Le.refl g) k v r
theorem rl_add {p : Addr} (k : Ok w g S H) (hp : H p = none) (r : Rls w g ds vs) : Rl w (g.add p (.lst vs)) (.lst ds) (.ref p) :=
  .lst upd_same (r.mono (Gh.add_le (k.none hp)))
theorem rl_addT {p : Addr} (k : Ok w g S H) (hp : H p = none) (r : Rls w g ds vs) : Rl w (g.add p (.tup vs)) (.tup ds) (.ref p) :=
  .tup (.inl (.inl upd_same)) (r.mono (Gh.add_le (k.none hp)))
theorem fin_newl (p : Pst w g E Q (fin m (.newl ds) S)) (k : Ok w g S H) (r : Rls w g ds vs) : ∀ a, H a = none → Q (.ref a) (upd H a (.lst vs)) := by
  intro a ha
  cases m with
  | false =>
    have p' : Pst w g E Q (.ok (.lst ds) S) := p
    exact p' _ _ (Gh.add_le (k.none ha)) (k.addF ha) _ (rl_add k ha r)
  | true =>
    have p' : Pst w g E Q (.ok (.loc S.nx) (S.new (.lst ds))) := p
    have e : (g.put a).ι g.nx = a := Gh.put_ι
    refine p' (g.put a) _ Gh.put_le (k.addS ha (fun b u q => by rw [upd_ne (ne_of_none q ha)]; exact q) upd_same ⟨vs, rfl, r.mono Gh.put_le⟩) _ ?_
    have z : Rl w (g.put a) (.loc g.nx) (.ref ((g.put a).ι g.nx)) := .loc (Nat.lt_succ_self _)
    rw [e] at z
    rw [k.nx]
    exact z
theorem fin_newt (p : Pst w g E Q (fin m (.newt ds) S)) (k : Ok w g S H) (r : Rls w g ds vs) : ∀ a, H a = none → Q (.ref a) (upd H a (.tup vs)) := by
  intro a ha
  have p' : Pst w g E Q (.ok (.tup ds) S) := p
  exact p' _ _ (Gh.add_le (k.none ha)) (k.addF ha) _ (rl_addT k ha r)
end

/-- the lists of the store -/
def obLst : Option Ob → Option (List D)
  | some (.lst xs) => some xs
  | _ => none
/-- a list that may be written, or was -/
def lstT (S : Store) : D → Option (List D)
  | .lst xs => some xs
  | .loc n => obLst (S.ob n)
  | _ => none
def lstOf (S : Store) : D → Option (List D)
  | .cst xs => some xs
  | d => lstT S d
def seqOf (S : Store) : D → Option (List D)
  | .tup xs => some xs
  | d => lstOf S d
section
variable {w : Wd} {g : Gh} {S : Store} {H : Hp} {d : D} {v : V} {ds : List D}
theorem obLst_some {o : Option Ob} (e : obLst o = some ds) : o = some (.lst ds) := by
  cases o with
  | none => cases e
  | some o =>
    cases o with
    | lst xs => cases e; rfl
    | dct _ => cases e
    | ins _ _ => cases e
theorem lstT_ok (k : Ok w g S H) (r : Rl w g d v) (e : lstT S d = some ds) : ∃ a vs, v = .ref a ∧ H a = some (.lst vs) ∧ Rls w g ds vs := by
  cases r with
  | lst s rs => cases e; exact ⟨_, _, rfl, k.sub _ _ s, rs⟩
  | @loc n hn =>
    obtain ⟨vs, h1, h2⟩ := k.ob n _ (obLst_some e)
    exact ⟨_, vs, rfl, h1, h2⟩
  | _ => cases e
theorem lstOf_ok (k : Ok w g S H) (r : Rl w g d v) (e : lstOf S d = some ds) : ∃ a vs, v = .ref a ∧ SqL w.K H a vs ∧ Rls w g ds vs := by
  have gen : lstT S d = some ds → ∃ a vs, v = .ref a ∧ SqL w.K H a vs ∧ Rls w g ds vs := fun e => by
    obtain ⟨a, vs, h1, h2, h3⟩ := lstT_ok k r e
    exact ⟨a, vs, h1, .inl (.inl h2), h3⟩
  cases r with
  | cst s rs => cases e; exact ⟨_, _, rfl, k.sqL s, rs⟩
  | _ => exact gen e
theorem seqOf_ok (k : Ok w g S H) (r : Rl w g d v) (e : seqOf S d = some ds) : ∃ a vs, v = .ref a ∧ (SqL w.K H a vs ∨ SqT w.K H a vs) ∧ Rls w g ds vs := by
  have gen : lstOf S d = some ds → ∃ a vs, v = .ref a ∧ (SqL w.K H a vs ∨ SqT w.K H a vs) ∧ Rls w g ds vs := fun e => by
    obtain ⟨a, vs, h1, h2, h3⟩ := lstOf_ok k r e
    exact ⟨a, vs, h1, .inl h2, h3⟩
  cases r with
  | tup s rs => cases e; exact ⟨_, _, rfl, .inr (k.sqT s), rs⟩
  | _ => exact gen e
end

/-! ### list + list, for any list that is read -/
section
variable {X : Cx}
theorem add_plain {prog : Program} {w : World} {A : Around} {s : Shared} {E : Value → Shared → Prop} {l b : Addr} {us ws : Array Value} {Q : Value → Shared → Prop} (ha : PlainL s.heap l us) (hb : PlainL s.heap b ws)
    (h : Q (.ref s.heap.objs.size) { s with heap := s.heap.push { cls := .type "list", data := .seq (us ++ ws) } }) (hz : us.size + ws.size ≤ sizeLine) : wpAny (model prog w) A (binaryOp .Add (.ref l) (.ref b)) Q E s := by
  obtain ⟨⟨cls, dd, data, sl⟩, n, ho, hc, hdd, hd⟩ := ha
  obtain ⟨⟨cls2, dd2, data2, sl2⟩, n2, ho2, hc2, hdd2, hd2⟩ := hb
  simp only at hc hd hc2 hd2
  subst hc hd hc2 hd2
  exact concat_meets ⟨_, ho, rfl⟩ ⟨_, ho2, rfl⟩ noFill_list_add seq_list_add PySem.F.slot_list_add PySem.F.entry_list_add (PySem.F.args_list_add_2 _ _) (list_addW l b us ws n n2 dd dd2 sl sl2 hz) ⟨ho, ho2, h⟩
def rCatL (K : PySem.W.Frag) : R2 := fun x y H Q => ∃ l b xs zs, x = .ref l ∧ y = .ref b ∧ SqL K H l xs ∧ SqL K H b zs ∧ xs.length + zs.length ≤ sizeLine ∧ ∀ p, H p = none → Q (.ref p) (upd H p (.lst (xs ++ zs)))
theorem op_catL : OpR X (binaryOp .Add) (rCatL X.K) := by
  intro pins s σ H x y v u Q I rx ry h
  obtain ⟨l, b, xs, zs, rfl, rfl, hH, hB, hz, q⟩ := h
  cases rx
  cases ry
  obtain ⟨its, r, pl, z⟩ := I.list hH
  obtain ⟨its2, r2, pl2, z2⟩ := I.list hB
  refine add_plain pl pl2 ?_ (by rw [List.size_toArray, List.size_toArray, ← r.length, ← r2.length]; exact hz)
  have ea : its.toArray ++ its2.toArray = (its ++ its2).toArray := by simp
  rw [ea]
  exact ⟨.ref _, _, I.lnew (t' := s.toks) (r.append r2) (by rw [List.length_append]; omega), rfl, q _ I.fresh⟩
end

/-! ### two-place operations -/
def nMax : Nat := 16000000
theorem nMax_le {n : Nat} (h : n ≤ nMax) : n ≤ sizeLine := Nat.le_trans h (by decide)
theorem nMax_lt {n : Nat} (h : n < nMax) : n < sizeLine := Nat.lt_of_lt_of_le h (by decide)
def guardP (b : Bool) (r : PR) : Option PR := if b = true then some r else none
theorem guardP_some {b : Bool} {r r' : PR} (h : guardP b r = some r') : b = true ∧ r = r' := by
  unfold guardP at h
  split at h
  · exact ⟨by assumption, Option.some.inj h⟩
  · cases h
def addP (S : Store) : D → D → Option PR
  | .int i, .int j => some (.val (.int (i + j)))
  | .str a, .str b => guardP (decide (a.length + b.length ≤ nMax)) (.val (.str (a ++ b)))
  | .tup xs, .tup ys => guardP (decide (xs.length + ys.length ≤ nMax)) (.newt (xs ++ ys))
  | d, e => match lstOf S d, lstOf S e with
    | some xs, some ys => guardP (decide (xs.length + ys.length ≤ nMax)) (.newl (xs ++ ys))
    | _, _ => none
def mulP (S : Store) : D → D → Option PR
  | .int i, .int j => guardP (decide (-(2 ^ 64) < i ∧ i < 2 ^ 64) || decide (-(2 ^ 64) < j ∧ j < 2 ^ 64)) (.val (.int (i * j)))
  | d, .int k => match lstT S d with
    | some xs => guardP (decide (0 ≤ k) && decide (k < 1000) && decide (xs.length * k.toNat ≤ nMax)) (.newl (List.replicate k.toNat xs).flatten)
    | none => none
  | _, _ => none
def binP (S : Store) : Operator → D → D → Option PR
  | .Add, d, e => addP S d e
  | .Sub, .int i, .int j => some (.val (.int (i - j)))
  | .Mult, d, e => mulP S d e
  | .FloorDiv, .int i, .int j => guardP (decide (0 < j) && decide (j < 1073741824)) (.val (.int (i / j)))
  | .Mod, .int i, .int j => guardP (decide (0 < j)) (.val (.int (i % j)))
  | .Pow, .int i, .int j => guardP (decide (0 ≤ j) && decide (j ≤ 1000000) && decide (i.natAbs < 2 ^ 64)) (.val (.int (i ^ j.toNat)))
  | _, _, _ => none

/-- the reading of such an operation -/
def r2 (w : Wd) (m : Bool) (f : Store → D → D → Option PR) : R2 := fun x y H Q => ∃ g S d e, Ok w g S H ∧ Rl w g d x ∧ Rl w g e y ∧ Pst w g (fun _ _ => False) Q (finO m (f S d e) S)
theorem r2_mono {w : Wd} {m : Bool} {f : Store → D → D → Option PR} {x y : V} {H : Hp} {Q : VK} (h : r2 w m f x y H Q) :
    ∃ g S d e r, Ok w g S H ∧ Rl w g d x ∧ Rl w g e y ∧ f S d e = some r ∧ Pst w g (fun _ _ => False) Q (fin m r S) := by
  obtain ⟨g, S, d, e, k, r1, r2, p⟩ := h
  cases q : f S d e with
  | none => rw [q] at p; exact p.elim
  | some r => rw [q] at p; exact ⟨g, S, d, e, r, k, r1, r2, q, p⟩

theorem newt_all {w : Wd} {g : Gh} {S : Store} {H : Hp} {E : Str → Hp → Prop} {Q : VK} {m : Bool} {d : D} {v : V} {ds : List D} (p : Pst w g E Q (fin m (.newt ds) S)) (k : Ok w g S H) (r : Rl w g (.tup ds) v) : Q v H := by
  have p' : Pst w g E Q (.ok (.tup ds) S) := p
  exact p' _ _ (Gh.Le.refl g) k _ r
section
variable {X : Cx} {w : Wd} {m : Bool}
theorem rep_flat {w : Wd} {g : Gh} {ds : List D} {vs : List V} (r : Rls w g ds vs) : ∀ n, Rls w g (List.replicate n ds).flatten (List.replicate n vs).flatten
  | 0 => .nil
  | n + 1 => by
    rw [List.replicate_succ, List.replicate_succ, List.flatten_cons, List.flatten_cons]
    exact r.append (rep_flat r n)
theorem add_ok (hw : X.K = w.K) : OpR X (binaryOp .Add) (r2 w m addP) := by
  intro pins s σ H x y v u Q I rx ry h
  obtain ⟨g, S, d, e, r, k, r1, r2, q, p⟩ := r2_mono h
  have lists : ∀ {xs ys : List D}, lstOf S d = some xs → lstOf S e = some ys → guardP (decide (xs.length + ys.length ≤ nMax)) (.newl (xs ++ ys)) = some r → wpAny (model X.prog X.w) X.A (binaryOp .Add v u) (EP X pins σ Q) X.xe s := fun {xs ys} h1 h2 h3 => by
    obtain ⟨hb, rfl⟩ := guardP_some h3
    obtain ⟨a, vs, rfl, s1, q1⟩ := lstOf_ok k r1 h1
    obtain ⟨b, us, rfl, s2, q2⟩ := lstOf_ok k r2 h2
    exact op_catL pins s σ H _ _ v u Q I rx ry ⟨a, b, vs, us, rfl, rfl, by rw [hw]; exact s1, by rw [hw]; exact s2, by rw [← q1.length, ← q2.length]; exact nMax_le (of_decide_eq_true hb), fin_newl p k (q1.append q2)⟩
  have els : (match lstOf S d, lstOf S e with
    | some xs, some ys => guardP (decide (xs.length + ys.length ≤ nMax)) (PR.newl (xs ++ ys))
    | _, _ => none) = some r → wpAny (model X.prog X.w) X.A (binaryOp .Add v u) (EP X pins σ Q) X.xe s := fun q => by
    cases h1 : lstOf S d with
    | none => rw [h1] at q; cases q
    | some xs =>
      cases h2 : lstOf S e with
      | none => rw [h1, h2] at q; cases q
      | some ys => rw [h1, h2] at q; exact lists h1 h2 q
  cases r1 with
  | int i =>
    cases r2 with
    | int j => cases q; exact op_add pins s σ H _ _ v u Q I rx ry ⟨i, j, rfl, rfl, fin_val p k (.int _)⟩
    | _ => exact els q
  | str a =>
    cases r2 with
    | str b =>
      obtain ⟨hb, rfl⟩ := guardP_some q
      exact op_add_str pins s σ H _ _ v u Q I rx ry ⟨a, b, rfl, rfl, nMax_le (of_decide_eq_true hb), fin_val p k (.str _)⟩
    | _ => exact els q
  | @tup a vs xs s1 q1 =>
    cases r2 with
    | @tup b us ys s2 q2 =>
      obtain ⟨hb, rfl⟩ := guardP_some q
      refine op_catA pins s σ H _ _ v u Q I rx ry ⟨a, b, vs, us, rfl, rfl, by rw [hw]; exact k.sqT s1, by rw [hw]; exact k.sqT s2, by rw [← q1.length, ← q2.length]; exact nMax_le (of_decide_eq_true hb), fun e => ?_, fun _ e => ?_, fun _ _ => fin_newt p k (q1.append q2)⟩
      · subst e
        cases q1
        exact newt_all (d := .non) p k (.tup s2 q2)
      · subst e
        cases q2
        rw [List.append_nil] at p
        exact newt_all (d := .non) p k (.tup s1 q1)
    | _ => exact els q
  | _ => exact els q
theorem mul_ok (hw : X.K = w.K) : OpR X (binaryOp .Mult) (r2 w m mulP) := by
  intro pins s σ H x y v u Q I rx ry h
  obtain ⟨g, S, d, e, r, k, r1, r2, q, p⟩ := r2_mono h
  have lists : ∀ {j : Int}, y = .int j → (match lstT S d with
    | some xs => guardP (decide (0 ≤ j) && decide (j < 1000) && decide (xs.length * j.toNat ≤ nMax)) (PR.newl (List.replicate j.toNat xs).flatten)
    | none => none) = some r → wpAny (model X.prog X.w) X.A (binaryOp .Mult v u) (EP X pins σ Q) X.xe s := fun {j} e q => by
    subst e
    cases h1 : lstT S d with
    | none => rw [h1] at q; cases q
    | some xs =>
      rw [h1] at q
      obtain ⟨hb, rfl⟩ := guardP_some q
      simp only [Bool.and_eq_true, decide_eq_true_eq] at hb
      obtain ⟨a, vs, rfl, s1, q1⟩ := lstT_ok k r1 h1
      exact op_rep pins s σ H _ _ v u Q I rx ry ⟨a, j, vs, rfl, rfl, s1, by omega, by omega, by rw [← q1.length]; exact nMax_le hb.2, fin_newl p k (rep_flat q1 _)⟩
  cases r2 with
  | int j =>
    cases r1 with
    | int i =>
      obtain ⟨hb, rfl⟩ := guardP_some q
      rw [Bool.or_eq_true] at hb
      refine op_mul pins s σ H _ _ v u Q I rx ry ⟨i, j, rfl, rfl, ?_, fin_val p k (.int _)⟩
      rcases hb with hb | hb
      · exact .inl (of_decide_eq_true hb)
      · exact .inr (of_decide_eq_true hb)
    | _ => exact lists rfl q
  | _ => cases r1 <;> cases q
theorem bin_ok (hw : X.K = w.K) (op : Operator) : OpR X (binaryOp op) (r2 w m fun S => binP S op) := by
  cases op with
  | Add => exact add_ok hw
  | Mult => exact mul_ok hw
  | Sub =>
    intro pins s σ H x y v u Q I rx ry h
    obtain ⟨g, S, d, e, r, k, r1, r2, q, p⟩ := r2_mono h
    cases r1 with
    | int i =>
      cases r2 with
      | int j => cases q; exact op_sub pins s σ H _ _ v u Q I rx ry ⟨i, j, rfl, rfl, fin_val p k (.int _)⟩
      | _ => cases q
    | _ => cases q
  | FloorDiv =>
    intro pins s σ H x y v u Q I rx ry h
    obtain ⟨g, S, d, e, r, k, r1, r2, q, p⟩ := r2_mono h
    cases r1 with
    | int i =>
      cases r2 with
      | int j =>
        obtain ⟨hb, rfl⟩ := guardP_some q
        simp only [Bool.and_eq_true, decide_eq_true_eq] at hb
        exact op_fdiv pins s σ H _ _ v u Q I rx ry ⟨i, j, rfl, rfl, hb, fin_val p k (.int _)⟩
      | _ => cases q
    | _ => cases q
  | Mod =>
    intro pins s σ H x y v u Q I rx ry h
    obtain ⟨g, S, d, e, r, k, r1, r2, q, p⟩ := r2_mono h
    cases r1 with
    | int i =>
      cases r2 with
      | int j =>
        obtain ⟨hb, rfl⟩ := guardP_some q
        exact op_mod pins s σ H _ _ v u Q I rx ry ⟨i, j, rfl, rfl, of_decide_eq_true hb, fin_val p k (.int _)⟩
      | _ => cases q
    | _ => cases q
  | Pow =>
    intro pins s σ H x y v u Q I rx ry h
    obtain ⟨g, S, d, e, r, k, r1, r2, q, p⟩ := r2_mono h
    cases r1 with
    | int i =>
      cases r2 with
      | int j =>
        obtain ⟨hb, rfl⟩ := guardP_some q
        simp only [Bool.and_eq_true, decide_eq_true_eq] at hb
        exact op_pow pins s σ H _ _ v u Q I rx ry ⟨i, j, rfl, rfl, ⟨hb.1.1, hb.1.2, hb.2⟩, fin_val p k (.int _)⟩
      | _ => cases q
    | _ => cases q
  | _ =>
    intro pins s σ H x y v u Q I rx ry h
    obtain ⟨g, S, d, e, r, k, r1, r2, q, p⟩ := r2_mono h
    cases r1 <;> cases q
end
end ML

/-! Comparisons, places, slices, truth, calls of built-ins. -/
namespace ML
open PySem PySem.Spec PyProof.Rows L2

/-! ### data as the model compares it -/
mutual
def py : D → Option PyData
  | .non => some .none
  | .bl b => some (.bool b)
  | .int i => some (.int i)
  | .str s => some (.str s)
  | .tup xs => (pys xs).map .tuple
  | .lst xs => (pys xs).map .list
  | .cst xs => (pys xs).map .list
  | .loc _ => none
  | .exn _ => none
def pys : List D → Option (List PyData)
  | [] => some []
  | x :: xs => (py x).bind fun a => (pys xs).map (a :: ·)
end
def pyS (S : Store) : D → Option PyData
  | .loc n => (obLst (S.ob n)).bind fun xs => (pys xs).map .list
  | d => py d
section
variable {w : Wd} {g : Gh} {S : Store} {H : Hp}
mutual
theorem py_ok (k : Ok w g S H) : ∀ {d : D} {v : V} {p : PyData}, Rl w g d v → py d = some p → Dp w.K H v p
  | _, _, _, .non, e => by cases e; exact .non
  | _, _, _, .bl b, e => by cases e; exact .bl b
  | _, _, _, .int i, e => by cases e; exact .int i
  | _, _, _, .str x, e => by cases e; exact .str x
  | _, _, p, .tup (ds := ds) s r, e => by
    cases q : pys ds with
    | none => simp [py, q] at e
    | some ps => simp [py, q] at e; subst e; exact .tup (k.sqT s) (pys_ok k r q)
  | _, _, p, .lst (ds := ds) s r, e => by
    cases q : pys ds with
    | none => simp [py, q] at e
    | some ps => simp [py, q] at e; subst e; exact .lst (.inl (.inl (k.sub _ _ s))) (pys_ok k r q)
  | _, _, p, .cst (ds := ds) s r, e => by
    cases q : pys ds with
    | none => simp [py, q] at e
    | some ps => simp [py, q] at e; subst e; exact .lst (k.sqL s) (pys_ok k r q)
  | _, _, _, .loc _, e => by simp [py] at e
  | _, _, _, .exn _ _, e => by simp [py] at e
theorem pys_ok (k : Ok w g S H) : ∀ {ds : List D} {vs : List V} {ps : List PyData}, Rls w g ds vs → pys ds = some ps → DpAll w.K H vs ps
  | _, _, _, .nil, e => by simp [pys] at e; subst e; exact .nil
  | _, _, _, .cons (d := d) (ds := ds) r t, e => by
    cases q : py d with
    | none => simp [pys, q] at e
    | some a =>
      cases q2 : pys ds with
      | none => simp [pys, q, q2] at e
      | some as => simp [pys, q, q2] at e; subst e; exact .cons (py_ok k r q) (pys_ok k t q2)
end
theorem pyS_ok (k : Ok w g S H) {d : D} {v : V} {p : PyData} (r : Rl w g d v) (e : pyS S d = some p) : Dp w.K H v p := by
  have gen : py d = some p → Dp w.K H v p := fun e => py_ok k r e
  cases r with
  | @loc n hn =>
    have e' : ((obLst (S.ob n)).bind fun xs => (pys xs).map .list) = some p := e
    cases q : obLst (S.ob n) with
    | none => rw [q] at e'; cases e'
    | some xs =>
      rw [q] at e'
      obtain ⟨vs, h1, h2⟩ := k.ob n _ (obLst_some q)
      cases q2 : pys xs with
      | none => simp [q2] at e'
      | some ps => simp [q2] at e'; subst e'; exact .lst (.inl (.inl h1)) (pys_ok k h2 q2)
  | _ => exact gen e
end

/-! ### comparisons -/
/-- flat things, compared by == -/
def flat : D → Option V
  | .non => some .non
  | .bl b => some (.bl b)
  | .int i => some (.int i)
  | .str s => some (.str s)
  | _ => none
theorem flat_ok {w : Wd} {g : Gh} {d : D} {v u : V} (r : Rl w g d v) (e : flat d = some u) : v = u := by
  cases r <;> cases e <;> rfl
def eqP (S : Store) (d e : D) : Option Bool :=
  match flat d, flat e with
  | some x, some y => if scal x y = true then some (decide (x = y)) else none
  | _, _ => match pyS S d, pyS S e with
    | some a, some b => if (SeqAt.shaped a && SeqAt.shaped b) = true then some (PyData.eqv a b) else none
    | _, _ => none
def flats : List D → Option (List V)
  | [] => some []
  | x :: xs => (flat x).bind fun a => (flats xs).map (a :: ·)
theorem flats_ok {w : Wd} {g : Gh} : ∀ {ds : List D} {vs us : List V}, Rls w g ds vs → flats ds = some us → vs = us
  | _, _, _, .nil, e => by simp [flats] at e; exact e.symm
  | _, _, _, .cons (d := d) (ds := ds) r t, e => by
    cases q : flat d with
    | none => simp [flats, q] at e
    | some a =>
      cases q2 : flats ds with
      | none => simp [flats, q, q2] at e
      | some as => simp [flats, q, q2] at e; subst e; rw [flat_ok r q, flats_ok t q2]
theorem flat_flatV {d : D} {u : V} (e : flat d = some u) : flatV u = true := by
  cases d <;> cases e <;> rfl
theorem flats_flatV : ∀ {ds : List D} {us : List V}, flats ds = some us → us.all flatV = true
  | [], _, e => by simp [flats] at e; subst e; rfl
  | d :: ds, _, e => by
    cases q : flat d with
    | none => simp [flats, q] at e
    | some a =>
      cases q2 : flats ds with
      | none => simp [flats, q, q2] at e
      | some as => simp [flats, q, q2] at e; subst e; rw [List.all_cons, flat_flatV q, flats_flatV q2]; rfl
/-- x in y -/
def subIn (a b : Str) : Bool := !(Builtin.Str.occurrences b a 0 b.length 1).isEmpty
def inP (S : Store) (d e : D) : Option Bool :=
  match d, e with
  | .str a, .str b => some (subIn a b)
  | d, e => match flat d, (seqOf S e).bind flats with
    | some x, some xs => some (inV x xs)
    | _, _ => none
def bV (b : Option Bool) : Option PR := b.map fun b => .val (.bl b)
def isNon : D → Bool
  | .non => true
  | _ => false
def cmpP (S : Store) : CmpOp → D → D → Option Bool
  | .Eq, d, e => eqP S d e
  | .NotEq, d, e => (eqP S d e).map (!·)
  | .Lt, .int i, .int j => some (decide (i < j))
  | .LtE, .int i, .int j => some (decide (i ≤ j))
  | .Gt, .int i, .int j => some (decide (j < i))
  | .GtE, .int i, .int j => some (decide (j ≤ i))
  | .In, d, e => inP S d e
  | .NotIn, d, e => (inP S d e).map (!·)
  | .Is, d, .non => some (isNon d)
  | .IsNot, d, .non => some (!isNon d)
  | _, _, _ => none
theorem isNon_ok {w : Wd} {g : Gh} {d : D} {v : V} (r : Rl w g d v) : decide (v = .non) = isNon d := by
  cases r <;> rfl
section
variable {X : Cx} {w : Wd} {m : Bool}
theorem eq_ok {pins : List (Addr × Obj)} {s : Shared} {σ : L2.St} {H : Hp} {x y : V} {v u : Value} {Q : VK} {g : Gh} {S : Store} {d e : D} {b : Bool} (hw : X.K = w.K) (hu : X.A.units + 64 < cLine) (I : Inv X pins σ H s) (rx : RelV x v) (ry : RelV y u)
    (k : Ok w g S H) (r1 : Rl w g d x) (r2 : Rl w g e y) (q : eqP S d e = some b) :
    (Q (.bl b) H → wpAny (model X.prog X.w) X.A (compareOp .Eq v u) (EP X pins σ Q) X.xe s) ∧ (Q (.bl (!b)) H → wpAny (model X.prog X.w) X.A (compareOp .NotEq v u) (EP X pins σ Q) X.xe s) := by
  have deep : (match pyS S d, pyS S e with
    | some a, some b => if (SeqAt.shaped a && SeqAt.shaped b) = true then some (PyData.eqv a b) else none
    | _, _ => none) = some b → (Q (.bl b) H → wpAny (model X.prog X.w) X.A (compareOp .Eq v u) (EP X pins σ Q) X.xe s) ∧ (Q (.bl (!b)) H → wpAny (model X.prog X.w) X.A (compareOp .NotEq v u) (EP X pins σ Q) X.xe s) := fun q => by
    cases h1 : pyS S d with
    | none => rw [h1] at q; cases q
    | some a =>
      cases h2 : pyS S e with
      | none => rw [h1, h2] at q; cases q
      | some c =>
        rw [h1, h2] at q
        simp only at q
        split at q
        · rename_i hs
          rw [Bool.and_eq_true] at hs
          cases q
          have D1 := pyS_ok k r1 h1
          have D2 := pyS_ok k r2 h2
          rw [← hw] at D1 D2
          exact ⟨fun z => op_eqD hu pins s σ H x y v u Q I rx ry ⟨a, c, D1, D2, hs.1, hs.2, z⟩, fun z => op_neD hu pins s σ H x y v u Q I rx ry ⟨a, c, D1, D2, hs.1, hs.2, z⟩⟩
        · cases q
  unfold eqP at q
  cases h1 : flat d with
  | none => rw [h1] at q; exact deep q
  | some x' =>
    cases h2 : flat e with
    | none => rw [h1, h2] at q; exact deep q
    | some y' =>
      rw [h1, h2] at q
      simp only at q
      split at q
      · rename_i hs
        cases q
        obtain rfl := flat_ok r1 h1
        obtain rfl := flat_ok r2 h2
        exact ⟨fun z => op_eq pins s σ H _ _ v u Q I rx ry ⟨hs, z⟩, fun z => op_ne pins s σ H _ _ v u Q I rx ry ⟨hs, z⟩⟩
      · cases q
theorem in_ok {pins : List (Addr × Obj)} {s : Shared} {σ : L2.St} {H : Hp} {x y : V} {v u : Value} {Q : VK} {g : Gh} {S : Store} {d e : D} {b : Bool} (hw : X.K = w.K) (I : Inv X pins σ H s) (rx : RelV x v) (ry : RelV y u)
    (k : Ok w g S H) (r1 : Rl w g d x) (r2 : Rl w g e y) (q : inP S d e = some b) :
    (Q (.bl b) H → wpAny (model X.prog X.w) X.A (compareOp .In v u) (EP X pins σ Q) X.xe s) ∧ (Q (.bl (!b)) H → wpAny (model X.prog X.w) X.A (compareOp .NotIn v u) (EP X pins σ Q) X.xe s) := by
  have deep : (match flat d, (seqOf S e).bind flats with
    | some x, some xs => some (inV x xs)
    | _, _ => none) = some b → (Q (.bl b) H → wpAny (model X.prog X.w) X.A (compareOp .In v u) (EP X pins σ Q) X.xe s) ∧ (Q (.bl (!b)) H → wpAny (model X.prog X.w) X.A (compareOp .NotIn v u) (EP X pins σ Q) X.xe s) := fun q => by
    cases h1 : flat d with
    | none => rw [h1] at q; cases q
    | some x' =>
      cases h2 : seqOf S e with
      | none => rw [h1, h2] at q; cases q
      | some ds =>
        cases h3 : flats ds with
        | none => rw [h1, h2] at q; simp [h3] at q
        | some us =>
          rw [h1, h2] at q
          simp [h3] at q
          subst q
          obtain rfl := flat_ok r1 h1
          obtain ⟨a, vs, rfl, s1, q1⟩ := seqOf_ok k r2 h2
          obtain rfl := flats_ok q1 h3
          rw [← hw] at s1
          exact ⟨fun z => op_in_seq pins s σ H _ _ v u Q I rx ry ⟨a, vs, rfl, s1, flat_flatV h1, flats_flatV h3, z⟩, fun z => op_notIn_seq pins s σ H _ _ v u Q I rx ry ⟨a, vs, rfl, s1, flat_flatV h1, flats_flatV h3, z⟩⟩
  cases r1 with
  | str a =>
    cases r2 with
    | str c => cases q; exact ⟨fun z => op_in_str pins s σ H _ _ v u Q I rx ry ⟨a, c, rfl, rfl, z⟩, fun z => op_notin_str pins s σ H _ _ v u Q I rx ry ⟨a, c, rfl, rfl, z⟩⟩
    | _ => exact deep q
  | _ => exact deep q
theorem bV_some {b : Option Bool} {r : PR} (h : bV b = some r) : ∃ c, b = some c ∧ r = .val (.bl c) := by
  cases b with
  | none => cases h
  | some c => cases h; exact ⟨c, rfl, rfl⟩
theorem map_not {b : Option Bool} {c : Bool} (h : b.map (!·) = some c) : ∃ a, b = some a ∧ c = !a := by
  cases b with
  | none => cases h
  | some a => cases h; exact ⟨a, rfl, rfl⟩
theorem cmp_ok (hw : X.K = w.K) (hu : X.A.units + 64 < cLine) (op : CmpOp) : OpR X (compareOp op) (r2 w m fun S d e => bV (cmpP S op d e)) := by
  intro pins s σ H x y v u Q I rx ry h
  obtain ⟨g, S, d, e, r, k, r1, r2, q0, p⟩ := r2_mono h
  obtain ⟨b, q, er⟩ := bV_some q0
  rw [er] at p
  clear q0 er
  have z : Q (.bl b) H := fin_val p k (.bl b)
  cases op with
  | Eq => exact (eq_ok hw hu I rx ry k r1 r2 q).1 z
  | NotEq =>
    obtain ⟨c, q', e'⟩ := map_not q
    rw [e'] at z
    exact (eq_ok hw hu I rx ry k r1 r2 q').2 z
  | In => exact (in_ok hw I rx ry k r1 r2 q).1 z
  | NotIn =>
    obtain ⟨c, q', e'⟩ := map_not q
    rw [e'] at z
    exact (in_ok hw I rx ry k r1 r2 q').2 z
  | Lt =>
    cases r1 with
    | int i =>
      cases r2 with
      | int j => cases q; exact op_lt pins s σ H _ _ v u Q I rx ry ⟨i, j, rfl, rfl, z⟩
      | _ => cases q
    | _ => cases q
  | LtE =>
    cases r1 with
    | int i =>
      cases r2 with
      | int j => cases q; exact op_le pins s σ H _ _ v u Q I rx ry ⟨i, j, rfl, rfl, z⟩
      | _ => cases q
    | _ => cases q
  | Gt =>
    cases r1 with
    | int i =>
      cases r2 with
      | int j => cases q; exact op_gt pins s σ H _ _ v u Q I rx ry ⟨i, j, rfl, rfl, z⟩
      | _ => cases q
    | _ => cases q
  | GtE =>
    cases r1 with
    | int i =>
      cases r2 with
      | int j => cases q; exact op_ge pins s σ H _ _ v u Q I rx ry ⟨i, j, rfl, rfl, z⟩
      | _ => cases q
    | _ => cases q
  | Is =>
    cases r2 with
    | non =>
      have q' : some (isNon d) = some b := by cases d <;> exact q
      cases q'
      exact op_isN pins s σ H _ _ v u Q I rx ry ⟨rfl, by rw [isNon_ok r1]; exact z⟩
    | _ => cases d <;> cases q
  | IsNot =>
    cases r2 with
    | non =>
      have q' : some (!isNon d) = some b := by cases d <;> exact q
      cases q'
      exact op_notN pins s σ H _ _ v u Q I rx ry ⟨rfl, by rw [isNon_ok r1]; exact z⟩
    | _ => cases d <;> cases q
end

/-! ### places, slices -/
def oneStr (c : Nat) : Str := ⟨#[c]⟩
def keyOf : D → Option Key
  | .int i => some (.inl i)
  | .str s => some (.inr s)
  | _ => none
def lookK (kvs : List (Key × D)) (k : Key) : Option D := (kvs.find? fun p => decide (p.1 = k)).map (·.2)
def obDct : Option Ob → Option (List (Key × D))
  | some (.dct kvs) => some kvs
  | _ => none
def ixP (S : Store) (d e : D) : Option D :=
  match d, e with
  | .str s, .int i => if s.length ≤ nMax then (atI s.cps.toList i).map fun c => .str (oneStr c) else none
  | d, .int i => (seqOf S d).bind fun xs => atI xs i
  | _, _ => none
theorem atI_rl {w : Wd} {g : Gh} {ds : List D} {vs : List V} {i : Int} {d : D} (r : Rls w g ds vs) (e : atI ds i = some d) : ∃ v, atI vs i = some v ∧ Rl w g d v := by
  unfold atI at e ⊢
  rw [← r.length]
  cases q : ixN ds.length i with
  | none => rw [q] at e; cases e
  | some j =>
    rw [q] at e
    exact r.get e
section
variable {X : Cx} {w : Wd} {m : Bool}
theorem ix_ok (hw : X.K = w.K) : IxR X (r2 w m fun S d e => (ixP S d e).map PR.val) := by
  intro value slice pins s σ H x y v u Q I rx ry h hs
  obtain ⟨g, S, d, e, r, k, r1, r2, q0, p⟩ := r2_mono h
  have q' : ∃ z, ixP S d e = some z ∧ r = .val z := by
    cases c : ixP S d e with
    | none => rw [c] at q0; cases q0
    | some z => rw [c] at q0; cases q0; exact ⟨z, rfl, rfl⟩
  obtain ⟨z, q, er⟩ := q'
  rw [er] at p
  clear q0 er
  have seq : ∀ {i : Int}, y = .int i → ((seqOf S d).bind fun xs => atI xs i) = some z → wpAny (model X.prog X.w) X.A (subscriptTail value slice v u) (EP X pins σ Q) X.xe s := fun {i} ei q => by
    subst ei
    cases h2 : seqOf S d with
    | none => rw [h2] at q; cases q
    | some ds =>
      rw [h2] at q
      obtain ⟨a, vs, rfl, s1, q1⟩ := seqOf_ok k r1 h2
      obtain ⟨z', e1, rz⟩ := atI_rl q1 q
      rw [← hw] at s1
      refine ix_seq value slice pins s σ H _ _ v u Q I rx ry ?_ hs
      rcases s1 with s1 | s1
      · exact .inl ⟨a, vs, i, z', rfl, rfl, s1, e1, fin_val p k rz⟩
      · exact .inr (.inl ⟨a, vs, i, z', rfl, rfl, s1, e1, fin_val p k rz⟩)
  cases r2 with
  | int i =>
    cases r1 with
    | str a =>
      have q1 : (if a.length ≤ nMax then (atI a.cps.toList i).map fun c => D.str (oneStr c) else none) = some z := q
      split at q1
      · rename_i hl
        cases h2 : atI a.cps.toList i with
        | none => rw [h2] at q1; cases q1
        | some c =>
          rw [h2] at q1
          cases q1
          exact ix_seq value slice pins s σ H _ _ v u Q I rx ry (.inr (.inr ⟨a, i, c, rfl, rfl, nMax_le hl, h2, fin_val p k (.str _)⟩)) hs
      · cases q1
    | _ => exact seq rfl q
  | _ => cases d <;> cases q
end
/-- d[lo:hi] -/
def cutD (xs : List D) (lo hi : Option Int) : List D := (xs.drop (HT.sIx xs.length 0 lo)).take (HT.sIx xs.length xs.length hi - HT.sIx xs.length 0 lo)
def slP (S : Store) (d : D) (lo hi : Option Int) : Option PR :=
  match d with
  | .str s => if s.length ≤ nMax then some (.val (.str (cutS s lo hi))) else none
  | .tup xs => some (.newt (cutD xs lo hi))
  | d => (lstOf S d).map fun xs => .newl (cutD xs lo hi)
theorem cut_rl {w : Wd} {g : Gh} {ds : List D} {vs : List V} {lo hi : Option Int} (r : Rls w g ds vs) : Rls w g (cutD ds lo hi) (cutV vs lo hi) := by
  unfold cutD cutV
  rw [r.length]
  exact (r.drop _).take _
def rSl (w : Wd) (m : Bool) : V → Option Int → Option Int → Hp → VK → Prop := fun x lo hi H Q => ∃ g S d, Ok w g S H ∧ Rl w g d x ∧ Pst w g (fun _ _ => False) Q (finO m (slP S d lo hi) S)
section
variable {X : Cx} {w : Wd} {m : Bool}
theorem sl_ok (hw : X.K = w.K) : SlR X (rSl w m) := by
  intro pins s σ H x v vl vu lo hi sl Q I rx hs pl pu h
  obtain ⟨g, S, d, k, r1, p⟩ := h
  have lists : ∀ {o : Option (List D)}, lstOf S d = o → Pst w g (fun _ _ => False) Q (finO m (o.map fun xs => PR.newl (cutD xs lo hi)) S) → ∃ T id, typeLookup (.type T) "__getitem__" = pure (some (.builtin id)) ∧ s.TypeIs v T ∧ wpAny (model X.prog X.w) X.A (getItem v (.ref sl)) (EP X pins σ Q) X.xe s := fun {o} e p => by
    cases o with
    | none => exact p.elim
    | some ds =>
      obtain ⟨a, vs, rfl, s1, q1⟩ := lstOf_ok k r1 e
      rw [← hw] at s1
      exact sl_list pins s σ H _ v vl vu lo hi sl Q I rx hs pl pu ⟨a, vs, rfl, s1, fin_newl p k (cut_rl q1)⟩
  cases r1 with
  | str a =>
    have p' : Pst w g (fun _ _ => False) Q (finO m (if a.length ≤ nMax then some (PR.val (.str (cutS a lo hi))) else none) S) := p
    split at p'
    · rename_i hl
      exact sl_str pins s σ H _ v vl vu lo hi sl Q I rx hs pl pu ⟨a, rfl, nMax_le hl, fin_val (m := m) p' k (.str _)⟩
    · exact p'.elim
  | @tup a vs ds s1 q1 =>
    have p' : Pst w g (fun _ _ => False) Q (fin m (.newt (cutD ds lo hi)) S) := p
    refine sl_tupA pins s σ H _ v vl vu lo hi sl Q I rx hs pl pu ⟨a, vs, rfl, by rw [hw]; exact k.sqT s1, fun c => ?_, fun _ => fin_newt p' k (cut_rl q1)⟩
    refine newt_all (d := .non) p' k ?_
    have e : cutD ds lo hi = ds := by
      unfold cutD
      rw [← q1.length] at c
      rw [c.1, c.2, List.drop_zero, Nat.sub_zero, List.take_length]
    rw [e]
    exact .tup s1 q1
  | _ => exact lists rfl p
end

/-! ### truth -/
def truP (S : Store) : D → Option Bool
  | .non => some false
  | .bl b => some b
  | .int i => some (i != 0)
  | .str s => if s.length ≤ nMax then some ((s.length : Int) != 0) else none
  | .loc n => match S.ob n with
    | some (.lst xs) => some (!xs.isEmpty)
    | some (.dct kvs) => some (!kvs.isEmpty)
    | _ => none
  | d => (seqOf S d).map fun xs => !xs.isEmpty
theorem rls_empty {w : Wd} {g : Gh} {ds : List D} {vs : List V} (r : Rls w g ds vs) : ds.isEmpty = vs.isEmpty := by cases r <;> rfl
theorem krl_empty {w : Wd} {g : Gh} {ds : List (Key × D)} {vs : List (Key × V)} (r : KRl w g ds vs) : ds.isEmpty = vs.isEmpty := by cases r <;> rfl
theorem tru_rl {w : Wd} {g : Gh} {S : Store} {H : Hp} {d : D} {v : V} {b : Bool} (k : Ok w g S H) (r : Rl w g d v) (e : truP S d = some b) : TruV w.K v H b := by
  cases r with
  | non => cases e; rfl
  | bl c => cases e; rfl
  | int i => cases e; rfl
  | str a =>
    have q1 : (if a.length ≤ nMax then some ((a.length : Int) != 0) else none) = some b := e
    split at q1
    · rename_i hl; cases q1; exact ⟨nMax_le hl, rfl⟩
    · cases q1
  | tup s q => cases e; exact .inr (.inl ⟨_, k.sqT s, by show (!List.isEmpty _) = _; rw [rls_empty q]⟩)
  | lst s q => cases e; exact .inl ⟨_, .inl (.inl (k.sub _ _ s)), by show (!List.isEmpty _) = _; rw [rls_empty q]⟩
  | cst s q => cases e; exact .inl ⟨_, k.sqL s, by show (!List.isEmpty _) = _; rw [rls_empty q]⟩
  | @loc n hn =>
    have e' : (match S.ob n with
      | some (.lst xs) => some (!xs.isEmpty)
      | some (.dct kvs) => some (!kvs.isEmpty)
      | _ => none) = some b := e
    cases q : S.ob n with
    | none => rw [q] at e'; cases e'
    | some o =>
      rw [q] at e'
      have z := k.ob n o q
      cases o with
      | lst xs => cases e'; obtain ⟨vs, h1, h2⟩ := z; exact .inl ⟨vs, .inl (.inl h1), by rw [rls_empty h2]⟩
      | dct xs => cases e'; obtain ⟨vs, h1, h2⟩ := z; exact .inr (.inr ⟨vs, h1, by rw [krl_empty h2]⟩)
      | ins _ _ => cases e'
  | exn _ _ => cases e
end ML

/-! Built-in functions and methods. -/
namespace ML
open PySem PySem.Spec PyProof.Rows L2

/-! ### built-in functions -/
inductive Bf where
  | len | all | any | list | tuple | str | abs | max | min
  deriving DecidableEq
def bools : List D → Option (List Bool)
  | [] => some []
  | .bl b :: xs => (bools xs).map (b :: ·)
  | _ => none
def lenP (S : Store) : D → Option Nat
  | .str s => if s.length ≤ nMax then some s.length else none
  | d => (seqOf S d).map (·.length)
def bfP (S : Store) : Bf → List D → Option PR
  | .len, [d] => (lenP S d).map fun (n : Nat) => .val (.int (n : Int))
  | .all, [d] => ((lstOf S d).bind bools).map fun bs => .val (.bl (bs.all id))
  | .any, [d] => ((lstOf S d).bind bools).map fun bs => .val (.bl (bs.any id))
  | .list, [d] => (seqOf S d).map .newl
  | .tuple, [d] => (lstOf S d).map .newt
  | .str, [.int i] => if i.natAbs < 2 ^ 1000 then some (.val (.str (toString i))) else none
  | .str, [.str s] => some (.val (.str s))
  | .abs, [.int i] => some (.val (.int (if i < 0 then -i else i)))
  | .max, [.int i, .int j] => some (.val (.int (if j > i then j else i)))
  | .min, [.int i, .int j] => some (.val (.int (if j < i then j else i)))
  | _, _ => none
/-- the value that a built-in's name holds -/
def Bf.val : Bf → Value
  | .len => .builtin "len"
  | .all => .builtin "all"
  | .any => .builtin "any"
  | .abs => .builtin "abs"
  | .max => .builtin "max"
  | .min => .builtin "min"
  | .list => .type "list"
  | .tuple => .type "tuple"
  | .str => .type "str"
def Bf.name : Bf → Str
  | .len => "len" | .all => "all" | .any => "any" | .abs => "abs" | .max => "max" | .min => "min" | .list => "list" | .tuple => "tuple" | .str => "str"
theorem Bf.boot (b : Bf) : bootBuiltins b.name = some b.val := by cases b <;> decide +kernel
def rC (w : Wd) (m : Bool) (f : Store → List D → Option PR) : List V → Hp → VK → Prop := fun vs H Q => ∃ g S ds, Ok w g S H ∧ Rls w g ds vs ∧ Pst w g (fun _ _ => False) Q (finO m (f S ds) S)
theorem rC_some {w : Wd} {m : Bool} {f : Store → List D → Option PR} {vs : List V} {H : Hp} {Q : VK} (h : rC w m f vs H Q) :
    ∃ g S ds r, Ok w g S H ∧ Rls w g ds vs ∧ f S ds = some r ∧ Pst w g (fun _ _ => False) Q (fin m r S) := by
  obtain ⟨g, S, d, k, r1, p⟩ := h
  cases q : f S d with
  | none => rw [q] at p; exact p.elim
  | some r => rw [q] at p; exact ⟨g, S, d, r, k, r1, q, p⟩
theorem map_some {α β : Type} {f : α → β} {o : Option α} {b : β} (h : o.map f = some b) : ∃ a, o = some a ∧ b = f a := by
  cases o with
  | none => cases h
  | some a => cases h; exact ⟨a, rfl, rfl⟩
theorem bind_some {α β : Type} {f : α → Option β} {o : Option α} {b : β} (h : o.bind f = some b) : ∃ a, o = some a ∧ f a = some b := by
  cases o with
  | none => cases h
  | some a => exact ⟨a, rfl, h⟩
theorem bools_ok {w : Wd} {g : Gh} : ∀ {ds : List D} {vs : List V} {bs : List Bool}, Rls w g ds vs → bools ds = some bs → vs = bs.map V.bl
  | _, _, _, .nil, e => by cases e; rfl
  | _, _, _, .cons (d := d) (ds := ds) r t, e => by
    cases r with
    | bl b =>
      obtain ⟨cs, h, e'⟩ := map_some (show (bools ds).map (b :: ·) = some _ from e)
      rw [e', bools_ok t h]; rfl
    | _ => cases e
theorem len_ok {w : Wd} {g : Gh} {S : Store} {H : Hp} {d : D} {v : V} {n : Nat} (k : Ok w g S H) (r : Rl w g d v) (e : lenP S d = some n) : LenV w.K v H n := by
  have seq : (seqOf S d).map (·.length) = some n → LenV w.K v H n := fun e => by
    obtain ⟨ds, h, e'⟩ := map_some e
    obtain ⟨a, vs, e1, s1, q1⟩ := seqOf_ok k r h
    rw [e1]
    rcases s1 with s1 | s1
    · exact .inl ⟨vs, s1, by rw [e', q1.length]⟩
    · exact .inr ⟨vs, s1, by rw [e', q1.length]⟩
  cases r with
  | str a =>
    have q1 : (if a.length ≤ nMax then some a.length else none) = some n := e
    split at q1
    · rename_i hl; cases q1; exact ⟨nMax_le hl, rfl⟩
    · cases q1
  | _ => exact seq e
theorem log2_ok {i : Int} (h : i.natAbs < 2 ^ 1000) : i.natAbs.log2 < 1920 := by
  by_cases c : i.natAbs = 0
  · rw [c]; decide
  · have := (Nat.log2_lt c).mpr h
    omega
section
variable {X : Cx} {w : Wd} {m : Bool}
theorem bf_ok (hw : X.K = w.K) (hc : X.calm = true) (b : Bf) : CallR X b.val (rC w m fun S => bfP S b) := by
  intro pins s σ H xs us Q I rx h
  obtain ⟨g, S, ds, r, k, rs, q, p⟩ := rC_some h
  cases b with
  | len =>
    cases rs with
    | nil => cases q
    | cons r1 t =>
      cases t with
      | cons _ _ => cases q
      | nil =>
        obtain ⟨n, q0, rfl⟩ := map_some q
        exact call_len pins s σ H _ us Q I rx ⟨_, n, rfl, by rw [hw]; exact len_ok k r1 q0, fin_val p k (.int _)⟩
  | all =>
    cases rs with
    | nil => cases q
    | cons r1 t =>
      cases t with
      | cons _ _ => cases q
      | nil =>
        obtain ⟨bs, q0, rfl⟩ := map_some q
        obtain ⟨es, q1, q2⟩ := bind_some q0
        obtain ⟨a, vs, rfl, s1, t1⟩ := lstOf_ok k r1 q1
        rw [bools_ok t1 q2, ← hw] at s1
        exact cr_all hc pins s σ H _ us Q I rx ⟨a, bs, rfl, s1, fin_val p k (.bl _)⟩
  | any =>
    cases rs with
    | nil => cases q
    | cons r1 t =>
      cases t with
      | cons _ _ => cases q
      | nil =>
        obtain ⟨bs, q0, rfl⟩ := map_some q
        obtain ⟨es, q1, q2⟩ := bind_some q0
        obtain ⟨a, vs, rfl, s1, t1⟩ := lstOf_ok k r1 q1
        rw [bools_ok t1 q2, ← hw] at s1
        exact cr_any hc pins s σ H _ us Q I rx ⟨a, bs, rfl, s1, fin_val p k (.bl _)⟩
  | list =>
    cases rs with
    | nil => cases q
    | cons r1 t =>
      cases t with
      | cons _ _ => cases q
      | nil =>
        obtain ⟨es, q1, rfl⟩ := map_some q
        obtain ⟨a, vs, rfl, s1, t1⟩ := seqOf_ok k r1 q1
        rw [← hw] at s1
        exact call_list_of pins s σ H _ us Q I rx ⟨a, vs, rfl, s1, fin_newl p k t1⟩
  | tuple =>
    cases rs with
    | nil => cases q
    | cons r1 t =>
      cases t with
      | cons _ _ => cases q
      | nil =>
        obtain ⟨es, q1, rfl⟩ := map_some q
        obtain ⟨a, vs, rfl, s1, t1⟩ := lstOf_ok k r1 q1
        rw [← hw] at s1
        exact call_tuple_of pins s σ H _ us Q I rx ⟨a, vs, rfl, .inl ⟨s1, fin_newt p k t1⟩⟩
  | str =>
    cases rs with
    | nil => cases q
    | cons r1 t =>
      cases t with
      | cons _ _ => cases r1 <;> cases q
      | nil =>
        cases r1 with
        | int i =>
          have q1 : (if i.natAbs < 2 ^ 1000 then some (PR.val (.str (toString i))) else none) = some r := q
          split at q1
          · rename_i hl
            cases q1
            exact call_str_int pins s σ H _ us Q I rx ⟨i, rfl, log2_ok hl, fin_val p k (.str _)⟩
          · cases q1
        | str a => cases q; exact SkE.call_str_str pins s σ H _ us Q I rx ⟨a, rfl, fin_val p k (.str _)⟩
        | _ => cases q
  | abs =>
    cases rs with
    | nil => cases q
    | cons r1 t =>
      cases t with
      | cons _ _ => cases r1 <;> cases q
      | nil =>
        cases r1 with
        | int i => cases q; exact call_abs pins s σ H _ us Q I rx ⟨i, rfl, fin_val p k (.int _)⟩
        | _ => cases q
  | max =>
    cases rs with
    | nil => cases q
    | cons r1 t =>
      cases t with
      | nil => cases r1 <;> cases q
      | cons r2 t =>
        cases t with
        | cons _ _ => cases r1 <;> cases r2 <;> cases q
        | nil =>
          cases r1 with
          | int i =>
            cases r2 with
            | int j => cases q; exact call_max2 hc pins s σ H _ us Q I rx ⟨i, j, rfl, fin_val p k (.int _)⟩
            | _ => cases q
          | _ => cases r2 <;> cases q
  | min =>
    cases rs with
    | nil => cases q
    | cons r1 t =>
      cases t with
      | nil => cases r1 <;> cases q
      | cons r2 t =>
        cases t with
        | cons _ _ => cases r1 <;> cases r2 <;> cases q
        | nil =>
          cases r1 with
          | int i =>
            cases r2 with
            | int j => cases q; exact call_min2 hc pins s σ H _ us Q I rx ⟨i, j, rfl, fin_val p k (.int _)⟩
            | _ => cases q
          | _ => cases r2 <;> cases q
end

/-! ### isinstance of a built-in class -/
def typD (S : Store) : D → Option String
  | .non => some "NoneType"
  | .bl _ => some "bool"
  | .int _ => some "int"
  | .str _ => some "str"
  | .tup _ => none
  | .lst _ => some "list"
  | .cst _ => none
  | .loc n => match S.ob n with
    | some (.lst _) => some "list"
    | some (.dct _) => some "dict"
    | _ => none
  | .exn _ => none
theorem typD_ok {w : Wd} {g : Gh} {S : Store} {H : Hp} {d : D} {v : V} {t : String} (k : Ok w g S H) (r : Rl w g d v) (e : typD S d = some t) : TyX w.K H v (.type t) := by
  cases r with
  | non => cases e; exact .base .non
  | bl b => cases e; exact .base (.bl b)
  | int i => cases e; exact .base (.int i)
  | str s => cases e; exact .base (.str s)
  | lst s q => cases e; exact .base (.lst (k.sub _ _ s))
  | @loc n hn =>
    have e' : (match S.ob n with
      | some (.lst _) => some "list"
      | some (.dct _) => some "dict"
      | _ => none) = some t := e
    cases q : S.ob n with
    | none => rw [q] at e'; cases e'
    | some o =>
      rw [q] at e'
      have z := k.ob n o q
      cases o with
      | lst xs => cases e'; obtain ⟨vs, h1, h2⟩ := z; exact .base (.lst h1)
      | dct xs => cases e'; obtain ⟨vs, h1, h2⟩ := z; exact .base (.dK h1)
      | ins _ _ => cases e'
  | _ => cases e
/-- isinstance, of built-in classes -/
def instB (t c : String) : Option Bool := kitB t c

/-! ### methods of built-in classes -/
inductive Mf where
  | append | extend | join | split | partition | endswith | startswith | index | count
  deriving DecidableEq
def Mf.ty : Mf → String
  | .append => "list" | .extend => "list" | .index => "list" | .count => "list"
  | .join => "str" | .split => "str" | .partition => "str" | .endswith => "str" | .startswith => "str"
def Mf.name : Mf → Str
  | .append => "append" | .extend => "extend" | .join => "join" | .split => "split" | .partition => "partition" | .endswith => "endswith" | .startswith => "startswith" | .index => "index" | .count => "count"
def Mf.id : Mf → String
  | .append => "list.append" | .extend => "list.extend" | .join => "str.join" | .split => "str.split" | .partition => "str.partition" | .endswith => "str.endswith" | .startswith => "str.startswith" | .index => "list.index" | .count => "list.count"
theorem Mf.plain (f : Mf) : PlainAttrs f.ty := by
  cases f
  all_goals first | exact PySem.F.plainAttrs_list | exact PySem.F.plainAttrs_str
theorem Mf.slot (f : Mf) : Slot f.ty f.name f.id := by
  cases f
  · exact PySem.F.slot_list_append
  · exact PySem.F.slot_list_extend
  · exact PySem.F.slot_str_join
  · exact PySem.F.slot_str_split
  · exact PySem.F.slot_str_partition
  · exact PySem.F.slot_str_endswith
  · exact PySem.F.slot_str_startswith
  · exact PySem.F.slot_list_index
  · exact PySem.F.slot_list_count
theorem Mf.type (f : Mf) : typeOf (.builtin f.id) = pure (.type "method_descriptor") := by
  cases f
  · exact PySem.F.type_list_append
  · exact PySem.F.type_list_extend
  · exact PySem.F.type_str_join
  · exact PySem.F.type_str_split
  · exact PySem.F.type_str_partition
  · exact PySem.F.type_str_endswith
  · exact PySem.F.type_str_startswith
  · exact PySem.F.type_list_index
  · exact PySem.F.type_list_count
def isTy (S : Store) (t : String) : D → Bool
  | .str _ => t == "str"
  | d => t == "list" && (lstOf S d).isSome
def txts : List D → Option (List Str)
  | [] => some []
  | .str s :: xs => (txts xs).map (s :: ·)
  | _ => none
theorem txts_ok {w : Wd} {g : Gh} : ∀ {ds : List D} {vs : List V} {bs : List Str}, Rls w g ds vs → txts ds = some bs → vs = bs.map V.str
  | _, _, _, .nil, e => by cases e; rfl
  | _, _, _, .cons (d := d) (ds := ds) r t, e => by
    cases r with
    | str b =>
      obtain ⟨cs, h, e'⟩ := map_some (show (txts ds).map (b :: ·) = some _ from e)
      rw [e', txts_ok t h]; rfl
    | _ => cases e
def cntV (x : V) (ys : List V) : Nat := ys.countP fun y => eqV y x
def ixOf (x : V) : List V → Option Nat
  | [] => none
  | y :: ys => if eqV y x = true then some 0 else (ixOf x ys).map (· + 1)
theorem ixOf_ok {x : V} : ∀ {ys : List V} {j : Nat}, ixOf x ys = some j → ∃ z, ys[j]? = some z ∧ eqV z x = true ∧ ∀ (m : Nat) (z' : V), m < j → ys[m]? = some z' → eqV z' x = false
  | [], _, h => by cases h
  | y :: ys, j, h => by
    unfold ixOf at h
    split at h
    · rename_i c
      cases h
      exact ⟨y, rfl, c, fun m z' q => absurd q (Nat.not_lt_zero _)⟩
    · rename_i c
      obtain ⟨i, h1, rfl⟩ := map_some h
      obtain ⟨z, a1, a2, a3⟩ := ixOf_ok h1
      refine ⟨z, by simpa using a1, a2, fun m z' q e => ?_⟩
      cases m with
      | zero =>
        have e' : y = z' := by simpa using e
        rw [← e']; exact Bool.eq_false_iff.mpr c
      | succ m => exact a3 m z' (by omega) (by simpa using e)
def appM (d x : D) : M D := fun S => match d with
  | .loc n => match S.ob n with
    | some (.lst xs) => if xs.length < nMax then .ok .non (S.set n (.lst (xs ++ [x]))) else .bad
    | _ => .bad
  | _ => .bad
def extM (d e : D) : M D := fun S => match d with
  | .loc n => match S.ob n with
    | some (.lst xs) => match lstT S e with
      | some ys => if xs.length + ys.length ≤ nMax then .ok .non (S.set n (.lst (xs ++ ys))) else .bad
      | none => .bad
    | _ => .bad
  | _ => .bad
def mfP (S : Store) : Mf → D → List D → Option PR
  | .join, .str a, [d] => ((seqOf S d).bind txts).bind fun ys => if (ys.map (·.length)).sum + ys.length * a.length ≤ nMax then some (.val (.str (Txt.join a ys))) else none
  | .split, .str a, [.str b] => if (b.length == 0) = false ∧ a.length + 2 ≤ nMax then some (.newl ((Txt.split a b).map .str)) else none
  | .partition, .str a, [.str b] => if (b.length == 0) = false ∧ a.length ≤ nMax then some (.newt [.str (Txt.partition a b).1, .str (Txt.partition a b).2.1, .str (Txt.partition a b).2.2]) else none
  | .endswith, .str a, [.str b] => some (.val (.bl (Txt.endswith a b)))
  | .startswith, .str a, [.str b] => some (.val (.bl (Txt.startswith a b)))
  | .index, d, [x] => (flat x).bind fun v => ((lstOf S d).bind flats).bind fun ys => (ixOf v ys).map fun (j : Nat) => .val (.int (j : Int))
  | .count, d, [x] => (flat x).bind fun v => ((lstOf S d).bind flats).bind fun ys => some (.val (.int (cntV v ys : Nat)))
  | _, _, _ => none
def mfM (m : Bool) (f : Mf) (d : D) (ds : List D) : M D := match f with
  | .append => match ds with
    | [x] => appM d x
    | _ => M.bad
  | .extend => match ds with
    | [x] => extM d x
    | _ => M.bad
  | f => fun S => finO m (mfP S f d ds) S
def rM (w : Wd) (f : D → List D → M D) : V → List V → Hp → VK → Prop := fun x xs H Q => ∃ g S d ds, Ok w g S H ∧ Rl w g d x ∧ Rls w g ds xs ∧ Pst w g (fun _ _ => False) Q (f d ds S)
theorem isTy_ok {w : Wd} {g : Gh} {S : Store} {H : Hp} {d : D} {v : V} {t : String} (k : Ok w g S H) (r : Rl w g d v) (e : isTy S t d = true) : tyV w.K t v H := by
  have gen : (t == "list" && (lstOf S d).isSome) = true → tyV w.K t v H := fun e => by
    rw [Bool.and_eq_true] at e
    obtain ⟨ds, h⟩ := Option.isSome_iff_exists.mp e.2
    obtain ⟨a, vs, e1, s1, q1⟩ := lstOf_ok k r h
    rw [e1]
    exact .inl ⟨eq_of_beq e.1, vs, s1⟩
  cases r with
  | str s => exact eq_of_beq e
  | _ => exact gen e
theorem rls_txts {w : Wd} {g : Gh} : ∀ ys : List Str, Rls w g (ys.map D.str) (ys.map V.str)
  | [] => .nil
  | y :: ys => .cons (.str y) (rls_txts ys)
def rCount (K : PySem.W.Frag) : V → List V → Hp → VK → Prop := fun x xs H Q => ∃ (a : Addr) (ys : List V) (y : V), x = V.ref a ∧ xs = [y] ∧ SqL K H a ys ∧ flatV y = true ∧ ys.all flatV = true ∧ Q (.int (cntV y ys : Nat)) H
theorem cnt_eq {y : V} : ∀ {ys : List V} {its : List Value}, Vals ys its → ys.all flatV = true → its.countP (eqU y) = cntV y ys
  | _, _, .nil, _ => rfl
  | z :: ys, u :: its, .cons r t, h => by
    rw [List.all_cons, Bool.and_eq_true] at h
    have i := cnt_eq (y := y) t h.2
    unfold cntV at i ⊢
    rw [List.countP_cons, List.countP_cons, i, eqU_of r h.1]
theorem mt_count {X : Cx} : MtR X "list.count" (rCount X.K) := by
  intro pins s σ H x xs v us Q I rx rxs h
  obtain ⟨a, ys, y, rfl, rfl, hs, fy, fys, q⟩ := h
  cases rx
  obtain ⟨uy, rfl, ry⟩ := rxs.one
  obtain ⟨its, rv, ⟨⟨cls, dd, data, sl⟩, n, ho, hc, hdn, hd⟩, hlen⟩ := I.list hs
  simp only at hc hd
  subst hc hd
  refine call_meets PySem.F.slot_list_count ⟨_, ho, rfl⟩ PySem.F.entry_list_count (PySem.F.args_list_count_2 _ _) (SeqAt.list_countAt a its.toArray n dd sl uy (eqU y)) ⟨ho, fun u' hu' => mem_eqAt ry fy rv fys u' (by simpa using hu'), ?_⟩
  refine ⟨.int (cntV y ys : Nat), H, I.tok _, ⟨s.toks, ?_⟩, q⟩
  show Value.int ((its.toArray.toList.countP (eqU y) : Nat) : Int) s.toks = Value.int ((cntV y ys : Nat) : Int) s.toks
  rw [show its.toArray.toList = its from rfl, cnt_eq rv fys]
section
variable {X : Cx} {w : Wd} {m : Bool}
theorem mf_ok (hw : X.K = w.K) (f : Mf) : MtR X f.id (rM w (mfM m f)) := by
  intro pins s σ H x xs v us Q I rx rs h
  obtain ⟨g, S, d, ds, k, r1, rd, p⟩ := h
  have some_of : ∀ {o : Option PR}, Pst w g (fun _ _ => False) Q (finO m o S) → ∃ r, o = some r ∧ Pst w g (fun _ _ => False) Q (fin m r S) := fun {o} p => by
    cases o with
    | none => exact p.elim
    | some r => exact ⟨r, rfl, p⟩
  cases f with
  | append =>
    cases rd with
    | nil => exact p.elim
    | cons r2 t =>
      cases t with
      | cons _ _ => exact p.elim
      | @nil =>
        rename_i y vy
        have p' : Pst w g (fun _ _ => False) Q (appM d y S) := p
        cases r1 with
        | @loc n hn =>
          have p2 : Pst w g (fun _ _ => False) Q (match S.ob n with
            | some (.lst xs) => if xs.length < nMax then .ok .non (S.set n (.lst (xs ++ [y]))) else .bad
            | _ => .bad) := p'
          cases q : S.ob n with
          | none => rw [q] at p2; exact p2.elim
          | some o =>
            rw [q] at p2
            cases o with
            | dct _ => exact p2.elim
            | ins _ _ => exact p2.elim
            | lst zs =>
              simp only at p2
              split at p2
              · rename_i hl
                obtain ⟨vs, h1, h2⟩ := k.ob n _ q
                refine mt_append pins s σ H _ _ v us Q I rx rs ⟨_, vs, vy, rfl, rfl, h1, by rw [← h2.length]; exact nMax_lt hl, ?_⟩
                exact p2 g _ (Gh.Le.refl g) (k.setS q ⟨_, rfl, h2.append (.cons r2 .nil)⟩) _ .non
              · exact p2.elim
        | _ => exact p'.elim
  | extend =>
    cases rd with
    | nil => exact p.elim
    | cons r2 t =>
      cases t with
      | cons _ _ => exact p.elim
      | @nil =>
        rename_i y vy
        have p' : Pst w g (fun _ _ => False) Q (extM d y S) := p
        cases r1 with
        | @loc n hn =>
          have p2 : Pst w g (fun _ _ => False) Q (match S.ob n with
            | some (.lst xs) => match lstT S y with
              | some ys => if xs.length + ys.length ≤ nMax then .ok .non (S.set n (.lst (xs ++ ys))) else .bad
              | none => .bad
            | _ => .bad) := p'
          cases q : S.ob n with
          | none => rw [q] at p2; exact p2.elim
          | some o =>
            rw [q] at p2
            cases o with
            | dct _ => exact p2.elim
            | ins _ _ => exact p2.elim
            | lst zs =>
              simp only at p2
              cases q2 : lstT S y with
              | none => rw [q2] at p2; exact p2.elim
              | some ys =>
                rw [q2] at p2
                simp only at p2
                split at p2
                · rename_i hl
                  obtain ⟨vs, h1, h2⟩ := k.ob n _ q
                  obtain ⟨b, ws, rfl, h3, h4⟩ := lstT_ok k r2 q2
                  refine mt_extend pins s σ H _ _ v us Q I rx rs ⟨_, b, vs, ws, rfl, rfl, h1, h3, by rw [← h2.length, ← h4.length]; exact nMax_le hl, ?_⟩
                  exact p2 g _ (Gh.Le.refl g) (k.setS q ⟨_, rfl, h2.append h4⟩) _ .non
                · exact p2.elim
        | _ => exact p'.elim
  | join =>
    obtain ⟨r, q, p⟩ := some_of p
    cases r1 with
    | str a =>
      cases rd with
      | nil => cases q
      | cons r2 t =>
        cases t with
        | cons _ _ => cases q
        | nil =>
          obtain ⟨ys, q1, q2⟩ := bind_some q
          obtain ⟨es, q3, q4⟩ := bind_some q1
          split at q2
          · rename_i hl
            cases q2
            obtain ⟨b, vs, rfl, s1, t1⟩ := seqOf_ok k r2 q3
            rw [txts_ok t1 q4, ← hw] at s1
            exact mt_join pins s σ H _ _ v us Q I rx rs ⟨a, b, ys, rfl, rfl, s1, Nat.le_trans hl (by decide), fin_val p k (.str _)⟩
          · cases q2
    | _ => cases q
  | split =>
    obtain ⟨r, q, p⟩ := some_of p
    cases r1 with
    | str a =>
      cases rd with
      | nil => cases q
      | cons r2 t =>
        cases t with
        | cons _ _ => cases r2 <;> cases q
        | nil =>
          cases r2 with
          | str b =>
            have q1 : (if (b.length == 0) = false ∧ a.length + 2 ≤ nMax then some (PR.newl ((Txt.split a b).map .str)) else none) = some r := q
            split at q1
            · rename_i hl
              cases q1
              exact mt_split pins s σ H _ _ v us Q I rx rs ⟨a, b, rfl, rfl, hl.1, nMax_le hl.2, fin_newl p k (rls_txts _)⟩
            · cases q1
          | _ => cases q
    | _ => cases q
  | partition =>
    obtain ⟨r, q, p⟩ := some_of p
    cases r1 with
    | str a =>
      cases rd with
      | nil => cases q
      | cons r2 t =>
        cases t with
        | cons _ _ => cases r2 <;> cases q
        | nil =>
          cases r2 with
          | str b =>
            have q1 : (if (b.length == 0) = false ∧ a.length ≤ nMax then some (PR.newt [.str (Txt.partition a b).1, .str (Txt.partition a b).2.1, .str (Txt.partition a b).2.2]) else none) = some r := q
            split at q1
            · rename_i hl
              cases q1
              exact mt_partition pins s σ H _ _ v us Q I rx rs ⟨a, b, rfl, rfl, hl.1, nMax_le hl.2, fin_newt p k (.cons (.str _) (.cons (.str _) (.cons (.str _) .nil)))⟩
            · cases q1
          | _ => cases q
    | _ => cases q
  | endswith =>
    obtain ⟨r, q, p⟩ := some_of p
    cases r1 with
    | str a =>
      cases rd with
      | nil => cases q
      | cons r2 t =>
        cases t with
        | cons _ _ => cases r2 <;> cases q
        | nil =>
          cases r2 with
          | str b => cases q; exact mt_endswith pins s σ H _ _ v us Q I rx rs ⟨a, b, rfl, rfl, fin_val p k (.bl _)⟩
          | _ => cases q
    | _ => cases q
  | startswith =>
    obtain ⟨r, q, p⟩ := some_of p
    cases r1 with
    | str a =>
      cases rd with
      | nil => cases q
      | cons r2 t =>
        cases t with
        | cons _ _ => cases r2 <;> cases q
        | nil =>
          cases r2 with
          | str b => cases q; exact mt_startswith pins s σ H _ _ v us Q I rx rs ⟨a, b, rfl, rfl, fin_val p k (.bl _)⟩
          | _ => cases q
    | _ => cases q
  | index =>
    obtain ⟨r, q, p⟩ := some_of p
    cases rd with
    | nil => cases d <;> cases q
    | cons r2 t =>
      cases t with
      | cons _ _ => cases d <;> cases q
      | @nil =>
        rename_i y vy
        have q' : ((flat y).bind fun v => ((lstOf S d).bind flats).bind fun ys => (ixOf v ys).map fun (j : Nat) => PR.val (.int (j : Int))) = some r := by cases d <;> exact q
        obtain ⟨u, q1, q2⟩ := bind_some q'
        obtain ⟨ys, q3, q4⟩ := bind_some q2
        obtain ⟨es, q5, q6⟩ := bind_some q3
        obtain ⟨j, q7, rfl⟩ := map_some q4
        obtain rfl := flat_ok r2 q1
        obtain ⟨b, vs, rfl, s1, t1⟩ := lstOf_ok k r1 q5
        obtain rfl := flats_ok t1 q6
        obtain ⟨z, z1, z2, z3⟩ := ixOf_ok q7
        rw [← hw] at s1
        exact mt_index pins s σ H _ _ v us Q I rx rs ⟨b, vs, _, j, z, rfl, rfl, s1, flat_flatV q1, flats_flatV q6, z1, z2, z3, fin_val p k (.int _)⟩
  | count =>
    obtain ⟨r, q, p⟩ := some_of p
    cases rd with
    | nil => cases d <;> cases q
    | cons r2 t =>
      cases t with
      | cons _ _ => cases d <;> cases q
      | @nil =>
        rename_i y vy
        have q' : ((flat y).bind fun v => ((lstOf S d).bind flats).bind fun ys => some (PR.val (.int (cntV v ys : Nat)))) = some r := by cases d <;> exact q
        obtain ⟨u, q1, q2⟩ := bind_some q'
        obtain ⟨ys, q3, q4⟩ := bind_some q2
        obtain ⟨es, q5, q6⟩ := bind_some q3
        cases q4
        obtain rfl := flat_ok r2 q1
        obtain ⟨b, vs, rfl, s1, t1⟩ := lstOf_ok k r1 q5
        obtain rfl := flats_ok t1 q6
        rw [← hw] at s1
        exact mt_count pins s σ H _ _ v us Q I rx rs ⟨b, vs, _, rfl, rfl, s1, flat_flatV q1, flats_flatV q6, fin_val p k (.int _)⟩
end
end ML

/-! The small language that a def's text is printed in, what it does, and when it is that text. -/
namespace ML
open PySem L2

inductive E where
  | var (i : Nat)
  | cI (i : Int) | cS (s : Str) | cB (b : Bool) | cN
  | glb (k : Nat)
  | bop (m : Bool) (op : Operator) (a b : E)
  | neg (a : E) | nt (a : E)
  | cmp (op : CmpOp) (a b : E) | chn (op op' : CmpOp) (a b c : E)
  | one (a : E) | con (o : BoolOp) (a b : E) | tru (a : E)
  | ite (c a b : E)
  | nil | cons (a b : E)
  | tup (es : E) | lst (m : Bool) (es : E)
  | idx (a i : E) | slc (m : Bool) (a lo hi : E) | off
  | blt (m : Bool) (f : Bf) (es : E) | met (m : Bool) (f : Mf) (o es : E) | call (k : Nat) (es : E)
  | isT (a : E) (t : String)
  | lc (m : Bool) (own : List (Str × Nat)) (i : Nat) (it c e : E)
  | rng (a : E) | rng2 (a b : E) | itr (e : E)
  | frz (e : E)
  | lset (a : E)
  | inW (x : Str) (kvs : List (Str × Key)) (a : E)
  | ixW (x : Str) (kvs : List (Str × Key)) (a : E)
  | isE (a : E) (x : Str) (tb : List (Str × Bool))

/-- a key's value -/
def kD : Key → D
  | .inl i => .int i
  | .inr s => .str s
def lsetP : D → Option PR
  | .tup xs => (txts xs).bind fun ys => if ys.length ≤ 1000 then some (.val (.int (met ys).length)) else none
  | _ => none
def inWP (kvs : List (Str × Key)) : D → Option Bool
  | .str s => some (kvs.lookup s).isSome
  | _ => none
def isEP (tb : List (Str × Bool)) : D → Option Bool
  | .exn c => tb.lookup c
  | _ => none
def ixWP (kvs : List (Str × Key)) : D → Option D
  | .str s => (kvs.lookup s).map kD
  | _ => none
/-! ### what is walked -/
inductive Src where
  | vals (xs : List D)
  | plc (n len : Nat)
def Src.get : Src → Store → Nat → Option D
  | .vals xs, _, i => xs[i]?
  | .plc n _, S, i => (obLst (S.ob n)).bind fun (xs : List D) => xs[i]?
def Src.num : Src → Nat
  | .vals xs => xs.length
  | .plc _ l => l
def Src.over : Src → Store → Bool
  | .vals _, _ => true
  | .plc n l, S => match obLst (S.ob n) with
    | some xs => decide (xs.length ≤ l)
    | none => false
def signs (s : Str) : List D := s.cps.toList.map fun c => .str (oneStr c)
def srcOf (S : Store) : D → Option Src
  | .str s => if s.length ≤ nMax then some (.vals (signs s)) else none
  | .tup xs => some (.vals xs)
  | .lst xs => some (.vals xs)
  | .cst xs => some (.vals xs)
  | .loc n => (obLst (S.ob n)).map fun xs => .plc n xs.length
  | _ => none
def intL (lo : Int) (n : Nat) : List D := (List.range n).map fun (k : Nat) => .int (lo + (k : Int))
def loopC (src : Src) (n : Nat) (f : D → M (Option D)) : Nat → Nat → M Unit
  | 0, _ => fun S => if src.over S = true then .ok () S else .bad
  | k + 1, i => fun S => match src.get S i with
    | none => .bad
    | some x => match f x S with
      | .ok none S1 => loopC src n f k (i + 1) S1
      | .ok (some y) S1 => match obLst (S1.ob n) with
        | some acc => if acc.length < nMax then loopC src n f k (i + 1) (S1.set n (.lst (acc ++ [y]))) else .bad
        | none => .bad
      | _ => .bad
def compM (m : Bool) (src : Src) (f : D → M (Option D)) : M D := fun S =>
  match loopC src S.nx f src.num 0 (S.new (.lst [])) with
  | .ok _ S2 => if m = true then .ok (.loc S.nx) S2 else match obLst (S2.ob S.nx) with
    | some acc => .ok (.lst acc) (S2.del S.nx)
    | none => .bad
  | _ => .bad
def frzM (d : D) : M D := fun S => match d with
  | .loc n => match obLst (S.ob n) with
    | some xs => .ok (.lst xs) (S.del n)
    | none => .bad
  | _ => .bad
def toInt : D → M (Option Int)
  | .int i => M.pure (some i)
  | _ => M.bad
def truM (d : D) : M Bool := fun S => match truP S d with
  | some b => .ok b S
  | none => .bad
def isOff : E → Bool
  | .off => true
  | _ => false
def wipeE (env : Env) : List Nat → Env
  | [] => env
  | v :: vs => (wipeE env vs).set v none

section
variable (Γ : Nat → List D → M D) (gv : List D)
mutual
def evE : E → Env → M D
  | .var i, env => fun S => match env[i]? with
    | some (some d) => .ok d S
    | _ => .bad
  | .cI i, _ => M.pure (.int i)
  | .cS s, _ => M.pure (.str s)
  | .cB b, _ => M.pure (.bl b)
  | .cN, _ => M.pure .non
  | .glb k, _ => fun S => match gv[k]? with
    | some d => .ok d S
    | none => .bad
  | .bop m op a b, env => (evE a env).bind fun x => (evE b env).bind fun y S => finO m (binP S op x y) S
  | .neg a, env => (evE a env).bind fun x => match x with
    | .int i => M.pure (.int (-i))
    | _ => M.bad
  | .nt a, env => (evE a env).bind fun x => (truM x).bind fun b => M.pure (.bl (!b))
  | .cmp op a b, env => (evE a env).bind fun x => (evE b env).bind fun y S => finO false (bV (cmpP S op x y)) S
  | .chn op op' a b c, env => (evE a env).bind fun x => (evE b env).bind fun y S => match cmpP S op x y with
    | some true => ((evE c env).bind fun z S => finO false (bV (cmpP S op' y z)) S) S
    | some false => .ok (.bl false) S
    | none => .bad
  | .one a, env => evE a env
  | .con .And a b, env => (evE a env).bind fun x => (truM x).bind fun t => if t = true then evE b env else M.pure x
  | .con .Or a b, env => (evE a env).bind fun x => (truM x).bind fun t => if t = true then M.pure x else evE b env
  | .ite c a b, env => (evT c env).bind fun t => if t = true then evE a env else evE b env
  | .tup es, env => (evA es env).bind fun xs => if xs.length ≤ nMax then M.pure (.tup xs) else M.bad
  | .lst m es, env => (evA es env).bind fun xs => if xs.length ≤ nMax then fin m (.newl xs) else M.bad
  | .idx a i, env => (evE a env).bind fun x => (evE i env).bind fun y S => finO false ((ixP S x y).map PR.val) S
  | .slc m a lo hi, env => (evE a env).bind fun x => (if isOff lo = true then M.pure none else (evE lo env).bind toInt).bind fun l => (if isOff hi = true then M.pure none else (evE hi env).bind toInt).bind fun h S => finO m (slP S x l h) S
  | .blt m f es, env => (evA es env).bind fun xs S => finO m (bfP S f xs) S
  | .met m f o es, env => (evE o env).bind fun x S => if isTy S f.ty x = true then ((evA es env).bind fun xs => mfM m f x xs) S else .bad
  | .call k es, env => (evA es env).bind fun xs => Γ k xs
  | .isT a t, env => (evE a env).bind fun x S => finO false (bV ((typD S x).bind (instB · t))) S
  | .lc m own i it c e, env => (evI it env).bind fun src => compM m src fun x =>
      (if isOff c = true then M.pure true else evT c ((wipeE env (own.map (·.2))).set i (some x))).bind fun t =>
        if t = true then (evE e ((wipeE env (own.map (·.2))).set i (some x))).bind fun y => M.pure (some y) else M.pure none
  | .frz e, env => (evE e env).bind frzM
  | .lset a, env => (evE a env).bind fun x S => finO false (lsetP x) S
  | .inW _ kvs a, env => (evE a env).bind fun x S => finO false (bV (inWP kvs x)) S
  | .isE a _ tb, env => (evE a env).bind fun x S => finO false (bV (isEP tb x)) S
  | .ixW _ kvs a, env => (evE a env).bind fun x S => finO false ((ixWP kvs x).map PR.val) S
  | _, _ => M.bad
def evA : E → Env → M (List D)
  | .nil, _ => M.pure []
  | .cons a b, env => (evE a env).bind fun x => (evA b env).bind fun xs => M.pure (x :: xs)
  | _, _ => M.bad
def evT : E → Env → M Bool
  | .nt a, env => (evT a env).bind fun b => M.pure (!b)
  | .one a, env => evT a env
  | .con .And a b, env => (evT a env).bind fun t => if t = true then evT b env else M.pure false
  | .con .Or a b, env => (evT a env).bind fun t => if t = true then M.pure true else evT b env
  | .cmp op a b, env => (evE a env).bind fun x => (evE b env).bind fun y S => match cmpP S op x y with
    | some b => .ok b S
    | none => .bad
  | .chn op op' a b c, env => (evE a env).bind fun x => (evE b env).bind fun y S => match cmpP S op x y with
    | some true => ((evE c env).bind fun z S => match cmpP S op' y z with
      | some b => .ok b S
      | none => .bad) S
    | some false => .ok false S
    | none => .bad
  | .tru a, env => (evE a env).bind truM
  | .inW _ kvs a, env => (evE a env).bind fun x S => match inWP kvs x with
    | some b => .ok b S
    | none => .bad
  | _, _ => M.bad
def evI : E → Env → M Src
  | .rng a, env => (evE a env).bind fun x => match x with
    | .int j => if j ≤ (nMax : Int) ∧ -(nMax : Int) ≤ j then M.pure (.vals (intL 0 j.toNat)) else M.bad
    | _ => M.bad
  | .rng2 a b, env => (evE a env).bind fun x => (evE b env).bind fun y => match x, y with
    | .int i, .int j => if (i ≤ (nMax : Int) ∧ -(nMax : Int) ≤ i) ∧ j ≤ (nMax : Int) ∧ -(nMax : Int) ≤ j then M.pure (.vals (intL i (j - i).toNat)) else M.bad
    | _, _ => M.bad
  | .itr e, env => (evE e env).bind fun x S => match srcOf S x with
    | some s => .ok s S
    | none => .bad
  | _, _ => M.bad
end
end

/-! ### statements -/
inductive ST where
  | asg (i : Nat) (e : E) | asgC (i : Nat) (e : E)
  | unp (is : List Nat) (e : E)
  | stI (o i e : E)
  | exp (e : E)
  | ife (c : E) (a b : ST)
  | fr (i : Nat) (it : E) (b : ST)
  | whl (c : E) (b : ST)
  | ret (e : E) | retN | pass
  | rais (c : Str)
  | tryK (b : ST) (x : Str) (tb : List (Str × Bool)) (i h : Nat)
  | nil | seq (a b : ST)
inductive RS where
  | nx (env : Env) (S : Store)
  | rt (d : D) (S : Store)
  | exc (c : Str) (env : Env) (S : Store)
  | bad
/-- an expression first -/
def Rs.thenS {α : Type} (env : Env) : Rs α → (α → Store → RS) → RS
  | .ok a S, k => k a S
  | .exc c S, _ => .exc c env S
  | .bad, _ => .bad
def loopF (src : Src) (body : D → Env → Store → RS) : Nat → Nat → Env → Store → RS
  | 0, _, env, S => if src.over S = true then .nx env S else .bad
  | k + 1, i, env, S => match src.get S i with
    | none => .bad
    | some x => match body x env S with
      | .nx env' S' => loopF src body k (i + 1) env' S'
      | .rt d S' => .rt d S'
      | .exc c env' S' => .exc c env' S'
      | .bad => .bad
def loopW (test : Env → M Bool) (body : Env → Store → RS) : Nat → Env → Store → RS
  | 0, _, _ => .bad
  | k + 1, env, S => (test env S).thenS env fun t S1 => if t = true then match body env S1 with
      | .nx env' S' => loopW test body k env' S'
      | .rt d S' => .rt d S'
      | .exc c env' S' => .exc c env' S'
      | .bad => .bad
    else .nx env S1
/-- the most turns of a while -/
def wMost : Nat := 1000
def setAll : List Nat → List D → Env → Env
  | i :: is, d :: ds, env => setAll is ds (env.set i (some d))
  | _, _, env => env
def tupOf : D → Option (List D)
  | .tup xs => some xs
  | _ => none
def storeM (o i v : D) : M Unit := fun S => match o, i with
  | .loc n, .int k => match obLst (S.ob n) with
    | some xs => match ixN xs.length k with
      | some j => .ok () (S.set n (.lst (xs.set j v)))
      | none => .bad
    | none => .bad
  | _, _ => .bad
section
variable (Γ : Nat → List D → M D) (gv : List D)
def evS : ST → Env → Store → RS
  | .asg i e, env, S => (evE Γ gv e env S).thenS env fun d S1 => .nx (env.set i (some d)) S1
  | .asgC i e, env, S => (evE Γ gv e env S).thenS env fun d S1 => .nx (env.set i (some d)) S1
  | .unp is e, env, S => (evE Γ gv e env S).thenS env fun d S1 => match tupOf d with
    | some xs => if xs.length = is.length then .nx (setAll is xs env) S1 else .bad
    | none => .bad
  | .stI o i e, env, S => (evE Γ gv e env S).thenS env fun v S1 => (evE Γ gv o env S1).thenS env fun x S2 => (evE Γ gv i env S2).thenS env fun y S3 => (storeM x y v S3).thenS env fun _ S4 => .nx env S4
  | .exp e, env, S => (evE Γ gv e env S).thenS env fun _ S1 => .nx env S1
  | .ife c a b, env, S => (evT Γ gv c env S).thenS env fun t S1 => if t = true then evS a env S1 else evS b env S1
  | .fr i it b, env, S => (evI Γ gv it env S).thenS env fun src S1 => loopF src (fun x env S => evS b (env.set i (some x)) S) src.num 0 env S1
  | .whl c b, env, S => loopW (evT Γ gv c) (fun env S => evS b env S) wMost env S
  | .ret e, env, S => (evE Γ gv e env S).thenS env fun d S1 => .rt d S1
  | .retN, _, S => .rt .non S
  | .pass, env, S => .nx env S
  | .rais c, env, S => .exc c env S
  | .tryK b _ tb i h, env, S => match evS b env S with
    | .exc c env' S' => match tb.lookup c with
      | some true => if i < env'.length then .nx ((env'.set h (some (.exn c))).set i none) S' else .bad
      | some false => .exc c env' S'
      | none => .bad
    | r => r
  | .nil, env, S => .nx env S
  | .seq a b, env, S => match evS a env S with
    | .nx env' S' => evS b env' S'
    | .rt d S' => .rt d S'
    | .exc c env' S' => .exc c env' S'
    | .bad => .bad
end

/-! ### defs -/
structure Fn where
  name : Str
  ps : List Str
  N : List Str
  body : ST
def startE (n : Nat) (ds : List D) : Env := ds.map some ++ List.replicate (n - ds.length) none
def endF : RS → Rs D
  | .nx _ S => .ok .non S
  | .rt d S => .ok d S
  | .exc c _ S => .exc c S
  | .bad => .bad
structure Tab where
  fns : List Fn
  cst : List (Str × D)
  blt : List Str
  exc : List Str
  dct : List (Str × List (Str × Key)) := []
  cls : List Str := []
  sub : List ((Str × Str) × Bool) := []
def sem (T : Tab) : Nat → Nat → List D → M D
  | 0, _, _ => M.bad
  | n + 1, k, ds => fun S => match T.fns[k]? with
    | some f => if ds.length = f.ps.length then endF (evS (sem T n) (T.cst.map (·.2)) f.body (startE f.N.length ds) S) else .bad
    | none => .bad

def dctB (T : Tab) (d : Str) (kvs : List (Str × Key)) : Bool := T.dct.any fun q => decide (q = (d, kvs))
theorem dctB_mem {T : Tab} {d : Str} {kvs : List (Str × Key)} (h : dctB T d kvs = true) : (d, kvs) ∈ T.dct := by
  obtain ⟨q, hq, e⟩ := List.any_eq_true.mp h
  rw [← of_decide_eq_true e]
  exact hq
def subB (T : Tab) (x : Str) (tb : List (Str × Bool)) : Bool := tb.all fun q => T.sub.any fun r => decide (r = ((q.1, x), q.2))
theorem subB_mem {T : Tab} {x c : Str} {tb : List (Str × Bool)} {b : Bool} (h : subB T x tb = true) (e : tb.lookup c = some b) : ((c, x), b) ∈ T.sub := by
  have hm : (c, b) ∈ tb := by
    clear h
    induction tb with
    | nil => cases e
    | cons a r ih =>
      obtain ⟨a1, a2⟩ := a
      rw [List.lookup_cons] at e
      split at e
      · rename_i q
        cases e
        rw [eq_of_beq q]
        exact .head _
      · exact .tail _ (ih e)
  have z := List.all_eq_true.mp h _ hm
  obtain ⟨q, hq, e⟩ := List.any_eq_true.mp z
  rw [← of_decide_eq_true e]
  exact hq
/-! ### when it is the text -/
def visB (sc : Scope) (x : Str) : Bool := match sc.names.lookup x with
  | some .local => true
  | some .cell => true
  | some .free => true
  | _ => false
def locB (sc : Scope) (x : Str) : Bool := match sc.names.lookup x with
  | some .local => true
  | some .cell => true
  | _ => false
def glB (sc : Scope) (x : Str) : Bool := match sc.names.lookup x with
  | some .globalImplicit => true
  | _ => false
def nmB (x : Str) : Bool := !(x == ("__debug__" : Str)) && !(x == ("__classdict__" : Str)) && !decide (x = ("__name__" : Str))
def noSet : Expr → Bool
  | .Set .. => false
  | _ => true
def noStar : Expr → Bool
  | .Starred .. => false
  | _ => true
def noSlice : Expr → Bool
  | .Slice .. => false
  | _ => true
def plainT : Expr → Bool
  | .UnaryOp .. => false
  | .BoolOp .. => false
  | .IfExp .. => false
  | .Compare .. => false
  | _ => true
/-- no call super() -/
def noSup : Expr → Bool
  | .Call (.Name _ _) [] [] _ => false
  | _ => true
def noComp : Expr → Bool
  | .ListComp .. => false
  | .SetComp .. => false
  | .DictComp .. => false
  | _ => true
def lcOf : List Comprehension → Option (Str × Expr × List Expr)
  | [⟨.Name y _, iter, ifs, k⟩] => if k = 0 then some (y, iter, ifs) else none
  | _ => none
theorem lcOf_some {gs : List Comprehension} {y : Str} {iter : Expr} {ifs : List Expr} (h : lcOf gs = some (y, iter, ifs)) : ∃ py, gs = [⟨.Name y py, iter, ifs, 0⟩] := by
  unfold lcOf at h
  split at h
  · split at h
    · rename_i hk
      cases h
      rw [hk]
      exact ⟨_, rfl⟩
    · cases h
  · cases h
def chkOp (off : Bool) (c : Expr → Bool) : Option Expr → Bool
  | none => off
  | some y => !off && c y
def chkIf (off : Bool) (c : Expr → Bool) : List Expr → Bool
  | [] => off
  | [y] => !off && c y
  | _ => false
section
variable (T : Tab)
mutual
def chkE (N : List Str) (sc : Scope) : E → Expr → Bool
  | .var i, .Name x _ => decide (N[i]? = some x) && visB sc x && nmB x
  | .cI i, .Constant (.int j) _ _ => decide (i = j)
  | .cS s, .Constant (.str t) _ _ => decide (s = t)
  | .cB b, .Constant (.bool c) _ _ => decide (b = c)
  | .cN, .Constant .none _ _ => true
  | .glb k, .Name x _ => decide ((T.cst[k]?).map (·.1) = some x) && glB sc x && nmB x
  | .bop _ op a b, .BinOp x o y _ => decide (op = o) && chkE N sc a x && chkE N sc b y
  | .neg a, .UnaryOp .USub x _ => chkE N sc a x
  | .nt a, .UnaryOp .Not x _ => chkE N sc a x
  | .cmp op a b, .Compare x [o] [y] _ => decide (op = o) && noSet y && chkE N sc a x && chkE N sc b y
  | .chn op op' a b c, .Compare x [o, o'] [y, z] _ => decide (op = o) && decide (op' = o') && noSet z && chkE N sc a x && chkE N sc b y && chkE N sc c z
  | .one a, .BoolOp _ [x] _ => chkE N sc a x
  | .con o a b, .BoolOp o' (x :: y :: r) pos => decide (o = o') && chkE N sc a x && chkE N sc b (.BoolOp o' (y :: r) pos)
  | .ite c a b, .IfExp t x y _ => chkT N sc c t && chkE N sc a x && chkE N sc b y
  | .tup es, .Tuple xs _ _ => chkA N sc es xs
  | .lst _ es, .List xs _ => chkA N sc es xs
  | .idx a i, .Subscript x y _ => noSlice y && chkE N sc a x && chkE N sc i y
  | .slc _ a lo hi, .Subscript x (.Slice l h none _) _ => chkE N sc a x && chkOp (isOff lo) (chkE N sc lo) l && chkOp (isOff hi) (chkE N sc hi) h
  | .blt _ f es, .Call (.Name x _) (y :: ys) [] _ => decide (x = f.name) && glB sc x && nmB x && decide (x ∈ T.blt) && chkA N sc es (y :: ys)
  | .met _ f o es, .Call (.Attribute x m apos) (y :: ys) [] pos => decide (m = f.name) && (apos.endLine == pos.line) && noSup x && decide (ys.length < 20) && chkE N sc o x && chkA N sc es (y :: ys)
  | .call k es, .Call (.Name x _) ys [] _ => decide ((T.fns[k]?).map (·.name) = some x) && glB sc x && nmB x && chkA N sc es ys
  | .isT a t, .Call (.Name x _) [y, .Name z _] [] _ => decide (x = ("isinstance" : Str)) && glB sc x && decide (x ∈ T.blt) && glB sc z && nmB z && decide (z ∈ T.blt) && decide (bootBuiltins z = some (.type t)) && noStar y && chkE N sc a y
  | .lc _ own i it c e, .ListComp elt gs scope _ => match lcOf gs with
    | some (y, iter, ifs) => blkC N sc scope own && decide (i ∈ own.map (·.2)) && decide (N[i]? = some y) && locB scope y && noSet iter && chkI N sc it iter && chkIf (isOff c) (chkT N (relS scope sc) c) ifs && chkE N (relS scope sc) e elt
    | none => false
  | .frz e, x => chkE N sc e x
  | .lset a, .Call (.Name x _) [.Call (.Name y _) [z] [] _] [] _ => decide (x = ("len" : Str)) && decide (y = ("set" : Str)) && glB sc x && glB sc y && decide (x ∈ T.blt) && decide (y ∈ T.blt) && noStar z && chkE N sc a z
  | .isE a c tb, .Call (.Name x _) [y, .Name z _] [] _ => decide (x = ("isinstance" : Str)) && glB sc x && decide (x ∈ T.blt) && glB sc z && nmB z && decide (z = c) && decide (c ∈ T.cls) && subB T c tb && noStar y && chkE N sc a y
  | .inW d kvs a, .Compare x [.In] [.Name y _] _ => decide (y = d) && glB sc y && nmB y && dctB T d kvs && chkE N sc a x
  | .ixW d kvs a, .Subscript (.Name y _) z _ => decide (y = d) && glB sc y && nmB y && dctB T d kvs && noSlice z && chkE N sc a z
  | _, _ => false
def chkA (N : List Str) (sc : Scope) : E → List Expr → Bool
  | .nil, [] => true
  | .cons a b, x :: xs => noStar x && chkE N sc a x && chkA N sc b xs
  | _, _ => false
def chkT (N : List Str) (sc : Scope) : E → Expr → Bool
  | .nt a, .UnaryOp .Not x _ => chkT N sc a x
  | .one a, .BoolOp _ [x] _ => chkT N sc a x
  | .con o a b, .BoolOp o' (x :: y :: r) pos => decide (o = o') && chkT N sc a x && chkT N sc b (.BoolOp o' (y :: r) pos)
  | .cmp op a b, .Compare x [o] [y] _ => decide (op = o) && noSet y && chkE N sc a x && chkE N sc b y
  | .chn op op' a b c, .Compare x [o, o'] [y, z] _ => decide (op = o) && decide (op' = o') && noSet z && chkE N sc a x && chkE N sc b y && chkE N sc c z
  | .tru a, x => plainT x && chkE N sc a x
  | .inW d kvs a, .Compare x [.In] [.Name y _] _ => decide (y = d) && glB sc y && nmB y && dctB T d kvs && chkE N sc a x
  | _, _ => false
def chkI (N : List Str) (sc : Scope) : E → Expr → Bool
  | .rng a, .Call (.Name x _) [y] [] _ => decide (x = ("range" : Str)) && glB sc x && decide (x ∈ T.blt) && noStar y && chkE N sc a y
  | .rng2 a b, .Call (.Name x _) [y, z] [] _ => decide (x = ("range" : Str)) && glB sc x && decide (x ∈ T.blt) && noStar y && noStar z && chkE N sc a y && chkE N sc b z
  | .itr e, x => chkE N sc e x
  | _, _ => false
end
/-- whether the comprehension's store and the statement's are exchanged -/
def swB (sc : Scope) (y : Str) (py : Pos) : Expr → Bool
  | .ListComp _ _ s pos => (match sc.names.lookup y with
      | some .local => true
      | _ => false) && (py.line == pos.line) && !(s.names.any fun (n, k) => n == y && (k == .local || k == .cell))
  | _ => false
def nmsB (N : List Str) (sc : Scope) : List Nat → List Expr → Bool
  | [], [] => true
  | i :: is, .Name x _ :: es => decide (N[i]? = some x) && locB sc x && nmsB N sc is es
  | _, _ => false
def isTup : Expr → Bool
  | .Tuple .. => true
  | _ => false
def noDSC : Expr → Bool
  | .SetComp .. => false
  | .DictComp .. => false
  | _ => true
def isLc : E → Bool
  | .lc .. => true
  | _ => false
def tgName : List Expr → Option (Str × Pos)
  | [.Name x p] => some (x, p)
  | _ => none
def tgTup : List Expr → Option (List Expr)
  | [.Tuple es _ _] => some es
  | _ => none
def tgSub : List Expr → Option (Expr × Expr)
  | [.Subscript x y _] => some (x, y)
  | _ => none
def excOf : Option Expr → Option Expr → Option Str
  | some (.Call (.Name x _) [.Constant (.str _) _ _] [] _), none => some x
  | _, _ => none
def tryH : List ExceptHandler → Option (Str × Str × Str × Str)
  | [.ExceptHandler (some (.Name z _)) (some n) [.Assign [.Name hn _] (.Name en _) _] _] => some (z, n, hn, en)
  | _ => none
def tryOf : Stmt → Option (List Stmt × Str × Str × Str × Str)
  | .Try body hs [] [] _ => (tryH hs).map fun q => (body, q)
  | _ => none
theorem tryH_some {hs : List ExceptHandler} {z n hn en : Str} (h : tryH hs = some (z, n, hn, en)) : ∃ p1 p2 p3 p4 p5, hs = [.ExceptHandler (some (.Name z p1)) (some n) [.Assign [.Name hn p2] (.Name en p3) p4] p5] := by
  unfold tryH at h
  split at h
  · cases h; exact ⟨_, _, _, _, _, rfl⟩
  · cases h
theorem tryOf_some {s : Stmt} {body : List Stmt} {z n hn en : Str} (h : tryOf s = some (body, z, n, hn, en)) : ∃ p1 p2 p3 p4 p5 p6, s = .Try body [.ExceptHandler (some (.Name z p1)) (some n) [.Assign [.Name hn p2] (.Name en p3) p4] p5] [] [] p6 := by
  unfold tryOf at h
  split at h
  · rename_i b hs pos
    cases q : tryH hs with
    | none => rw [q] at h; cases h
    | some r =>
      rw [q] at h
      cases h
      obtain ⟨p1, p2, p3, p4, p5, rfl⟩ := tryH_some q
      exact ⟨p1, p2, p3, p4, p5, _, rfl⟩
  · cases h
mutual
def chk1 (N : List Str) (sc : Scope) : ST → Stmt → Bool
  | .asg i e, .Assign ts v _ => match tgName ts with
    | some (x, py) => decide (N[i]? = some x) && locB sc x && noDSC v && !swB sc x py v && chkE T N sc e v
    | none => false
  | .asgC i e, .Assign ts v _ => match tgName ts with
    | some (x, py) => decide (N[i]? = some x) && swB sc x py v && isLc e && chkE T N sc e v
    | none => false
  | .unp is e, .Assign ts v _ => match tgTup ts with
    | some es => nmsB N sc is es && noComp v && !isTup v && chkE T N sc e v
    | none => false
  | .stI o i e, .Assign ts v _ => match tgSub ts with
    | some (x, y) => noSlice y && noComp v && chkE T N sc o x && chkE T N sc i y && chkE T N sc e v
    | none => false
  | .exp e, .Expr v _ => noComp v && chkE T N sc e v
  | .ife c s t, .If v x y _ => chkT T N sc c v && chkS N sc s x && chkS N sc t y
  | .fr i it s, .For tg v y z _ => match tgName [tg] with
    | some (x, _) => z.isEmpty && decide (N[i]? = some x) && locB sc x && noSet v && chkI T N sc it v && chkS N sc s y
    | none => false
  | .whl c s, .While v y z _ => z.isEmpty && chkT T N sc c v && chkS N sc s y
  | .ret e, .Return (some v) _ => chkE T N sc e v
  | .retN, .Return none _ => true
  | .pass, .Pass _ => true
  | .tryK b x tb i h, s => match tryOf s with
    | some (body, z, n, hn, en) => decide (z = x) && glB sc z && nmB z && decide (x ∈ T.cls) && subB T x tb && decide (N[i]? = some n) && decide (sc.names.lookup n = some .local) && nmB n && decide (N[h]? = some hn) && locB sc hn && decide (en = n) && decide (i ≠ h) && chkS N sc b body
    | none => false
  | .rais c, .Raise e z _ => decide (excOf e z = some c) && decide (c ∈ T.exc) && glB sc c && nmB c
  | _, _ => false
def chkS (N : List Str) (sc : Scope) : ST → List Stmt → Bool
  | .nil, [] => true
  | .seq a b, s :: r => chk1 N sc a s && chkS N sc b r
  | _, _ => false
end
end
end ML

/-! What the small language says of an expression is what the model does. -/
namespace ML
open PySem PySem.Spec PyProof.Rows L2

/-! ### written dicts -/
/-- what a written dict has at a key -/
def KvOk (r : Option Value) : Option Key → Prop
  | some k => ∃ u, r = some u ∧ RelV (kV k) u
  | none => r = none
def DctAt (K : PySem.W.Frag) (wd : World) (mg : Str → Option Value) (x : Str) (kvs : List (Str × Key)) : Prop :=
  ∃ (p : Addr) (es : Array DictEntry) (n : Nat), mg x = some (.ref p) ∧ KDict K wd p es n ∧ ∀ z, ∃ r, PySem.W.nsIn K p z = some r ∧ KvOk r (kvs.lookup z)
/-! ### error classes -/
/-- what a class's name holds -/
def NameIs (mg : Str → Option Value) (x : Str) (u : Value) : Prop := mg x = some u ∨ (mg x = none ∧ bootBuiltins x = some u)
def ClsAt (mg : Str → Option Value) (x : Str) : Prop := ∃ v u, ClsV v u ∧ NameIs mg x u
def SubAt (K : PySem.W.Frag) (mg : Str → Option Value) (C : Addr) (x : Str) (b : Bool) : Prop := ExcC K C ∧ ∀ u, NameIs mg x u → PySem.W.kitOne K (.ref C) u = some b ∧ PySem.W.exmOne K (.ref C) u = some b
/-! ### the readings -/
def Ew (w : Wd) (W : WX) (σ : L2.St) : Str → Hp → Prop := fun c H' => ∀ C, w.cl c = some C → W (.ref C) none σ H'
def liftE (w : Wd) (f : Env → M D) (W : WX) : TE := fun σ H Q => ∃ g S env, Ok w g S H ∧ REnv w g env σ ∧ Pst w g (Ew w W σ) Q (f env S)
def liftA (w : Wd) (f : Env → M (List D)) (W : WX) : TA := fun σ H Q => ∃ g S env, Ok w g S H ∧ REnv w g env σ ∧ PstA w g (Ew w W σ) Q (f env S)
def liftT (w : Wd) (f : Env → M Bool) (W : WX) : TT := fun σ H Q => ∃ g S env, Ok w g S H ∧ REnv w g env σ ∧ PstT w g (Ew w W σ) Q (f env S)
/-- an iterator that gives what src gives -/
def ItOk (w : Wd) (g : Gh) (src : Src) (J : It) : Prop := ∀ g' S' H', g.Le g' → Ok w g' S' H' → ∀ (i : Nat),
  (∀ d, src.get S' i = some d → J.go i H' ∧ ∀ x H'', J.yld i H' x H'' → H'' = H' ∧ Rl w g' d x) ∧ (src.num ≤ i → src.over S' = true → J.stop i H')
theorem ItOk.mono {w : Wd} {g g1 : Gh} {src : Src} {J : It} (l : g.Le g1) (h : ItOk w g src J) : ItOk w g1 src J := fun g' S' H' l' => h g' S' H' (l.trans l')
def liftI (w : Wd) (f : Env → M Src) (W : WX) : TI := fun σ H R => ∃ g S env, Ok w g S H ∧ REnv w g env σ ∧ Pg w g (Ew w W σ) (fun src g' H' => ∀ J, ItOk w g' src J → R J H') (f env S)

section
variable {w : Wd} {W : WX} {σ : L2.St} {g : Gh} {S : Store} {H : Hp} {env : Env}
theorem Pg.imp {α : Type} {E : Str → Hp → Prop} {R R' : α → Gh → Hp → Prop} (h : ∀ a g' H', g.Le g' → R a g' H' → R' a g' H') : ∀ {r : Rs α}, Pg w g E R r → Pg w g E R' r
  | .ok _ _, p => fun g' H' l k => h _ _ _ l (p g' H' l k)
  | .exc _ _, p => p
  | .bad, p => p
theorem liftE_mono {f : Env → M D} {Q Q' : VK} (h : ∀ x H1, Q x H1 → Q' x H1) (q : liftE w f W σ H Q) : liftE w f W σ H Q' := by
  obtain ⟨g, S, env, ok, re, p⟩ := q
  exact ⟨g, S, env, ok, re, p.imp fun d g' H' _ z v r => h _ _ (z v r)⟩
theorem liftA_mono {f : Env → M (List D)} {Q Q' : List V → Hp → Prop} (h : ∀ x H1, Q x H1 → Q' x H1) (q : liftA w f W σ H Q) : liftA w f W σ H Q' := by
  obtain ⟨g, S, env, ok, re, p⟩ := q
  exact ⟨g, S, env, ok, re, p.imp fun d g' H' _ z v r => h _ _ (z v r)⟩
theorem liftT_mono {f : Env → M Bool} {Q Q' : Bool → Hp → Prop} (h : ∀ x H1, Q x H1 → Q' x H1) (q : liftT w f W σ H Q) : liftT w f W σ H Q' := by
  obtain ⟨g, S, env, ok, re, p⟩ := q
  exact ⟨g, S, env, ok, re, p.imp fun d g' H' _ z => h _ _ z⟩
theorem liftI_mono {f : Env → M Src} {Q Q' : It → Hp → Prop} (h : ∀ x H1, Q x H1 → Q' x H1) (q : liftI w f W σ H Q) : liftI w f W σ H Q' := by
  obtain ⟨g, S, env, ok, re, p⟩ := q
  exact ⟨g, S, env, ok, re, p.imp fun d g' H' _ z v r => h _ _ (z v r)⟩
/-- a part, then the rest -/
theorem bE {β : Type} {f : Env → M D} {k : D → M β} {R : β → Gh → Hp → Prop} (ok : Ok w g S H) (re : REnv w g env σ) (p : Pg w g (Ew w W σ) R ((f env).bind k S)) :
    liftE w f W σ H (fun x H1 => ∃ g1 S1 d, g.Le g1 ∧ Ok w g1 S1 H1 ∧ Rl w g1 d x ∧ Pg w g1 (Ew w W σ) R (k d S1)) := by
  refine ⟨g, S, env, ok, re, ?_⟩
  unfold M.bind at p
  cases q : f env S with
  | ok d S1 => rw [q] at p; exact fun g1 H1 l k1 v r => ⟨g1, S1, d, l, k1, r, p.mono l⟩
  | exc c S1 => rw [q] at p; exact p
  | bad => rw [q] at p; exact p
theorem bA {β : Type} {f : Env → M (List D)} {k : List D → M β} {R : β → Gh → Hp → Prop} (ok : Ok w g S H) (re : REnv w g env σ) (p : Pg w g (Ew w W σ) R ((f env).bind k S)) :
    liftA w f W σ H (fun x H1 => ∃ g1 S1 d, g.Le g1 ∧ Ok w g1 S1 H1 ∧ Rls w g1 d x ∧ Pg w g1 (Ew w W σ) R (k d S1)) := by
  refine ⟨g, S, env, ok, re, ?_⟩
  unfold M.bind at p
  cases q : f env S with
  | ok d S1 => rw [q] at p; exact fun g1 H1 l k1 v r => ⟨g1, S1, d, l, k1, r, p.mono l⟩
  | exc c S1 => rw [q] at p; exact p
  | bad => rw [q] at p; exact p
theorem bT {β : Type} {f : Env → M Bool} {k : Bool → M β} {R : β → Gh → Hp → Prop} (ok : Ok w g S H) (re : REnv w g env σ) (p : Pg w g (Ew w W σ) R ((f env).bind k S)) :
    liftT w f W σ H (fun b H1 => ∃ g1 S1, g.Le g1 ∧ Ok w g1 S1 H1 ∧ Pg w g1 (Ew w W σ) R (k b S1)) := by
  refine ⟨g, S, env, ok, re, ?_⟩
  unfold M.bind at p
  cases q : f env S with
  | ok d S1 => rw [q] at p; exact fun g1 H1 l k1 => ⟨g1, S1, l, k1, p.mono l⟩
  | exc c S1 => rw [q] at p; exact p
  | bad => rw [q] at p; exact p
theorem bI {β : Type} {f : Env → M Src} {k : Src → M β} {R : β → Gh → Hp → Prop} (ok : Ok w g S H) (re : REnv w g env σ) (p : Pg w g (Ew w W σ) R ((f env).bind k S)) :
    liftI w f W σ H (fun J H1 => ∃ g1 S1 src, g.Le g1 ∧ Ok w g1 S1 H1 ∧ ItOk w g1 src J ∧ Pg w g1 (Ew w W σ) R (k src S1)) := by
  refine ⟨g, S, env, ok, re, ?_⟩
  unfold M.bind at p
  cases q : f env S with
  | ok d S1 => rw [q] at p; exact fun g1 H1 l k1 J r => ⟨g1, S1, d, l, k1, r, p.mono l⟩
  | exc c S1 => rw [q] at p; exact p
  | bad => rw [q] at p; exact p
/-- what raises nothing -/
theorem noX {E E' : Str → Hp → Prop} {m : Bool} {Q : VK} {o : Option PR} (p : Pst w g E Q (finO m o S)) : Pst w g E' Q (finO m o S) := by
  cases o with
  | none => exact p
  | some r =>
    cases r with
    | val d => exact p
    | newt d => exact p
    | newl d => cases m <;> exact p
theorem noX1 {E E' : Str → Hp → Prop} {m : Bool} {Q : VK} {r : PR} (p : Pst w g E Q (fin m r S)) : Pst w g E' Q (fin m r S) := noX (o := some r) p
def NoExc {α : Type} (r : Rs α) : Prop := ∀ c S, r ≠ .exc c S
theorem Pg.noexc {α : Type} {E E' : Str → Hp → Prop} {R : α → Gh → Hp → Prop} : ∀ {r : Rs α}, NoExc r → Pg w g E R r → Pg w g E' R r
  | .ok _ _, _, p => p
  | .exc c S, h, _ => absurd rfl (h c S)
  | .bad, _, p => p
theorem ne_app (d x : D) (S : Store) : NoExc (appM d x S) := by
  intro c S' h
  unfold appM at h
  split at h
  · split at h
    · split at h <;> cases h
    · cases h
  · cases h
theorem ne_ext (d x : D) (S : Store) : NoExc (extM d x S) := by
  intro c S' h
  unfold extM at h
  split at h
  · split at h
    · split at h
      · split at h <;> cases h
      · cases h
    · cases h
  · cases h
theorem noXm {E E' : Str → Hp → Prop} {m : Bool} {Q : VK} {f : Mf} {d : D} {ds : List D} (p : Pst w g E Q (mfM m f d ds S)) : Pst w g E' Q (mfM m f d ds S) := by
  cases f with
  | append =>
    match ds, p with
    | [], p => exact p.elim
    | [x], p => exact Pg.noexc (ne_app d x S) p
    | _ :: _ :: _, p => exact p.elim
  | extend =>
    match ds, p with
    | [], p => exact p.elim
    | [x], p => exact Pg.noexc (ne_ext d x S) p
    | _ :: _ :: _, p => exact p.elim
  | _ => exact noX (E' := E') p
end

theorem _root_.L2.PE.imp {X : Cx} {e : Expr} {t t' : TE} (h : ∀ σ H Q, t' σ H Q → t σ H Q) (p : PE X e t) : PE X e t' := ⟨fun pins s σ H Q I q => p.run pins s σ H Q I (h σ H Q q)⟩
theorem _root_.L2.PT.imp {X : Cx} {e : Expr} {t t' : TT} (h : ∀ σ H Q, t' σ H Q → t σ H Q) (p : PT X e t) : PT X e t' := ⟨fun pins s σ H Q I q => p.run pins s σ H Q I (h σ H Q q)⟩
theorem _root_.L2.PW.imp {X : Cx} {e : Expr} {t t' : TT} (h : ∀ σ H Q, t' σ H Q → t σ H Q) (p : PW X e t) : PW X e t' := ⟨fun wh pins s σ H Q I q => p.run wh pins s σ H Q I (h σ H Q q)⟩
theorem _root_.L2.PA.imp {X : Cx} {e : List Expr} {t t' : TA} (h : ∀ σ H Q, t' σ H Q → t σ H Q) (p : PA X e t) : PA X e t' := ⟨fun pos pins s σ H Q I q => p.run pos pins s σ H Q I (h σ H Q q)⟩
theorem _root_.L2.PI.imp {X : Cx} {tg e : Expr} {t t' : TI} (h : ∀ σ H Q, t' σ H Q → t σ H Q) (p : PI X tg e t) : PI X tg e t' := ⟨fun pins s σ H Q I q => p.run pins s σ H Q I (h σ H Q q)⟩

/-! ### the context -/
def gvs (T : Tab) : List D := T.cst.map (·.2)
def spF (T : Tab) (w : Wd) (n k : Nat) : Sp := fun vs H Q Ex => ∃ g S ds, Ok w g S H ∧ Rls w g ds vs ∧ (∃ f, T.fns[k]? = some f ∧ ds.length = f.ps.length) ∧ Pst w g (fun c H' => ∀ C, w.cl c = some C → Ex (.ref C) none H') Q (sem T n k ds S)
structure Good (T : Tab) (w : Wd) (n : Nat) (N : List Str) (sc : Scope) (W : WX) (X : Cx) : Prop where
  hN : X.N = N
  nd : N.Nodup
  hs : X.env.scope = sc
  hw : X.K = w.K
  calm : X.calm = true
  room : Room n X.A
  tk : Takes X W
  cst : ∀ (k : Nat) (x : Str) (d : D), T.cst[k]? = some (x, d) → ∃ u v, X.mg x = some u ∧ RelV v u ∧ ∀ g, Rl w g d v
  blt : ∀ x, x ∈ T.blt → X.mg x = none
  dct : ∀ x kvs, (x, kvs) ∈ T.dct → DctAt X.K X.w X.mg x kvs
  cls : ∀ x, x ∈ T.cls → ClsAt X.mg x
  sub : ∀ c x b, ((c, x), b) ∈ T.sub → ∃ C, w.cl c = some C ∧ SubAt X.K X.mg C x b
  fn : ∀ (k : Nat) (f : Fn), T.fns[k]? = some f → ∃ a fd, X.mg f.name = some (.ref a) ∧ PySem.W.keepIn X.K (.ref a) = true ∧ Binds X.K fd f.ps [] ∧ FnOk X.prog X.w X.K X.mg X.base (L2.CX X.prog X.w) n a fd f.ps (spF T w n k)
section
variable {T : Tab} {w : Wd} {n : Nat} {N : List Str} {sc : Scope} {W : WX} {X : Cx}
theorem Good.vis (G : Good T w n N sc W X) {x : Str} (h : visB sc x = true) : Vis X.env.scope x := by
  rw [G.hs]
  unfold visB at h
  split at h
  · exact .inl (by assumption)
  · exact .inr (.inl (by assumption))
  · exact .inr (.inr (by assumption))
  · cases h
theorem Good.loc (G : Good T w n N sc W X) {x : Str} (h : locB sc x = true) : Loc X.env.scope x := by
  rw [G.hs]
  unfold locB at h
  split at h
  · exact .inl (by assumption)
  · exact .inr (by assumption)
  · cases h
theorem Good.gl (G : Good T w n N sc W X) {x : Str} (h : glB sc x = true) : Gl X x := by
  show X.env.scope.names.lookup x = some .globalImplicit
  rw [G.hs]
  unfold glB at h
  split at h
  · assumption
  · cases h
theorem nm1 {x : Str} (h : nmB x = true) : (x == ("__debug__" : Str)) = false ∧ (x == ("__classdict__" : Str)) = false ∧ x ≠ ("__name__" : Str) := by
  unfold nmB at h
  simp only [Bool.and_eq_true, Bool.not_eq_true', decide_eq_false_iff_not] at h
  exact ⟨h.1.1, h.1.2, h.2⟩
theorem star1 {x : Expr} (h : noStar x = true) (xs : List Expr) (env : PySem.Env) : starEach (x :: xs) env = (false, eval x env) :: starEach xs env := by
  cases x <;> first | rfl | cases h
theorem sup1 {x : Expr} (h : noSup x = true) (m : Str) (env : PySem.Env) : attributeBase x m env (eval x env) = eval x env := by
  unfold attributeBase
  split
  · cases h
  · rfl
theorem set1 {op : CmpOp} {y : Expr} (h : noSet y = true) : behindInMarks op y = false := by
  cases y <;> first | rfl | cases h
theorem slice1 {y : Expr} (h : noSlice y = true) : PlainIx y := by
  intro o i
  cases y <;> first | rfl | cases h
theorem plain1 {y : Expr} (h : plainT y = true) (env : PySem.Env) : ∀ whole, isTrue y env whole = (do let v ← whole; standAt y.pos; holding [v] (truthy v)) := by
  intro whole
  cases y <;> first | rfl | cases h
theorem backs {es : List Expr} {e : E} {T : Tab} {N : List Str} {sc : Scope} (pos : Pos) (env : PySem.Env) (h : chkA T N sc e es = true) : (backTo pos (starEach es env)).any (·.1) = false := by
  induction es generalizing e with
  | nil => rfl
  | cons x xs ih =>
    cases e with
    | cons a b =>
      have h' : (noStar x && chkE T N sc a x && chkA T N sc b xs) = true := h
      simp only [Bool.and_eq_true] at h'
      rw [star1 h'.1.1]
      show ((false || (backTo pos (starEach xs env)).any (·.1)) = false)
      rw [ih h'.2]
      rfl
    | _ => exact absurd h Bool.false_ne_true
theorem wipe_rel {g : Gh} {env : Env} {σ : L2.St} (re : REnv w g env σ) : ∀ vs : List Nat, REnv w g (wipeE env vs) (L2.wipe σ vs)
  | [] => re
  | v :: vs => by
    have ih := wipe_rel re vs
    refine ⟨by show ((wipeE env vs).set v none).length = ((L2.wipe σ vs).set v none).length; rw [List.length_set, List.length_set]; exact ih.len, fun i d e => ?_⟩
    have e' : ((wipeE env vs).set v none)[i]? = some (some d) := e
    show ∃ u : V, ((L2.wipe σ vs).set v none)[i]? = some (some u) ∧ _
    by_cases c : v = i
    · subst c
      rw [List.getElem?_set] at e'
      rw [if_pos rfl] at e'
      split at e' <;> cases e'
    · rw [List.getElem?_set_ne c] at e' ⊢
      exact ih.get i d e'
theorem wipe_set {σ : L2.St} {i : Nat} {v : Option V} : ∀ {vs : List Nat}, i ∈ vs → L2.wipe (σ.set i v) vs = L2.wipe σ vs
  | [], h => by cases h
  | u :: vs, h => by
    show (L2.wipe (σ.set i v) vs).set u none = (L2.wipe σ vs).set u none
    by_cases c : i ∈ vs
    · rw [wipe_set c]
    · have e : i = u := by
        rcases List.mem_cons.mp h with h | h
        · exact h
        · exact absurd h c
      subst e
      have comm : ∀ {ws : List Nat}, i ∉ ws → L2.wipe (σ.set i v) ws = (L2.wipe σ ws).set i v := by
        intro ws
        induction ws with
        | nil => intro _; rfl
        | cons x xs ih =>
          intro hx
          show (L2.wipe (σ.set i v) xs).set x none = ((L2.wipe σ xs).set x none).set i v
          rw [ih (fun z => hx (List.mem_cons_of_mem _ z)), List.set_comm]
          exact fun z => hx (by rw [z]; exact List.mem_cons_self)
      rw [comm c, List.set_set]
theorem wipe_idem {σ : L2.St} : ∀ (vs : List Nat), L2.wipe (L2.wipe σ vs) vs = L2.wipe σ vs := by
  intro vs
  have gen : ∀ (ws : List Nat), (∀ x ∈ ws, x ∈ vs) → L2.wipe (L2.wipe σ ws) vs = L2.wipe σ vs := by
    intro ws
    induction ws with
    | nil => intro _; rfl
    | cons x xs ih =>
      intro h
      show L2.wipe ((L2.wipe σ xs).set x none) vs = _
      rw [wipe_set (h x List.mem_cons_self)]
      exact ih fun y hy => h y (List.mem_cons_of_mem _ hy)
  exact gen vs fun x hx => hx
end
end ML

namespace ML
open PySem PySem.Spec PyProof.Rows L2

structure SAll (T : Tab) (w : Wd) (n : Nat) (e : E) : Prop where
  se : ∀ {N : List Str} {sc : Scope} {W : WX} {X : Cx} {x : Expr}, Good T w n N sc W X → chkE T N sc e x = true → PE X x (liftE w (evE (sem T n) (gvs T) e) W)
  sa : ∀ {N : List Str} {sc : Scope} {W : WX} {X : Cx} {x : List Expr}, Good T w n N sc W X → chkA T N sc e x = true → PA X x (liftA w (evA (sem T n) (gvs T) e) W)
  st : ∀ {N : List Str} {sc : Scope} {W : WX} {X : Cx} {x : Expr}, Good T w n N sc W X → chkT T N sc e x = true → PT X x (liftT w (evT (sem T n) (gvs T) e) W)
  sw : ∀ {N : List Str} {sc : Scope} {W : WX} {X : Cx} {o : BoolOp} {vs : List Expr} {pos : Pos}, Good T w n N sc W X → chkT T N sc e (.BoolOp o vs pos) = true → PW X (.BoolOp o vs pos) (liftT w (evT (sem T n) (gvs T) e) W)
  si : ∀ {N : List Str} {sc : Scope} {W : WX} {X : Cx} {x tg : Expr}, Good T w n N sc W X → chkI T N sc e x = true → PI X tg x (liftI w (evI (sem T n) (gvs T) e) W)

section
variable {T : Tab} {w : Wd} {n : Nat}
theorem SAll.ofE {e : E} (h : ∀ {N : List Str} {sc : Scope} {W : WX} {X : Cx} {x : Expr}, Good T w n N sc W X → chkE T N sc e x = true → PE X x (liftE w (evE (sem T n) (gvs T) e) W))
    (hA : ∀ (N : List Str) (sc : Scope) (x : List Expr), chkA T N sc e x = false) (hT : ∀ (N : List Str) (sc : Scope) (x : Expr), chkT T N sc e x = false) (hI : ∀ (N : List Str) (sc : Scope) (x : Expr), chkI T N sc e x = false) : SAll T w n e :=
  ⟨h, fun _ q => (Bool.false_ne_true ((hA _ _ _).symm.trans q)).elim, fun _ q => (Bool.false_ne_true ((hT _ _ _).symm.trans q)).elim, fun _ q => (Bool.false_ne_true ((hT _ _ _).symm.trans q)).elim, fun _ q => (Bool.false_ne_true ((hI _ _ _).symm.trans q)).elim⟩

theorem pe_cst {X : Cx} {W : WX} {x : Expr} {d : D} {v : V} (p : PE X x (tC v)) (r : ∀ g, Rl w g d v) : PE X x (liftE w (fun _ => M.pure d) W) :=
  p.imp fun σ H Q ⟨g, S, env, ok, re, p⟩ => p g H (Gh.Le.refl g) ok v (r g)

/-! ### leaves -/
theorem s_var (i : Nat) : SAll T w n (.var i) := by
  refine .ofE (fun {N sc W X x} G h => ?_) (fun _ _ _ => rfl) (fun _ _ _ => rfl) (fun _ _ _ => rfl)
  cases x with
  | Name y pos =>
    have h' : (decide (N[i]? = some y) && visB sc y && nmB y) = true := h
    simp only [Bool.and_eq_true, decide_eq_true_eq] at h'
    refine (pe_var (i := i) (by rw [G.hN]; exact h'.1.1) (G.vis h'.1.2) (nm1 h'.2).1 (nm1 h'.2).2.1).imp fun σ H Q ⟨g, S, env, ok, re, p⟩ => ?_
    have p' : Pst w g (Ew w W σ) Q (match env[i]? with
      | some (some d) => Rs.ok d S
      | _ => Rs.bad) := p
    split at p'
    · rename_i d hd
      obtain ⟨v, e1, r⟩ := re.get i d hd
      exact ⟨v, e1, p' g H (Gh.Le.refl g) ok v r⟩
    · exact p'.elim
  | _ => exact absurd h Bool.false_ne_true
theorem s_cI (i : Int) : SAll T w n (.cI i) := by
  refine .ofE (fun {N sc W X x} G h => ?_) (fun _ _ _ => rfl) (fun _ _ _ => rfl) (fun _ _ _ => rfl)
  cases x with
  | Constant c k pos =>
    cases c with
    | int j =>
      have h' : decide (i = j) = true := h
      obtain rfl := of_decide_eq_true h'
      exact pe_cst pe_int fun g => .int i
    | _ => exact absurd h Bool.false_ne_true
  | _ => exact absurd h Bool.false_ne_true
theorem s_cS (i : Str) : SAll T w n (.cS i) := by
  refine .ofE (fun {N sc W X x} G h => ?_) (fun _ _ _ => rfl) (fun _ _ _ => rfl) (fun _ _ _ => rfl)
  cases x with
  | Constant c k pos =>
    cases c with
    | str j =>
      have h' : decide (i = j) = true := h
      obtain rfl := of_decide_eq_true h'
      exact pe_cst pe_str fun g => .str i
    | _ => exact absurd h Bool.false_ne_true
  | _ => exact absurd h Bool.false_ne_true
theorem s_cB (i : Bool) : SAll T w n (.cB i) := by
  refine .ofE (fun {N sc W X x} G h => ?_) (fun _ _ _ => rfl) (fun _ _ _ => rfl) (fun _ _ _ => rfl)
  cases x with
  | Constant c k pos =>
    cases c with
    | bool j =>
      have h' : decide (i = j) = true := h
      obtain rfl := of_decide_eq_true h'
      exact pe_cst pe_bl fun g => .bl i
    | _ => exact absurd h Bool.false_ne_true
  | _ => exact absurd h Bool.false_ne_true
theorem s_cN : SAll T w n .cN := by
  refine .ofE (fun {N sc W X x} G h => ?_) (fun _ _ _ => rfl) (fun _ _ _ => rfl) (fun _ _ _ => rfl)
  cases x with
  | Constant c k pos =>
    cases c with
    | none => exact pe_cst pe_non fun g => .non
    | _ => exact absurd h Bool.false_ne_true
  | _ => exact absurd h Bool.false_ne_true
theorem s_glb (k : Nat) : SAll T w n (.glb k) := by
  refine .ofE (fun {N sc W X x} G h => ?_) (fun _ _ _ => rfl) (fun _ _ _ => rfl) (fun _ _ _ => rfl)
  cases x with
  | Name y pos =>
    have h' : (decide ((T.cst[k]?).map (·.1) = some y) && glB sc y && nmB y) = true := h
    simp only [Bool.and_eq_true, decide_eq_true_eq] at h'
    obtain ⟨⟨y', d⟩, e1, e2⟩ := map_some h'.1.1
    obtain rfl : y = y' := e2
    obtain ⟨u, v, m1, rv, rl⟩ := G.cst k y d e1
    refine (pe_cst (w := w) (W := W) (pe_glob (v := v) (G.gl h'.1.2) m1 rv (nm1 h'.2).1) rl).imp fun σ H Q ⟨g, S, env, ok, re, p⟩ => ⟨g, S, env, ok, re, ?_⟩
    have p' : Pst w g (Ew w W σ) Q (match (gvs T)[k]? with
      | some d => Rs.ok d S
      | none => Rs.bad) := p
    have e3 : (gvs T)[k]? = some d := by unfold gvs; rw [List.getElem?_map, e1]; rfl
    rw [e3] at p'
    exact p'
  | _ => exact absurd h Bool.false_ne_true

/-! ### operations -/
theorem s_bop {m : Bool} {op : Operator} {a b : E} (ha : SAll T w n a) (hb : SAll T w n b) : SAll T w n (.bop m op a b) := by
  refine .ofE (fun {N sc W X x} G h => ?_) (fun _ _ _ => rfl) (fun _ _ _ => rfl) (fun _ _ _ => rfl)
  cases x with
  | BinOp x o y pos =>
    have h' : (decide (op = o) && chkE T N sc a x && chkE T N sc b y) = true := h
    simp only [Bool.and_eq_true, decide_eq_true_eq] at h'
    obtain ⟨⟨rfl, h1⟩, h2⟩ := h'
    refine (pe_op (bin_ok (m := m) G.hw op) (ha.se G h1) (hb.se G h2)).imp fun σ H Q ⟨g, S, env, ok, re, p⟩ => ?_
    refine liftE_mono (fun x H1 ⟨g1, S1, d1, l1, k1, r1, p1⟩ => ?_) (bE ok re p)
    refine liftE_mono (fun y H2 ⟨g2, S2, d2, l2, k2, r2, p2⟩ => ?_) (bE k1 (re.mono l1) p1)
    exact ⟨g2, S2, d1, d2, k2, r1.mono l2, r2, noX p2⟩
  | _ => exact absurd h Bool.false_ne_true
theorem s_neg {a : E} (ha : SAll T w n a) : SAll T w n (.neg a) := by
  refine .ofE (fun {N sc W X x} G h => ?_) (fun _ _ _ => rfl) (fun _ _ _ => rfl) (fun _ _ _ => rfl)
  cases x with
  | UnaryOp o x pos =>
    cases o with
    | USub =>
      have h' : chkE T N sc a x = true := h
      refine (pe_un un_neg (ha.se G h')).imp fun σ H Q ⟨g, S, env, ok, re, p⟩ => ?_
      refine liftE_mono (fun x H1 ⟨g1, S1, d1, l1, k1, r1, p1⟩ => ?_) (bE ok re p)
      cases r1 with
      | int i => exact ⟨i, rfl, p1 g1 H1 (Gh.Le.refl g1) k1 _ (.int _)⟩
      | _ => exact p1.elim
    | _ => exact absurd h Bool.false_ne_true
  | _ => exact absurd h Bool.false_ne_true
theorem tru_some {g : Gh} {E : Str → Hp → Prop} {β : Type} {R : β → Gh → Hp → Prop} {d : D} {k : Bool → M β} {S : Store} (p : Pg w g E R ((truM d).bind k S)) : ∃ b, truP S d = some b ∧ Pg w g E R (k b S) := by
  have p' : Pg w g E R ((match truP S d with
    | some b => Rs.ok b S
    | none => Rs.bad).andThen k) := p
  cases q : truP S d with
  | none => rw [q] at p'; exact p'.elim
  | some b => rw [q] at p'; exact ⟨b, rfl, p'⟩
theorem s_nt {a : E} (ha : SAll T w n a) : SAll T w n (.nt a) := by
  refine ⟨fun {N sc W X x} G h => ?_, fun _ q => absurd q Bool.false_ne_true, fun {N sc W X x} G h => ?_, fun {N sc W X o vs pos} G h => absurd h Bool.false_ne_true, fun _ q => absurd q Bool.false_ne_true⟩
  · cases x with
    | UnaryOp o x pos =>
      cases o with
      | Not =>
        have h' : chkE T N sc a x = true := h
        refine (pe_notT (ha.se G h')).imp fun σ H Q ⟨g, S, env, ok, re, p⟩ => ?_
        refine liftE_mono (fun x H1 ⟨g1, S1, d1, l1, k1, r1, p1⟩ => ?_) (bE ok re p)
        obtain ⟨b, q, p2⟩ := tru_some p1
        exact ⟨b, by rw [G.hw]; exact tru_rl k1 r1 q, p2 g1 H1 (Gh.Le.refl g1) k1 _ (.bl _)⟩
      | _ => exact absurd h Bool.false_ne_true
    | _ => exact absurd h Bool.false_ne_true
  · cases x with
    | UnaryOp o x pos =>
      cases o with
      | Not =>
        have h' : chkT T N sc a x = true := h
        refine (pt_not (ha.st G h')).imp fun σ H Q ⟨g, S, env, ok, re, p⟩ => ?_
        refine liftT_mono (fun b H1 ⟨g1, S1, l1, k1, p1⟩ => ?_) (bT ok re p)
        exact p1 g1 H1 (Gh.Le.refl g1) k1
      | _ => exact absurd h Bool.false_ne_true
    | _ => exact absurd h Bool.false_ne_true
theorem cmpV {g : Gh} {E E' : Str → Hp → Prop} {m : Bool} {S : Store} {o : Option Bool} {Q : Bool → Hp → Prop} (p : Pg w g E (fun b _ H' => Q b H') (match o with
    | some b => Rs.ok b S
    | none => Rs.bad)) : Pst w g E' (fun x H' => ∃ k, x = V.bl k ∧ Q k H') (finO m (bV o) S) := by
  cases o with
  | none => exact p.elim
  | some b => exact fun g' H' l k v r => by cases r; exact ⟨b, rfl, p g' H' l k⟩
theorem s_cmp {op : CmpOp} {a b : E} (ha : SAll T w n a) (hb : SAll T w n b) : SAll T w n (.cmp op a b) := by
  refine ⟨fun {N sc W X x} G h => ?_, fun _ q => absurd q Bool.false_ne_true, fun {N sc W X x} G h => ?_, fun {N sc W X o vs pos} G h => absurd h Bool.false_ne_true, fun _ q => absurd q Bool.false_ne_true⟩
  · cases x with
    | Compare x ops ys pos =>
      match ops, ys, h with
      | [o], [y], h =>
        have h' : (decide (op = o) && noSet y && chkE T N sc a x && chkE T N sc b y) = true := h
        simp only [Bool.and_eq_true, decide_eq_true_eq] at h'
        obtain ⟨⟨⟨rfl, h0⟩, h1⟩, h2⟩ := h'
        refine (pe_cmpR (cmp_ok (m := false) G.hw G.room.units op) (ha.se G h1) (hb.se G h2) (set1 h0)).imp fun σ H Q ⟨g, S, env, ok, re, p⟩ => ?_
        refine liftE_mono (fun x H1 ⟨g1, S1, d1, l1, k1, r1, p1⟩ => ?_) (bE ok re p)
        refine liftE_mono (fun y H2 ⟨g2, S2, d2, l2, k2, r2, p2⟩ => ?_) (bE k1 (re.mono l1) p1)
        exact ⟨g2, S2, d1, d2, k2, r1.mono l2, r2, noX p2⟩
      | [], _, h => exact absurd h Bool.false_ne_true
      | [_], [], h => exact absurd h Bool.false_ne_true
      | [_], _ :: _ :: _, h => exact absurd h Bool.false_ne_true
      | _ :: _ :: _, _, h => exact absurd h Bool.false_ne_true
    | _ => exact absurd h Bool.false_ne_true
  · cases x with
    | Compare x ops ys pos =>
      match ops, ys, h with
      | [o], [y], h =>
        have h' : (decide (op = o) && noSet y && chkE T N sc a x && chkE T N sc b y) = true := h
        simp only [Bool.and_eq_true, decide_eq_true_eq] at h'
        obtain ⟨⟨⟨rfl, h0⟩, h1⟩, h2⟩ := h'
        refine (pt_cmpR (cmp_ok (m := false) G.hw G.room.units op) (ha.se G h1) (hb.se G h2) (set1 h0)).imp fun σ H Q ⟨g, S, env, ok, re, p⟩ => ?_
        refine liftE_mono (fun x H1 ⟨g1, S1, d1, l1, k1, r1, p1⟩ => ?_) (bE ok re p)
        refine liftE_mono (fun y H2 ⟨g2, S2, d2, l2, k2, r2, p2⟩ => ?_) (bE k1 (re.mono l1) p1)
        exact ⟨g2, S2, d1, d2, k2, r1.mono l2, r2, cmpV p2⟩
      | [], _, h => exact absurd h Bool.false_ne_true
      | [_], [], h => exact absurd h Bool.false_ne_true
      | [_], _ :: _ :: _, h => exact absurd h Bool.false_ne_true
      | _ :: _ :: _, _, h => exact absurd h Bool.false_ne_true
    | _ => exact absurd h Bool.false_ne_true
theorem lastM {o o' : CmpOp} {y z : Expr} (h : noSet z = true) : lastMarks [o, o'] [y, z] = false := set1 h
theorem r2_bl {g : Gh} {S : Store} {H : Hp} {d e : D} {x y : V} {op : CmpOp} {b : Bool} {Q : VK} (k : Ok w g S H) (r1 : Rl w g d x) (r2' : Rl w g e y) (q : cmpP S op d e = some b)
    (h : ∀ g' H', g.Le g' → Ok w g' S H' → Q (.bl b) H') : r2 w false (fun S d e => bV (cmpP S op d e)) x y H Q := by
  refine ⟨g, S, d, e, k, r1, r2', ?_⟩
  show Pst w g (fun _ _ => False) Q (finO false (bV (cmpP S op d e)) S)
  rw [q]
  exact fun g' H' l k' v r => by cases r; exact h g' H' l k'
theorem s_chn {op op' : CmpOp} {a b c : E} (ha : SAll T w n a) (hb : SAll T w n b) (hc : SAll T w n c) : SAll T w n (.chn op op' a b c) := by
  refine ⟨fun {N sc W X x} G h => ?_, fun _ q => absurd q Bool.false_ne_true, fun {N sc W X x} G h => ?_, fun {N sc W X o vs pos} G h => absurd h Bool.false_ne_true, fun _ q => absurd q Bool.false_ne_true⟩
  · cases x with
    | Compare x ops ys pos =>
      match ops, ys, h with
      | [o, o'], [y, z], h =>
        have h' : (decide (op = o) && decide (op' = o') && noSet z && chkE T N sc a x && chkE T N sc b y && chkE T N sc c z) = true := h
        simp only [Bool.and_eq_true, decide_eq_true_eq] at h'
        obtain ⟨⟨⟨⟨⟨rfl, rfl⟩, h0⟩, h1⟩, h2⟩, h3⟩ := h'
        refine (pe_chain (cmp_ok (m := false) G.hw G.room.units op) (cmp_ok (m := false) G.hw G.room.units op') (ha.se G h1) (hb.se G h2) (hc.se G h3) (lastM h0)).imp fun σ H Q ⟨g, S, env, ok, re, p⟩ => ?_
        refine liftE_mono (fun x H1 ⟨g1, S1, d1, l1, k1, r1, p1⟩ => ?_) (bE ok re p)
        refine liftE_mono (fun y H2 ⟨g2, S2, d2, l2, k2, r2, p2⟩ => ?_) (bE k1 (re.mono l1) p1)
        cases q : cmpP S2 op d1 d2 with
        | none => rw [q] at p2; exact p2.elim
        | some bb =>
          rw [q] at p2
          refine r2_bl k2 (r1.mono l2) r2 q fun g3 H3 l3 k3 => ⟨bb, rfl, ?_⟩
          cases bb with
          | false => exact iteF (p2 g3 H3 l3 k3 _ (.bl _))
          | true =>
            refine iteT ?_
            have p3 : Pst w g2 (Ew w W σ) Q (((evE (sem T n) (gvs T) c env).bind fun z S => finO false (bV (cmpP S op' d2 z)) S) S2) := p2
            refine liftE_mono (fun z H4 ⟨g4, S4, d4, l4, k4, r4, p4⟩ => ?_) (bE k3 (((re.mono l1).mono l2).mono l3) (p3.mono l3))
            exact ⟨g4, S4, d2, d4, k4, (r2.mono l3).mono l4, r4, noX p4⟩
      | [], _, h => exact absurd h Bool.false_ne_true
      | [_], _, h => exact absurd h Bool.false_ne_true
      | [_, _], [], h => exact absurd h Bool.false_ne_true
      | [_, _], [_], h => exact absurd h Bool.false_ne_true
      | [_, _], _ :: _ :: _ :: _, h => exact absurd h Bool.false_ne_true
      | _ :: _ :: _ :: _, _, h => exact absurd h Bool.false_ne_true
    | _ => exact absurd h Bool.false_ne_true
  · cases x with
    | Compare x ops ys pos =>
      match ops, ys, h with
      | [o, o'], [y, z], h =>
        have h' : (decide (op = o) && decide (op' = o') && noSet z && chkE T N sc a x && chkE T N sc b y && chkE T N sc c z) = true := h
        simp only [Bool.and_eq_true, decide_eq_true_eq] at h'
        obtain ⟨⟨⟨⟨⟨rfl, rfl⟩, h0⟩, h1⟩, h2⟩, h3⟩ := h'
        refine (pt_chain (cmp_ok (m := false) G.hw G.room.units op) (cmp_ok (m := false) G.hw G.room.units op') (ha.se G h1) (hb.se G h2) (hc.se G h3) (lastM h0)).imp fun σ H Q ⟨g, S, env, ok, re, p⟩ => ?_
        refine liftE_mono (fun x H1 ⟨g1, S1, d1, l1, k1, r1, p1⟩ => ?_) (bE ok re p)
        refine liftE_mono (fun y H2 ⟨g2, S2, d2, l2, k2, r2, p2⟩ => ?_) (bE k1 (re.mono l1) p1)
        cases q : cmpP S2 op d1 d2 with
        | none => rw [q] at p2; exact p2.elim
        | some bb =>
          rw [q] at p2
          refine r2_bl k2 (r1.mono l2) r2 q fun g3 H3 l3 k3 => ⟨bb, rfl, ?_⟩
          cases bb with
          | false => exact iteF ⟨false, rfl, p2 g3 H3 l3 k3⟩
          | true =>
            refine iteT ?_
            have p3 : Pg w g2 (Ew w W σ) (fun d _ H' => Q d H') (((evE (sem T n) (gvs T) c env).bind fun z S => match cmpP S op' d2 z with
              | some b => Rs.ok b S
              | none => Rs.bad) S2) := p2
            refine liftE_mono (fun z H4 ⟨g4, S4, d4, l4, k4, r4, p4⟩ => ?_) (bE k3 (((re.mono l1).mono l2).mono l3) (p3.mono l3))
            exact ⟨g4, S4, d2, d4, k4, (r2.mono l3).mono l4, r4, cmpV p4⟩
      | [], _, h => exact absurd h Bool.false_ne_true
      | [_], _, h => exact absurd h Bool.false_ne_true
      | [_, _], [], h => exact absurd h Bool.false_ne_true
      | [_, _], [_], h => exact absurd h Bool.false_ne_true
      | [_, _], _ :: _ :: _ :: _, h => exact absurd h Bool.false_ne_true
      | _ :: _ :: _ :: _, _, h => exact absurd h Bool.false_ne_true
    | _ => exact absurd h Bool.false_ne_true

/-! ### and, or, if -/
theorem s_one {a : E} (ha : SAll T w n a) : SAll T w n (.one a) := by
  have W' : ∀ {N : List Str} {sc : Scope} {W : WX} {X : Cx} {o : BoolOp} {vs : List Expr} {pos : Pos}, Good T w n N sc W X → chkT T N sc (.one a) (.BoolOp o vs pos) = true → PW X (.BoolOp o vs pos) (liftT w (evT (sem T n) (gvs T) (.one a)) W) := fun {N sc W X o vs pos} G h => by
    match vs, h with
    | [x], h =>
      have h' : chkT T N sc a x = true := h
      cases o with
      | And => exact (pw_and1 (ha.st G h')).imp fun σ H Q q => q
      | Or => exact (pw_or1 (ha.st G h')).imp fun σ H Q q => q
    | [], h => exact absurd h Bool.false_ne_true
    | _ :: _ :: _, h => exact absurd h Bool.false_ne_true
  refine ⟨fun {N sc W X x} G h => ?_, fun _ q => absurd q Bool.false_ne_true, fun {N sc W X x} G h => ?_, W', fun _ q => absurd q Bool.false_ne_true⟩
  · cases x with
    | BoolOp o vs pos =>
      match vs, h with
      | [x], h =>
        have h' : chkE T N sc a x = true := h
        exact (pe_one (ha.se G h')).imp fun σ H Q q => q
      | [], h => exact absurd h Bool.false_ne_true
      | _ :: _ :: _, h => exact absurd h Bool.false_ne_true
    | _ => exact absurd h Bool.false_ne_true
  · cases x with
    | BoolOp o vs pos => exact (W' G h).pt
    | _ => exact absurd h Bool.false_ne_true
theorem s_con {o : BoolOp} {a b : E} (ha : SAll T w n a) (hb : SAll T w n b) : SAll T w n (.con o a b) := by
  have W' : ∀ {N : List Str} {sc : Scope} {W : WX} {X : Cx} {o' : BoolOp} {vs : List Expr} {pos : Pos}, Good T w n N sc W X → chkT T N sc (.con o a b) (.BoolOp o' vs pos) = true → PW X (.BoolOp o' vs pos) (liftT w (evT (sem T n) (gvs T) (.con o a b)) W) := fun {N sc W X o' vs pos} G h => by
    match vs, h with
    | x :: y :: r, h =>
      have h' : (decide (o = o') && chkT T N sc a x && chkT T N sc b (.BoolOp o' (y :: r) pos)) = true := h
      simp only [Bool.and_eq_true, decide_eq_true_eq] at h'
      obtain ⟨⟨rfl, h1⟩, h2⟩ := h'
      cases o with
      | And =>
        refine (pw_and (ha.st G h1) (hb.sw G h2)).imp fun σ H Q ⟨g, S, env, ok, re, p⟩ => ?_
        refine liftT_mono (fun t H1 ⟨g1, S1, l1, k1, p1⟩ => ?_) (bT ok re p)
        cases t with
        | true => exact iteT ⟨g1, S1, env, k1, re.mono l1, p1⟩
        | false => exact iteF (p1 g1 H1 (Gh.Le.refl g1) k1)
      | Or =>
        refine (pw_or (ha.st G h1) (hb.sw G h2)).imp fun σ H Q ⟨g, S, env, ok, re, p⟩ => ?_
        refine liftT_mono (fun t H1 ⟨g1, S1, l1, k1, p1⟩ => ?_) (bT ok re p)
        cases t with
        | true => exact iteT (p1 g1 H1 (Gh.Le.refl g1) k1)
        | false => exact iteF ⟨g1, S1, env, k1, re.mono l1, p1⟩
    | [], h => exact absurd h Bool.false_ne_true
    | [_], h => exact absurd h Bool.false_ne_true
  refine ⟨fun {N sc W X x} G h => ?_, fun _ q => absurd q Bool.false_ne_true, fun {N sc W X x} G h => ?_, W', fun _ q => absurd q Bool.false_ne_true⟩
  · cases x with
    | BoolOp o' vs pos =>
      match vs, h with
      | x :: y :: r, h =>
        have h' : (decide (o = o') && chkE T N sc a x && chkE T N sc b (.BoolOp o' (y :: r) pos)) = true := h
        simp only [Bool.and_eq_true, decide_eq_true_eq] at h'
        obtain ⟨⟨rfl, h1⟩, h2⟩ := h'
        cases o with
        | And =>
          refine (pe_andT (ha.se G h1) (hb.se G h2)).imp fun σ H Q ⟨g, S, env, ok, re, p⟩ => ?_
          refine liftE_mono (fun x H1 ⟨g1, S1, d1, l1, k1, r1, p1⟩ => ?_) (bE ok re p)
          obtain ⟨t, q, p2⟩ := tru_some p1
          refine ⟨t, by rw [G.hw]; exact tru_rl k1 r1 q, ?_⟩
          cases t with
          | true => exact iteT ⟨g1, S1, env, k1, re.mono l1, p2⟩
          | false => exact iteF (p2 g1 H1 (Gh.Le.refl g1) k1 _ r1)
        | Or =>
          refine (pe_orT (ha.se G h1) (hb.se G h2)).imp fun σ H Q ⟨g, S, env, ok, re, p⟩ => ?_
          refine liftE_mono (fun x H1 ⟨g1, S1, d1, l1, k1, r1, p1⟩ => ?_) (bE ok re p)
          obtain ⟨t, q, p2⟩ := tru_some p1
          refine ⟨t, by rw [G.hw]; exact tru_rl k1 r1 q, ?_⟩
          cases t with
          | true => exact iteT (p2 g1 H1 (Gh.Le.refl g1) k1 _ r1)
          | false => exact iteF ⟨g1, S1, env, k1, re.mono l1, p2⟩
      | [], h => exact absurd h Bool.false_ne_true
      | [_], h => exact absurd h Bool.false_ne_true
    | _ => exact absurd h Bool.false_ne_true
  · cases x with
    | BoolOp o vs pos => exact (W' G h).pt
    | _ => exact absurd h Bool.false_ne_true
theorem s_tru {a : E} (ha : SAll T w n a) : SAll T w n (.tru a) := by
  refine ⟨fun _ q => absurd q Bool.false_ne_true, fun _ q => absurd q Bool.false_ne_true, fun {N sc W X x} G h => ?_, fun {N sc W X o vs pos} G h => ?_, fun _ q => absurd q Bool.false_ne_true⟩
  · have h' : (plainT x && chkE T N sc a x) = true := h
    simp only [Bool.and_eq_true] at h'
    refine (pt_truth (ha.se G h'.2) (plain1 h'.1 _)).imp fun σ H Q ⟨g, S, env, ok, re, p⟩ => ?_
    refine liftE_mono (fun x H1 ⟨g1, S1, d1, l1, k1, r1, p1⟩ => ?_) (bE ok re p)
    have p2 : Pg w g1 (Ew w W σ) (fun d _ H' => Q d H') (match truP S1 d1 with
      | some b => Rs.ok b S1
      | none => Rs.bad) := p1
    cases q : truP S1 d1 with
    | none => rw [q] at p2; exact p2.elim
    | some b => rw [q] at p2; exact ⟨b, by rw [G.hw]; exact tru_rl k1 r1 q, p2 g1 H1 (Gh.Le.refl g1) k1⟩
  · have h' : (plainT (.BoolOp o vs pos) && chkE T N sc a (.BoolOp o vs pos)) = true := h
    simp only [Bool.and_eq_true] at h'
    exact absurd h'.1 Bool.false_ne_true
theorem s_ite {c a b : E} (hc : SAll T w n c) (ha : SAll T w n a) (hb : SAll T w n b) : SAll T w n (.ite c a b) := by
  refine .ofE (fun {N sc W X x} G h => ?_) (fun _ _ _ => rfl) (fun _ _ _ => rfl) (fun _ _ _ => rfl)
  cases x with
  | IfExp t x y pos =>
    have h' : (chkT T N sc c t && chkE T N sc a x && chkE T N sc b y) = true := h
    simp only [Bool.and_eq_true] at h'
    refine (pe_ifExp (hc.st G h'.1.1) (ha.se G h'.1.2) (hb.se G h'.2)).imp fun σ H Q ⟨g, S, env, ok, re, p⟩ => ?_
    refine liftT_mono (fun t H1 ⟨g1, S1, l1, k1, p1⟩ => ?_) (bT ok re p)
    cases t with
    | true => exact iteT ⟨g1, S1, env, k1, re.mono l1, p1⟩
    | false => exact iteF ⟨g1, S1, env, k1, re.mono l1, p1⟩
  | _ => exact absurd h Bool.false_ne_true

/-! ### lists of expressions, displays -/
theorem s_nil : SAll T w n .nil := by
  refine ⟨fun _ q => absurd q Bool.false_ne_true, fun {N sc W X x} G h => ?_, fun _ q => absurd q Bool.false_ne_true, fun _ q => absurd q Bool.false_ne_true, fun _ q => absurd q Bool.false_ne_true⟩
  cases x with
  | nil => exact pa_nil.imp fun σ H Q ⟨g, S, env, ok, re, p⟩ => p g H (Gh.Le.refl g) ok _ .nil
  | cons _ _ => exact absurd h Bool.false_ne_true
theorem s_cons {a b : E} (ha : SAll T w n a) (hb : SAll T w n b) : SAll T w n (.cons a b) := by
  refine ⟨fun _ q => absurd q Bool.false_ne_true, fun {N sc W X x} G h => ?_, fun _ q => absurd q Bool.false_ne_true, fun _ q => absurd q Bool.false_ne_true, fun _ q => absurd q Bool.false_ne_true⟩
  cases x with
  | nil => exact absurd h Bool.false_ne_true
  | cons x xs =>
    have h' : (noStar x && chkE T N sc a x && chkA T N sc b xs) = true := h
    simp only [Bool.and_eq_true] at h'
    refine (pa_cons (ha.se G h'.1.2) (hb.sa G h'.2) (star1 h'.1.1 _ _)).imp fun σ H Q ⟨g, S, env, ok, re, p⟩ => ?_
    refine liftE_mono (fun x H1 ⟨g1, S1, d1, l1, k1, r1, p1⟩ => ?_) (bE ok re p)
    refine liftA_mono (fun y H2 ⟨g2, S2, d2, l2, k2, r2, p2⟩ => ?_) (bA k1 (re.mono l1) p1)
    exact p2 g2 H2 (Gh.Le.refl g2) k2 _ (.cons (r1.mono l2) r2)
theorem s_tup {es : E} (h1 : SAll T w n es) : SAll T w n (.tup es) := by
  refine .ofE (fun {N sc W X x} G h => ?_) (fun _ _ _ => rfl) (fun _ _ _ => rfl) (fun _ _ _ => rfl)
  cases x with
  | Tuple xs k pos =>
    have h' : chkA T N sc es xs = true := h
    refine (pe_tup (h1.sa G h')).imp fun σ H Q ⟨g, S, env, ok, re, p⟩ => ?_
    refine liftA_mono (fun y H2 ⟨g2, S2, d2, l2, k2, r2, p2⟩ => ?_) (bA ok re p)
    split at p2
    · rename_i hl
      exact ⟨by rw [← r2.length]; exact nMax_le hl, fin_newt (m := false) p2 k2 r2⟩
    · exact p2.elim
  | _ => exact absurd h Bool.false_ne_true
theorem s_lst {m : Bool} {es : E} (h1 : SAll T w n es) : SAll T w n (.lst m es) := by
  refine .ofE (fun {N sc W X x} G h => ?_) (fun _ _ _ => rfl) (fun _ _ _ => rfl) (fun _ _ _ => rfl)
  cases x with
  | List xs pos =>
    have h' : chkA T N sc es xs = true := h
    refine (pe_lst (h1.sa G h')).imp fun σ H Q ⟨g, S, env, ok, re, p⟩ => ?_
    refine liftA_mono (fun y H2 ⟨g2, S2, d2, l2, k2, r2, p2⟩ => ?_) (bA ok re p)
    split at p2
    · rename_i hl
      exact ⟨by rw [← r2.length]; exact nMax_le hl, fin_newl p2 k2 r2⟩
    · exact p2.elim
  | _ => exact absurd h Bool.false_ne_true
theorem s_idx {a b : E} (ha : SAll T w n a) (hb : SAll T w n b) : SAll T w n (.idx a b) := by
  refine .ofE (fun {N sc W X x} G h => ?_) (fun _ _ _ => rfl) (fun _ _ _ => rfl) (fun _ _ _ => rfl)
  cases x with
  | Subscript x y pos =>
    have h' : (noSlice y && chkE T N sc a x && chkE T N sc b y) = true := h
    simp only [Bool.and_eq_true] at h'
    refine (pe_ix (ix_ok (m := false) G.hw) (ha.se G h'.1.2) (hb.se G h'.2) (slice1 h'.1.1)).imp fun σ H Q ⟨g, S, env, ok, re, p⟩ => ?_
    refine liftE_mono (fun x H1 ⟨g1, S1, d1, l1, k1, r1, p1⟩ => ?_) (bE ok re p)
    refine liftE_mono (fun y H2 ⟨g2, S2, d2, l2, k2, r2, p2⟩ => ?_) (bE k1 (re.mono l1) p1)
    exact ⟨g2, S2, d1, d2, k2, r1.mono l2, r2, noX p2⟩
  | _ => exact absurd h Bool.false_ne_true
/-- a slice's part -/
def liftO (w : Wd) (f : Env → M (Option Int)) (W : WX) : TO := fun σ H Q => ∃ g S env, Ok w g S H ∧ REnv w g env σ ∧ Pg w g (Ew w W σ) (fun o _ H' => Q o H') (f env S)
theorem liftO_mono {W : WX} {σ : L2.St} {H : Hp} {f : Env → M (Option Int)} {Q Q' : Option Int → Hp → Prop} (h : ∀ x H1, Q x H1 → Q' x H1) (q : liftO w f W σ H Q) : liftO w f W σ H Q' := by
  obtain ⟨g, S, env, ok, re, p⟩ := q
  exact ⟨g, S, env, ok, re, p.imp fun d g' H' _ z => h _ _ z⟩
theorem bO {W : WX} {σ : L2.St} {g : Gh} {S : Store} {H : Hp} {env : Env} {β : Type} {f : Env → M (Option Int)} {k : Option Int → M β} {R : β → Gh → Hp → Prop} (ok : Ok w g S H) (re : REnv w g env σ) (p : Pg w g (Ew w W σ) R ((f env).bind k S)) :
    liftO w f W σ H (fun b H1 => ∃ g1 S1, g.Le g1 ∧ Ok w g1 S1 H1 ∧ Pg w g1 (Ew w W σ) R (k b S1)) := by
  refine ⟨g, S, env, ok, re, ?_⟩
  unfold M.bind at p
  cases q : f env S with
  | ok d S1 => rw [q] at p; exact fun g1 H1 l k1 => ⟨g1, S1, l, k1, p.mono l⟩
  | exc c S1 => rw [q] at p; exact p
  | bad => rw [q] at p; exact p
theorem po_of {N : List Str} {sc : Scope} {W : WX} {X : Cx} {lo : E} {l : Option Expr} (h1 : SAll T w n lo) (G : Good T w n N sc W X) (h : chkOp (isOff lo) (chkE T N sc lo) l = true) : PO X l (liftO w (fun env => if isOff lo = true then M.pure none else (evE (sem T n) (gvs T) lo env).bind toInt) W) := by
  cases l with
  | none =>
    have h' : isOff lo = true := h
    refine ⟨fun pins s σ H Q I ⟨g, S, env, ok, re, p⟩ => po_none.run pins s σ H Q I ?_⟩
    simp only [h', if_true] at p
    exact p g H (Gh.Le.refl g) ok
  | some y =>
    have h' : (!isOff lo && chkE T N sc lo y) = true := h
    simp only [Bool.and_eq_true, Bool.not_eq_true'] at h'
    refine ⟨fun pins s σ H Q I ⟨g, S, env, ok, re, p⟩ => (po_some (h1.se G h'.2)).run pins s σ H Q I ?_⟩
    simp only [h'.1, Bool.false_eq_true, if_false] at p
    refine liftE_mono (fun x H1 ⟨g1, S1, d1, l1, k1, r1, p1⟩ => ?_) (bE ok re p)
    cases r1 with
    | int i => exact ⟨i, rfl, p1 g1 H1 (Gh.Le.refl g1) k1⟩
    | _ => exact p1.elim
theorem s_slc {m : Bool} {a lo hi : E} (ha : SAll T w n a) (hl : SAll T w n lo) (hh : SAll T w n hi) : SAll T w n (.slc m a lo hi) := by
  refine .ofE (fun {N sc W X x} G h => ?_) (fun _ _ _ => rfl) (fun _ _ _ => rfl) (fun _ _ _ => rfl)
  cases x with
  | Subscript x y pos =>
    cases y with
    | Slice l u st pos2 =>
      cases st with
      | none =>
        have h' : (chkE T N sc a x && chkOp (isOff lo) (chkE T N sc lo) l && chkOp (isOff hi) (chkE T N sc hi) u) = true := h
        rw [Bool.and_eq_true, Bool.and_eq_true] at h'
        refine (pe_slice (sl_ok (m := m) G.hw) (ha.se G h'.1.1) (po_of hl G h'.1.2) (po_of hh G h'.2)).imp fun σ H Q ⟨g, S, env, ok, re, p⟩ => ?_
        refine liftE_mono (fun x H1 ⟨g1, S1, d1, l1, k1, r1, p1⟩ => ?_) (bE ok re p)
        refine liftO_mono (fun o1 H2 ⟨g2, S2, l2, k2, p2⟩ => ?_) (bO (f := fun env => if isOff lo = true then M.pure none else (evE (sem T n) (gvs T) lo env).bind toInt) k1 (re.mono l1) p1)
        refine liftO_mono (fun o2 H3 ⟨g3, S3, l3, k3, p3⟩ => ?_) (bO (f := fun env => if isOff hi = true then M.pure none else (evE (sem T n) (gvs T) hi env).bind toInt) k2 ((re.mono l1).mono l2) p2)
        exact ⟨g3, S3, d1, k3, (r1.mono l2).mono l3, noX p3⟩
      | some _ => exact absurd h Bool.false_ne_true
    | _ => exact absurd h Bool.false_ne_true
  | _ => exact absurd h Bool.false_ne_true
theorem s_off : SAll T w n .off := .ofE (fun _ h => absurd h Bool.false_ne_true) (fun _ _ _ => rfl) (fun _ _ _ => rfl) (fun _ _ _ => rfl)
end
end ML

namespace ML
open PySem PySem.Spec PyProof.Rows L2
section
variable {T : Tab} {w : Wd} {n : Nat}

/-! ### calls -/
theorem pe_bf {X : Cx} {f : Bf} {r : List V → Hp → VK → Prop} {e : Expr} {es : List Expr} {t : TA} {p pos : Pos} (hc : CallR X f.val r) (hg : Gl X f.name) (hm : X.mg f.name = none) (ha : PA X (e :: es) t) (hn : f.name ≠ ("__name__" : Str)) (hdb : (f.name == ("__debug__" : Str)) = false)
    (he : starEach (e :: es) X.env = (false, eval e X.env) :: starEach es X.env) (hpl : (backTo pos (starEach es X.env)).any (·.1) = false) : PE X (.Call (.Name f.name p) (e :: es) [] pos) (tCB r t) := by
  cases f <;> first | exact pe_callB hc hg hm (Bf.boot _) ha hn hdb he hpl | exact pe_callTy hc hg hm (Bf.boot _) ha hn hdb he hpl
theorem chkA_cons {N : List Str} {sc : Scope} {es : E} {y : Expr} {ys : List Expr} (h : chkA T N sc es (y :: ys) = true) : ∃ a b, es = .cons a b ∧ noStar y = true ∧ chkE T N sc a y = true ∧ chkA T N sc b ys = true := by
  cases es with
  | cons a b =>
    have h' : (noStar y && chkE T N sc a y && chkA T N sc b ys) = true := h
    simp only [Bool.and_eq_true] at h'
    exact ⟨a, b, rfl, h'.1.1, h'.1.2, h'.2⟩
  | _ => exact absurd h Bool.false_ne_true
theorem s_blt {m : Bool} {f : Bf} {es : E} (h1 : SAll T w n es) : SAll T w n (.blt m f es) := by
  refine .ofE (fun {N sc W X x} G h => ?_) (fun _ _ _ => rfl) (fun _ _ _ => rfl) (fun _ _ _ => rfl)
  cases x with
  | Call fn xs kw pos =>
    cases fn with
    | Name x p =>
      match xs, kw, h with
      | y :: ys, [], h =>
        have h' : (decide (x = f.name) && glB sc x && nmB x && decide (x ∈ T.blt) && chkA T N sc es (y :: ys)) = true := h
        simp only [Bool.and_eq_true, decide_eq_true_eq] at h'
        obtain ⟨⟨⟨⟨rfl, h2⟩, h3⟩, h4⟩, h5⟩ := h'
        obtain ⟨a, b, rfl, c1, c2, c3⟩ := chkA_cons h5
        refine (pe_bf (bf_ok (m := m) G.hw G.calm f) (G.gl h2) (G.blt _ h4) (h1.sa G h5) (nm1 h3).2.2 (nm1 h3).1 (star1 c1 _ _) (backs pos _ c3)).imp fun σ H Q ⟨g, S, env, ok, re, p⟩ => ?_
        refine liftA_mono (fun y H2 ⟨g2, S2, d2, l2, k2, r2, p2⟩ => ?_) (bA ok re p)
        exact ⟨g2, S2, d2, k2, r2, noX p2⟩
      | [], _, h => exact absurd h Bool.false_ne_true
      | _ :: _, _ :: _, h => exact absurd h Bool.false_ne_true
    | _ => exact absurd h Bool.false_ne_true
  | _ => exact absurd h Bool.false_ne_true
theorem any_all {α : Type} {l : List (Bool × α)} (h : l.any (·.1) = false) : l.all (fun x => !x.1) = true := by
  induction l with
  | nil => rfl
  | cons a l ih =>
    rw [List.any_cons, Bool.or_eq_false_iff] at h
    rw [List.all_cons, h.1, ih h.2]
    rfl
theorem s_met {m : Bool} {f : Mf} {o es : E} (ho : SAll T w n o) (h1 : SAll T w n es) : SAll T w n (.met m f o es) := by
  refine .ofE (fun {N sc W X x} G h => ?_) (fun _ _ _ => rfl) (fun _ _ _ => rfl) (fun _ _ _ => rfl)
  cases x with
  | Call fn xs kw pos =>
    cases fn with
    | Attribute x nm apos =>
      match xs, kw, h with
      | y :: ys, [], h =>
        have h' : (decide (nm = f.name) && (apos.endLine == pos.line) && noSup x && decide (ys.length < 20) && chkE T N sc o x && chkA T N sc es (y :: ys)) = true := h
        simp only [Bool.and_eq_true, decide_eq_true_eq] at h'
        obtain ⟨⟨⟨⟨⟨rfl, h2⟩, h3⟩, h4⟩, h5⟩, h6⟩ := h'
        obtain ⟨a, b, rfl, c1, c2, c3⟩ := chkA_cons h6
        have hfew : ((backTo pos (starEach (y :: ys) X.env)).all (fun x => !x.1) && (backToKw pos (keywordEach [] X.env)).all (fun x => x.1.isSome)
            && decide ((y :: ys).length + ([] : List Keyword).length + (if ([] : List Keyword).isEmpty then 0 else 1) < 30)) = true := by
          rw [any_all (backs pos X.env h6)]
          show (true && true && decide (ys.length + 1 + 0 + 0 < 30)) = true
          rw [decide_eq_true (by omega)]
          rfl
        refine (pe_bm f.plain f.slot f.type (mf_ok (m := m) G.hw f) (ho.se G h5) (h1.sa G h6) (sup1 h3 _ _) hfew h2 (star1 c1 _ _) (backs pos _ c3)).imp fun σ H Q ⟨g, S, env, ok, re, p⟩ => ?_
        refine liftE_mono (fun x H1 ⟨g1, S1, d1, l1, k1, r1, p1⟩ => ?_) (bE ok re p)
        split at p1
        · rename_i ht
          refine ⟨by rw [G.hw]; exact isTy_ok k1 r1 ht, ?_⟩
          refine liftA_mono (fun y H2 ⟨g2, S2, d2, l2, k2, r2, p2⟩ => ?_) (bA k1 (re.mono l1) p1)
          exact ⟨g2, S2, d1, d2, k2, r1.mono l2, r2, noXm p2⟩
        · exact p1.elim
      | [], _, h => exact absurd h Bool.false_ne_true
      | _ :: _, _ :: _, h => exact absurd h Bool.false_ne_true
    | _ => exact absurd h Bool.false_ne_true
  | _ => exact absurd h Bool.false_ne_true
theorem pe_callS0 {X : Cx} {CX : CXT} {k : Nat} {f : Addr} {fd : FuncData} {ps : List Str} {sp : Sp} {E : L2.St → XK} {x : Str} {p pos : Pos} (F : FnOk X.prog X.w X.K X.mg X.base CX k f fd ps sp) (hr : Room k X.A) (hg : Gl X x) (hm : X.mg x = some (.ref f))
    (hk : PySem.W.keepIn X.K (.ref f) = true) (hb : Binds X.K fd ps []) (hx : ∀ σ, PassesAt CX X σ (E σ)) (hdb : (x == ("__debug__" : Str)) = false) : PE X (.Call (.Name x p) [] [] pos) (tCallS sp E tNil) := by
  refine ⟨fun pins s σ H Q I h => ?_⟩
  refine wpAny_Call_Name_kw (ld_glob I hg hm ?_ hdb)
  exact PySem.W.callWith_K0 I.kIn hk (run_fnS (us := []) F hr hb (hx σ) I .nil h)
theorem sem_len {k : Nat} {ds : List D} {S : Store} {g : Gh} {E : Str → Hp → Prop} {Q : VK} (p : Pst w g E Q (sem T n k ds S)) : ∃ f, T.fns[k]? = some f ∧ ds.length = f.ps.length := by
  cases n with
  | zero => exact p.elim
  | succ n =>
    have p' : Pst w g E Q (match T.fns[k]? with
      | some f => if ds.length = f.ps.length then endF (evS (sem T n) (T.cst.map (·.2)) f.body (startE f.N.length ds) S) else .bad
      | none => .bad) := p
    cases q : T.fns[k]? with
    | none => rw [q] at p'; exact p'.elim
    | some f =>
      rw [q] at p'
      simp only at p'
      split at p'
      · rename_i hl; exact ⟨f, rfl, hl⟩
      · exact p'.elim
theorem s_call {k : Nat} {es : E} (h1 : SAll T w n es) : SAll T w n (.call k es) := by
  refine .ofE (fun {N sc W X x} G h => ?_) (fun _ _ _ => rfl) (fun _ _ _ => rfl) (fun _ _ _ => rfl)
  cases x with
  | Call fn xs kw pos =>
    cases fn with
    | Name x p =>
      match kw, h with
      | [], h =>
        have h' : (decide ((T.fns[k]?).map (·.name) = some x) && glB sc x && nmB x && chkA T N sc es xs) = true := h
        simp only [Bool.and_eq_true, decide_eq_true_eq] at h'
        obtain ⟨⟨⟨h2, h3⟩, h4⟩, h5⟩ := h'
        obtain ⟨f, e1, rfl⟩ := map_some h2
        obtain ⟨a, fd, m1, kp, bd, F⟩ := G.fn k f e1
        cases xs with
        | nil =>
          refine (pe_callS0 (E := WE W) F G.room (G.gl h3) m1 kp bd (fun σ => passAt G.tk σ) (nm1 h4).1).imp fun σ H Q ⟨g, S, env, ok, re, p⟩ => ?_
          cases es with
          | nil => exact ⟨g, S, [], ok, .nil, sem_len p, p⟩
          | _ => exact absurd h5 Bool.false_ne_true
        | cons y ys =>
          obtain ⟨c, b, rfl, c1, c2, c3⟩ := chkA_cons h5
          refine (pe_callS (E := WE W) F G.room (G.gl h3) m1 kp bd (fun σ => passAt G.tk σ) (h1.sa G h5) (nm1 h4).1 (star1 c1 _ _) (backs pos _ c3)).imp fun σ H Q ⟨g, S, env, ok, re, p⟩ => ?_
          refine liftA_mono (fun y H2 ⟨g2, S2, d2, l2, k2, r2, p2⟩ => ?_) (bA ok re p)
          exact ⟨g2, S2, d2, k2, r2, sem_len p2, p2⟩
      | _ :: _, h => exact absurd h Bool.false_ne_true
    | _ => exact absurd h Bool.false_ne_true
  | _ => exact absurd h Bool.false_ne_true
theorem s_isT {a : E} {t : String} (ha : SAll T w n a) : SAll T w n (.isT a t) := by
  refine .ofE (fun {N sc W X x} G h => ?_) (fun _ _ _ => rfl) (fun _ _ _ => rfl) (fun _ _ _ => rfl)
  cases x with
  | Call fn xs kw pos =>
    cases fn with
    | Name x p =>
      match xs, h with
      | [], h => exact absurd h Bool.false_ne_true
      | [_], h => exact absurd h Bool.false_ne_true
      | y :: z :: rest, h =>
        cases z with
        | Name z pz =>
          cases rest with
          | nil =>
            cases kw with
            | nil =>
                have h' : (decide (x = ("isinstance" : Str)) && glB sc x && decide (x ∈ T.blt) && glB sc z && nmB z && decide (z ∈ T.blt) && decide (bootBuiltins z = some (.type t)) && noStar y && chkE T N sc a y) = true := h
                simp only [Bool.and_eq_true, decide_eq_true_eq] at h'
                obtain ⟨⟨⟨⟨⟨⟨⟨⟨rfl, h2⟩, h3⟩, h4⟩, h5⟩, h6⟩, h7⟩, h8⟩, h9⟩ := h'
                have pz : PE X (.Name z pz) (tC (.ty t)) := pe_bltn (v := .ty t) (G.gl h4) (G.blt z h6) h7 rfl (nm1 h5).2.2 (nm1 h5).1
                refine (pe_callB call_isi (G.gl h2) (G.blt _ h3) (by decide +kernel) (pa_cons (ha.se G h9) (pa_cons pz pa_nil) (star1 h8 _ _)) (by decide) (by decide) (star1 h8 _ _)).imp fun σ H Q ⟨g, S, env, ok, re, p⟩ => ?_
                refine liftE_mono (fun x H1 ⟨g1, S1, d1, l1, k1, r1, p1⟩ => ?_) (bE ok re p)
                have p2 : Pst w g1 (Ew w W σ) Q (finO false (bV ((typD S1 d1).bind (instB · t))) S1) := p1
                cases q : typD S1 d1 with
                | none => rw [q] at p2; exact p2.elim
                | some ty =>
                  rw [q] at p2
                  cases q2 : instB ty t with
                  | none =>
                    have p3 : Pst w g1 (Ew w W σ) Q (finO false (bV (instB ty t)) S1) := p2
                    rw [q2] at p3; exact p3.elim
                  | some b =>
                    have p3 : Pst w g1 (Ew w W σ) Q (finO false (bV (instB ty t)) S1) := p2
                    rw [q2] at p3
                    exact ⟨x, .ty t, .type ty, .type t, b, rfl, .ty t, by rw [G.hw]; exact typD_ok k1 r1 q, kit_ty q2, p3 g1 H1 (Gh.Le.refl g1) k1 _ (.bl _)⟩
            | cons _ _ => exact absurd h Bool.false_ne_true
          | cons _ _ => exact absurd h Bool.false_ne_true
        | _ => cases rest <;> exact absurd h Bool.false_ne_true
    | _ => exact absurd h Bool.false_ne_true
  | _ => exact absurd h Bool.false_ne_true

/-! ### what is walked -/
def iAny (K : PySem.W.Frag) (tl : TE) : TI := fun σ H R => tl σ H fun x H1 => (∃ a, x = .ref a ∧ (∃ xs, SqL K H1 a xs) ∧ R (Itl K a) H1) ∨ (∃ a, x = .ref a ∧ (∃ xs, SqT K H1 a xs) ∧ R (Itt K a) H1) ∨ ∃ z, x = .str z ∧ R (Its z) H1
theorem pi_any {X : Cx} {tg l : Expr} {tl : TE} (hl : PE X l tl) : PI X tg l (iAny X.K tl) := by
  refine ⟨fun pins s σ H R I h => ?_⟩
  refine thn (hl.run pins s σ H _ I h) fun v s1 ⟨x, H1, I1, r1, q1⟩ => ?_
  rcases q1 with ⟨a, e, ⟨xs, hq⟩, q⟩ | ⟨a, e, ⟨xs, hq⟩, q⟩ | ⟨z, e, q⟩
  · subst e
    cases r1
    obtain ⟨its, rv, p, hz⟩ := I1.list hq
    refine wpAny_pyIter_list p.isList ?_
    refine ⟨s1.heap.objs.size, [s1.heap.objs.size], _, _, H1, rfl, I1.kept (t' := s1.toks) fun b o e => Heap.get?_push_of_some _ e, turn_list a _, ⟨_, Heap.get?_push_size _ rfl, rfl, rfl⟩, fun b hb => ?_, q⟩
    have e : b = s1.heap.objs.size := by simpa using hb
    subst e
    exact I1.fpOk (Nat.le_refl _) (I1.hok.fresh (Nat.le_refl _))
  · subst e
    cases r1
    obtain ⟨its, rv, p, hz⟩ := I1.tuple hq
    refine wpAny_pyIter_tuple (show s1.heap.IsTuple a its.toArray from p) ?_
    refine ⟨s1.heap.objs.size, [s1.heap.objs.size], _, _, H1, rfl, I1.kept (t' := s1.toks) fun b o e => Heap.get?_push_of_some _ e, turn_tuple a _, ⟨_, Heap.get?_push_size _ rfl, rfl, rfl⟩, fun b hb => ?_, q⟩
    have e : b = s1.heap.objs.size := by simpa using hb
    subst e
    exact I1.fpOk (Nat.le_refl _) (I1.hok.fresh (Nat.le_refl _))
  · subst e
    obtain ⟨t, rfl⟩ := r1
    cases ha : z.cps.all (· < 128)
    · exact wpAny_pyIter_wide ha (pi_one (tk := s1.toks) I1 _ (turn_str _ z t "str_iterator" (.inr rfl)) ⟨_, Heap.get?_push_size _ rfl, rfl, rfl⟩ q)
    · exact wpAny_pyIter_ascii ha (pi_one (tk := s1.toks) I1 _ (turn_str _ z t "str_ascii_iterator" (.inl rfl)) ⟨_, Heap.get?_push_size _ rfl, rfl, rfl⟩ q)
theorem it_list {g : Gh} {a : Addr} {ds : List D} {vs : List V} (h : ∀ g' S' H', g.Le g' → Ok w g' S' H' → SqL w.K H' a vs) (r : Rls w g ds vs) : ItOk w g (.vals ds) (Itl w.K a) := by
  intro g' S' H' l k i
  have sq := h g' S' H' l k
  refine ⟨fun d e => ?_, fun hi _ => ⟨vs, sq, by rw [← r.length]; exact hi⟩⟩
  obtain ⟨v, e1, rv⟩ := (r.mono l).get e
  refine ⟨⟨vs, v, sq, e1⟩, fun x H'' ⟨e2, y⟩ => ⟨e2, ?_⟩⟩
  have e3 := y vs sq
  rw [e1] at e3
  cases e3
  exact rv
theorem it_tup {g : Gh} {a : Addr} {ds : List D} {vs : List V} (h : ∀ g' S' H', g.Le g' → Ok w g' S' H' → SqT w.K H' a vs) (r : Rls w g ds vs) : ItOk w g (.vals ds) (Itt w.K a) := by
  intro g' S' H' l k i
  have sq := h g' S' H' l k
  refine ⟨fun d e => ?_, fun hi _ => ⟨vs, sq, by rw [← r.length]; exact hi⟩⟩
  obtain ⟨v, e1, rv⟩ := (r.mono l).get e
  refine ⟨⟨vs, v, sq, e1⟩, fun x H'' ⟨e2, y⟩ => ⟨e2, ?_⟩⟩
  have e3 := y vs sq
  rw [e1] at e3
  cases e3
  exact rv
theorem it_plc {g : Gh} {m len : Nat} (hm : m < g.nx) : ItOk w g (.plc m len) (Itl w.K (g.ι m)) := by
  intro g' S' H' l k i
  have ι' := l.ι m hm
  refine ⟨fun d e => ?_, fun hi ho => ?_⟩
  · obtain ⟨xs, e1, e2⟩ := bind_some (show ((obLst (S'.ob m)).bind fun (xs : List D) => xs[i]?) = some d from e)
    obtain ⟨vs, h1, h2⟩ := k.ob m _ (obLst_some e1)
    rw [ι'] at h1
    have sq : SqL w.K H' (g.ι m) vs := .inl (.inl h1)
    obtain ⟨v, e3, rv⟩ := h2.get e2
    refine ⟨⟨vs, v, sq, e3⟩, fun x H'' ⟨e4, y⟩ => ⟨e4, ?_⟩⟩
    have e5 := y vs sq
    rw [e3] at e5
    cases e5
    exact rv
  · have ho' : (match obLst (S'.ob m) with
      | some xs => decide (xs.length ≤ len)
      | none => false) = true := ho
    cases q : obLst (S'.ob m) with
    | none => rw [q] at ho'; cases ho'
    | some xs =>
      rw [q] at ho'
      have ho2 : xs.length ≤ len := of_decide_eq_true ho'
      obtain ⟨vs, h1, h2⟩ := k.ob m _ (obLst_some q)
      rw [ι'] at h1
      refine ⟨vs, .inl (.inl h1), ?_⟩
      have hi' : len ≤ i := hi
      rw [← h2.length]
      omega
theorem it_str {g : Gh} (z : Str) : ItOk w g (.vals (signs z)) (Its z) := by
  intro g' S' H' l k i
  have hl : (signs z).length = z.cps.size := by unfold signs; rw [List.length_map, Array.length_toList]
  refine ⟨fun d e => ?_, fun hi _ => by show z.cps.size ≤ i; rw [← hl]; exact hi⟩
  have e' : (z.cps.toList.map fun c => D.str (oneStr c))[i]? = some d := e
  rw [List.getElem?_map] at e'
  obtain ⟨c, e1, e2⟩ := map_some e'
  rw [Array.getElem?_toList] at e1
  refine ⟨(Array.getElem?_eq_some_iff.mp e1).1, fun x H'' ⟨e3, c', e4, e5⟩ => ⟨e3, ?_⟩⟩
  rw [e1] at e4
  cases e4
  rw [e2, e5]
  exact .str _
theorem intL_get {lo : Int} {k i : Nat} {d : D} (e : (intL lo k)[i]? = some d) : i < k ∧ d = .int (lo + (i : Int)) := by
  unfold intL at e
  rw [List.getElem?_map] at e
  obtain ⟨j, e1, e2⟩ := map_some e
  obtain ⟨h1, h2⟩ := List.getElem?_eq_some_iff.mp e1
  simp at h1 h2
  subst h2
  exact ⟨h1, e2⟩
theorem it_rng {g : Gh} (lo : Int) (k : Nat) : ItOk w g (.vals (intL lo k)) (Itr lo k) := by
  intro g' S' H' l ok i
  refine ⟨fun d e => ?_, fun hi _ => by show k ≤ i; have h : (intL lo k).length ≤ i := hi; unfold intL at h; simpa using h⟩
  obtain ⟨h1, rfl⟩ := intL_get (show (intL lo k)[i]? = some d from e)
  exact ⟨h1, fun x H'' ⟨e3, e4⟩ => ⟨e3, by rw [e4]; exact .int _⟩⟩
theorem s_itr {a : E} (ha : SAll T w n a) : SAll T w n (.itr a) := by
  refine ⟨fun _ q => absurd q Bool.false_ne_true, fun _ q => absurd q Bool.false_ne_true, fun _ q => absurd q Bool.false_ne_true, fun _ q => absurd q Bool.false_ne_true, fun {N sc W X x tg} G h => ?_⟩
  have h' : chkE T N sc a x = true := h
  refine (pi_any (ha.se G h')).imp fun σ H R ⟨g, S, env, ok, re, p⟩ => ?_
  refine liftE_mono (fun x H1 ⟨g1, S1, d1, l1, k1, r1, p1⟩ => ?_) (bE ok re p)
  have p2 : Pg w g1 (Ew w W σ) (fun src g' H' => ∀ J, ItOk w g' src J → R J H') (match srcOf S1 d1 with
    | some s => Rs.ok s S1
    | none => Rs.bad) := p1
  rw [G.hw]
  cases r1 with
  | str z =>
    have p3 : Pg w g1 (Ew w W σ) (fun src g' H' => ∀ J, ItOk w g' src J → R J H') (match (if z.length ≤ nMax then some (Src.vals (signs z)) else none) with
      | some s => Rs.ok s S1
      | none => Rs.bad) := p2
    split at p3
    · rename_i s hs
      split at hs
      · cases hs
        exact .inr (.inr ⟨z, rfl, p3 g1 H1 (Gh.Le.refl g1) k1 _ (it_str z)⟩)
      · cases hs
    · exact p3.elim
  | @tup a vs ds s r => exact .inr (.inl ⟨a, rfl, ⟨vs, k1.sqT s⟩, p2 g1 H1 (Gh.Le.refl g1) k1 _ (it_tup (fun g' S' H' l k => k.sqT (sqT_le l.F s)) r)⟩)
  | @lst a vs ds s r => exact .inl ⟨a, rfl, ⟨vs, .inl (.inl (k1.sub _ _ s))⟩, p2 g1 H1 (Gh.Le.refl g1) k1 _ (it_list (fun g' S' H' l k => .inl (.inl (k.sub _ _ (l.F _ _ s)))) r)⟩
  | @cst a vs ds s r => exact .inl ⟨a, rfl, ⟨vs, k1.sqL s⟩, p2 g1 H1 (Gh.Le.refl g1) k1 _ (it_list (fun g' S' H' l k => k.sqL (sqL_le l.F s)) r)⟩
  | @loc m hm =>
    have p3 : Pg w g1 (Ew w W σ) (fun src g' H' => ∀ J, ItOk w g' src J → R J H') (match ((obLst (S1.ob m)).map fun xs => Src.plc m xs.length) with
      | some s => Rs.ok s S1
      | none => Rs.bad) := p2
    cases q : obLst (S1.ob m) with
    | none => rw [q] at p3; exact p3.elim
    | some xs =>
      rw [q] at p3
      obtain ⟨vs, h1, h2⟩ := k1.ob m _ (obLst_some q)
      exact .inl ⟨_, rfl, ⟨vs, .inl (.inl h1)⟩, p3 g1 H1 (Gh.Le.refl g1) k1 _ (it_plc hm)⟩
  | _ => exact p2.elim
theorem s_rng {a : E} (ha : SAll T w n a) : SAll T w n (.rng a) := by
  refine ⟨fun _ q => absurd q Bool.false_ne_true, fun _ q => absurd q Bool.false_ne_true, fun _ q => absurd q Bool.false_ne_true, fun _ q => absurd q Bool.false_ne_true, fun {N sc W X x tg} G h => ?_⟩
  cases x with
  | Call fn xs kw pos =>
    cases fn with
    | Name x p =>
      match xs, kw, h with
      | [y], [], h =>
        have h' : (decide (x = ("range" : Str)) && glB sc x && decide (x ∈ T.blt) && noStar y && chkE T N sc a y) = true := h
        simp only [Bool.and_eq_true, decide_eq_true_eq] at h'
        obtain ⟨⟨⟨⟨rfl, h2⟩, h3⟩, h4⟩, h5⟩ := h'
        refine (pi_range1 (G.gl h2) (G.blt _ h3) (pa_cons (ha.se G h5) pa_nil (star1 h4 _ _)) (star1 h4 _ _)).imp fun σ H R ⟨g, S, env, ok, re, p⟩ => ?_
        refine liftE_mono (fun x H1 ⟨g1, S1, d1, l1, k1, r1, p1⟩ => ?_) (bE ok re p)
        cases r1 with
        | int j =>
          have p2 : Pg w g1 (Ew w W σ) (fun src g' H' => ∀ J, ItOk w g' src J → R J H') ((if j ≤ (nMax : Int) ∧ -(nMax : Int) ≤ j then M.pure (Src.vals (intL 0 j.toNat)) else M.bad) S1) := p1
          split at p2
          · rename_i hb
            have e1 : (nMax : Int) = 16000000 := rfl
            exact ⟨j, rfl, by omega, by omega, p2 g1 H1 (Gh.Le.refl g1) k1 _ (it_rng _ _)⟩
          · exact p2.elim
        | _ => exact p1.elim
      | [], _, h => exact absurd h Bool.false_ne_true
      | [_], _ :: _, h => exact absurd h Bool.false_ne_true
      | _ :: _ :: _, _, h => exact absurd h Bool.false_ne_true
    | _ => exact absurd h Bool.false_ne_true
  | _ => exact absurd h Bool.false_ne_true
theorem s_rng2 {a b : E} (ha : SAll T w n a) (hb : SAll T w n b) : SAll T w n (.rng2 a b) := by
  refine ⟨fun _ q => absurd q Bool.false_ne_true, fun _ q => absurd q Bool.false_ne_true, fun _ q => absurd q Bool.false_ne_true, fun _ q => absurd q Bool.false_ne_true, fun {N sc W X x tg} G h => ?_⟩
  cases x with
  | Call fn xs kw pos =>
    cases fn with
    | Name x p =>
      match xs, kw, h with
      | [y, z], [], h =>
        have h' : (decide (x = ("range" : Str)) && glB sc x && decide (x ∈ T.blt) && noStar y && noStar z && chkE T N sc a y && chkE T N sc b z) = true := h
        simp only [Bool.and_eq_true, decide_eq_true_eq] at h'
        obtain ⟨⟨⟨⟨⟨⟨rfl, h2⟩, h3⟩, h4⟩, h5⟩, h6⟩, h7⟩ := h'
        refine (pi_range2 (G.gl h2) (G.blt _ h3) (pa_cons (ha.se G h6) (pa_cons (hb.se G h7) pa_nil (star1 h5 _ _)) (star1 h4 _ _)) (by rw [star1 h4, star1 h5]; rfl) (star1 h5 _ _)).imp fun σ H R ⟨g, S, env, ok, re, p⟩ => ?_
        refine liftE_mono (fun x H1 ⟨g1, S1, d1, l1, k1, r1, p1⟩ => ?_) (bE ok re p)
        refine liftE_mono (fun y H2 ⟨g2, S2, d2, l2, k2, r2, p2⟩ => ?_) (bE k1 (re.mono l1) p1)
        cases r1 with
        | int i =>
          cases r2 with
          | int j =>
            have p3 : Pg w g2 (Ew w W σ) (fun src g' H' => ∀ J, ItOk w g' src J → R J H') ((if (i ≤ (nMax : Int) ∧ -(nMax : Int) ≤ i) ∧ j ≤ (nMax : Int) ∧ -(nMax : Int) ≤ j then M.pure (Src.vals (intL i (j - i).toNat)) else M.bad) S2) := p2
            split at p3
            · rename_i hb
              have e1 : (nMax : Int) = 16000000 := rfl
              exact ⟨i, j, rfl, ⟨by omega, by omega, by omega, by omega⟩, p3 g2 H2 (Gh.Le.refl g2) k2 _ (it_rng _ _)⟩
            · exact p3.elim
          | _ => exact p2.elim
        | _ => cases r2 <;> exact p2.elim
      | [], _, h => exact absurd h Bool.false_ne_true
      | [_], _, h => exact absurd h Bool.false_ne_true
      | [_, _], _ :: _, h => exact absurd h Bool.false_ne_true
      | _ :: _ :: _ :: _, _, h => exact absurd h Bool.false_ne_true
    | _ => exact absurd h Bool.false_ne_true
  | _ => exact absurd h Bool.false_ne_true

/-! ### freezing -/
theorem frz_ok {g : Gh} {S : Store} {H : Hp} {E : Str → Hp → Prop} {Q : VK} {m : Nat} {xs : List D} (k : Ok w g S H) (q : obLst (S.ob m) = some xs) (p : Pst w g E Q (.ok (.lst xs) (S.del m))) : Q (.ref (g.ι m)) H := by
  obtain ⟨vs, h1, h2⟩ := k.ob m _ (obLst_some q)
  obtain ⟨le, ok'⟩ := k.frz (obLst_some q) h1
  exact p _ _ le ok' _ (.lst upd_same (h2.mono le))
theorem s_frz {a : E} (ha : SAll T w n a) : SAll T w n (.frz a) := by
  refine .ofE (fun {N sc W X x} G h => ?_) (fun _ _ _ => rfl) (fun _ _ _ => rfl) (fun _ _ _ => rfl)
  have h' : chkE T N sc a x = true := by cases x <;> exact h
  refine (ha.se G h').imp fun σ H Q ⟨g, S, env, ok, re, p⟩ => ?_
  refine liftE_mono (fun x H1 ⟨g1, S1, d1, l1, k1, r1, p1⟩ => ?_) (bE ok re p)
  cases r1 with
  | @loc m hm =>
    have p2 : Pst w g1 (Ew w W σ) Q (match obLst (S1.ob m) with
      | some xs => Rs.ok (.lst xs) (S1.del m)
      | none => Rs.bad) := p1
    cases q : obLst (S1.ob m) with
    | none => rw [q] at p2; exact p2.elim
    | some xs => rw [q] at p2; exact frz_ok k1 q p2
  | _ => exact p1.elim
end
end ML

namespace ML
open PySem PySem.Spec PyProof.Rows L2
section
variable {T : Tab} {w : Wd} {n : Nat}

/-! ### comprehensions -/
def finishC (m : Bool) (k : Nat) : Rs Unit → Rs D
  | .ok _ S2 => if m = true then .ok (.loc k) S2 else match obLst (S2.ob k) with
    | some acc => .ok (.lst acc) (S2.del k)
    | none => .bad
  | _ => .bad
theorem compM_eq (m : Bool) (src : Src) (f : D → M (Option D)) (S : Store) : compM m src f S = finishC m S.nx (loopC src S.nx f src.num 0 (S.new (.lst []))) := by
  unfold compM finishC
  cases loopC src S.nx f src.num 0 (S.new (.lst [])) <;> rfl
def turnC (env : Env) (vs : List Nat) (i : Nat) (ft : Env → M Bool) (fe : Env → M D) : D → M (Option D) := fun x =>
  (ft ((wipeE env vs).set i (some x))).bind fun t => if t = true then (fe ((wipeE env vs).set i (some x))).bind fun y => M.pure (some y) else M.pure none
theorem comp_ok {W : WX} {g1 : Gh} {S1 : Store} {H1 : Hp} {env : Env} {σ : L2.St} {Q : VK} {E : Str → Hp → Prop} {m : Bool} {src : Src} {J : It} {vs : List Nat} {i : Nat} {ft : Env → M Bool} {fe : Env → M D} {Da : Addr}
    (k1 : Ok w g1 S1 H1) (re : REnv w g1 env σ) (it : ItOk w g1 src J) (hD : H1 Da = none) (hi : i ∈ vs) (p1 : Pst w g1 E Q (compM m src (turnC env vs i ft fe) S1)) :
    ∃ W' : Nat → Nat → Hp → Prop, (∃ m, W' 0 m (upd H1 Da (.lst []))) ∧ ∀ j m H, W' j m H →
      (J.stop j H ∧ Q (.ref Da) H) ∨ (J.go j H ∧ ∃ Nx : Hp → Prop, (∀ H', Nx H' → ∃ m', m' < m ∧ W' (j + 1) m' H') ∧ ∀ x H', J.yld j H x H' → gName i x (L2.wipe σ vs) H' fun σ2 H2 => L2.wipe σ2 vs = L2.wipe σ vs ∧ liftT w ft W σ2 H2 fun b H3 =>
        if b = true then liftE w fe W σ2 H3 fun y H4 => ∃ acc, H4 Da = some (.lst acc) ∧ acc.length < sizeLine ∧ Nx (upd H4 Da (.lst (acc ++ [y]))) else Nx H3) := by
  rw [compM_eq] at p1
  have lp : g1.Le (g1.put Da) := Gh.put_le
  have ιD : ∀ g', (g1.put Da).Le g' → g'.ι S1.nx = Da := fun g' l => by
    rw [k1.nx, l.ι g1.nx (Nat.lt_succ_self _)]
    exact Gh.put_ι
  refine ⟨fun j k H => j + k = src.num ∧ ∃ g' S', (g1.put Da).Le g' ∧ Ok w g' S' H ∧ Pst w g' E Q (finishC m S1.nx (loopC src S1.nx (turnC env vs i ft fe) k j S')), ⟨src.num, Nat.zero_add _, g1.put Da, S1.new (.lst []), Gh.Le.refl _, ?_, p1.mono lp⟩, ?_⟩
  · exact k1.addS hD (fun b u q => by rw [upd_ne (ne_of_none q hD)]; exact q) upd_same ⟨[], rfl, .nil⟩
  rintro j k H ⟨hjk, g', S', l', k', p⟩
  have itj := it g' S' H (lp.trans l') k' j
  cases k with
  | zero =>
    have p' : Pst w g' E Q (finishC m S1.nx (if src.over S' = true then .ok () S' else .bad)) := p
    split at p'
    · rename_i ho
      refine .inl ⟨itj.2 (by omega) ho, ?_⟩
      cases m with
      | true =>
        have p2 : Pst w g' E Q (.ok (.loc S1.nx) S') := p'
        have hn : S1.nx < g'.nx := Nat.lt_of_lt_of_le (by rw [k1.nx]; exact Nat.lt_succ_self _) l'.nx
        have r : Rl w g' (.loc S1.nx) (.ref (g'.ι S1.nx)) := .loc hn
        rw [ιD g' l'] at r
        exact p2 g' H (Gh.Le.refl g') k' _ r
      | false =>
        have p2 : Pst w g' E Q (match obLst (S'.ob S1.nx) with
          | some acc => .ok (.lst acc) (S'.del S1.nx)
          | none => .bad) := p'
        cases q : obLst (S'.ob S1.nx) with
        | none => rw [q] at p2; exact p2.elim
        | some acc =>
          rw [q] at p2
          have z := frz_ok k' q p2
          rw [ιD g' l'] at z
          exact z
    · exact p'.elim
  | succ k =>
    have p' : Pst w g' E Q (finishC m S1.nx (match src.get S' j with
      | none => .bad
      | some x => match turnC env vs i ft fe x S' with
        | .ok none S1' => loopC src S1.nx (turnC env vs i ft fe) k (j + 1) S1'
        | .ok (some y) S1' => match obLst (S1'.ob S1.nx) with
          | some acc => if acc.length < nMax then loopC src S1.nx (turnC env vs i ft fe) k (j + 1) (S1'.set S1.nx (.lst (acc ++ [y]))) else .bad
          | none => .bad
        | _ => .bad)) := p
    cases hg : src.get S' j with
    | none => rw [hg] at p'; exact p'.elim
    | some d =>
      rw [hg] at p'
      simp only at p'
      obtain ⟨go, yl⟩ := itj.1 d hg
      refine .inr ⟨go, fun H' => ∃ g'' S'', (g1.put Da).Le g'' ∧ Ok w g'' S'' H' ∧ Pst w g'' E Q (finishC m S1.nx (loopC src S1.nx (turnC env vs i ft fe) k (j + 1) S'')), fun H' ⟨g'', S'', a1, a2, a3⟩ => ⟨k, Nat.lt_succ_self _, by omega, g'', S'', a1, a2, a3⟩, fun x H' y => ?_⟩
      obtain ⟨rfl, rx⟩ := yl x H' y
      have re2 : REnv w g' ((wipeE env vs).set i (some d)) ((L2.wipe σ vs).set i (some x)) := (wipe_rel (re.mono (lp.trans l')) vs).set i rx
      refine ⟨by rw [wipe_set hi, wipe_idem], g', S', _, k', re2, ?_⟩
      cases hft : ft ((wipeE env vs).set i (some d)) S' with
      | exc c S3 =>
        have e : turnC env vs i ft fe d S' = .exc c S3 := by unfold turnC M.bind; rw [hft]; rfl
        rw [e] at p'
        exact p'.elim
      | bad =>
        have e : turnC env vs i ft fe d S' = .bad := by unfold turnC M.bind; rw [hft]; rfl
        rw [e] at p'
        exact p'.elim
      | ok t S3 =>
        intro g3 H3 l3 k3
        cases t with
        | false =>
          have e : turnC env vs i ft fe d S' = .ok none S3 := by unfold turnC M.bind; rw [hft]; rfl
          rw [e] at p'
          exact iteF ⟨g3, S3, l'.trans l3, k3, p'.mono l3⟩
        | true =>
          refine iteT ⟨g3, S3, _, k3, re2.mono l3, ?_⟩
          cases hfe : fe ((wipeE env vs).set i (some d)) S3 with
          | exc c S4 =>
            have e : turnC env vs i ft fe d S' = .exc c S4 := by
              unfold turnC M.bind
              rw [hft]
              show ((fe _ S3).andThen _) = _
              rw [hfe]
              rfl
            rw [e] at p'
            exact p'.elim
          | bad =>
            have e : turnC env vs i ft fe d S' = .bad := by
              unfold turnC M.bind
              rw [hft]
              show ((fe _ S3).andThen _) = _
              rw [hfe]
              rfl
            rw [e] at p'
            exact p'.elim
          | ok yd S4 =>
            have e : turnC env vs i ft fe d S' = .ok (some yd) S4 := by
              unfold turnC M.bind
              rw [hft]
              show ((fe _ S3).andThen _) = _
              rw [hfe]
              rfl
            rw [e] at p'
            simp only at p'
            intro g4 H4 l4 k4 yv ry
            cases hq : obLst (S4.ob S1.nx) with
            | none => rw [hq] at p'; exact p'.elim
            | some acc =>
              rw [hq] at p'
              simp only at p'
              split at p'
              · rename_i hl
                obtain ⟨us, h1, h2⟩ := k4.ob S1.nx _ (obLst_some hq)
                have ιe := ιD g4 ((l'.trans l3).trans l4)
                have k5 := k4.setS (o' := .lst (acc ++ [yd])) (obLst_some hq) ⟨_, rfl, h2.append (.cons ry .nil)⟩
                rw [ιe] at h1 k5
                exact ⟨us, h1, by rw [← h2.length]; exact nMax_lt hl, g4, _, (l'.trans l3).trans l4, k5, (p'.mono l3).mono l4⟩
              · exact p'.elim
theorem _root_.L2.PTs.imp {X : Cx} {e : List Expr} {t t' : TT} (h : ∀ σ H Q, t' σ H Q → t σ H Q) (p : PTs X e t) : PTs X e t' := ⟨fun pins s σ H Q I q => p.run pins s σ H Q I (h σ H Q q)⟩
theorem Good.blk {N : List Str} {sc scope : Scope} {W : WX} {X : Cx} (G : Good T w n N sc W X) (s : Shared) (H : Hp) (C : Addr) (cl : List (Str × Addr)) (fp : List Addr) :
    Good T w n N (relS scope sc) (fun _ _ _ _ => False) (X.blk s H scope (compEnvC scope cl C X.env) fp) :=
  ⟨G.hN, G.nd, by rw [← G.hs]; rfl, G.hw, G.calm, G.room, takes0, G.cst, G.blt, G.dct, G.cls, G.sub, G.fn⟩
theorem set2 {y : Expr} (h : noSet y = true) (env : PySem.Env) : ∀ x, foldedSetIterable y env x = pure x := by
  intro x
  cases y <;> first | rfl | cases h
/-- the parts of a comprehension -/
structure LcParts (w : Wd) (X : Cx) (W : WX) (ev : Env → M D) (elt tg iter : Expr) (ifs : List Expr) (scope : Scope) (own : List (Str × Nat)) (wi : TI) (g : TG) (tt : TT) (te : TE) : Prop where
  hi : PI X tg iter wi
  ok : BlkOk X.N X.env.scope scope own
  hg : ∀ (s : Shared) (H : Hp) (C : Addr) (cl : List (Str × Addr)) (fp : List Addr), PG (X.blk s H scope (compEnvC scope cl C X.env) fp) tg g
  ht : ∀ (s : Shared) (H : Hp) (C : Addr) (cl : List (Str × Addr)) (fp : List Addr), PTs (X.blk s H scope (compEnvC scope cl C X.env) fp) ifs tt
  he : ∀ (s : Shared) (H : Hp) (C : Addr) (cl : List (Str × Addr)) (fp : List Addr), PE (X.blk s H scope (compEnvC scope cl C X.env) fp) elt te
  hs : ∀ x, foldedSetIterable iter X.env x = pure x
  rd : ∀ σ H Q, liftE w ev W σ H Q → tLc wi g tt te (own.map (·.2)) σ H Q
theorem lc_parts {N : List Str} {sc : Scope} {W : WX} {X : Cx} {m : Bool} {own : List (Str × Nat)} {i : Nat} {it c e : E} {x : Expr} (h1 : SAll T w n it) (h2 : SAll T w n c) (h3 : SAll T w n e) (G : Good T w n N sc W X) (h : chkE T N sc (.lc m own i it c e) x = true) :
    ∃ elt tg iter ifs scope pos wi g tt te, x = .ListComp elt [⟨tg, iter, ifs, 0⟩] scope pos ∧ LcParts w X W (evE (sem T n) (gvs T) (.lc m own i it c e)) elt tg iter ifs scope own wi g tt te := by
  cases x with
  | ListComp elt gs scope pos =>
    have h0 : (match lcOf gs with
      | some (y, iter, ifs) => blkC N sc scope own && decide (i ∈ own.map (·.2)) && decide (N[i]? = some y) && locB scope y && noSet iter && chkI T N sc it iter && chkIf (isOff c) (chkT T N (relS scope sc) c) ifs && chkE T N (relS scope sc) e elt
      | none => false) = true := h
    cases hq : lcOf gs with
    | none => rw [hq] at h0; cases h0
    | some p =>
      obtain ⟨y, iter, ifs⟩ := p
      rw [hq] at h0
      obtain ⟨py, rfl⟩ := lcOf_some hq
      have h' : (blkC N sc scope own && decide (i ∈ own.map (·.2)) && decide (N[i]? = some y) && locB scope y && noSet iter && chkI T N sc it iter && chkIf (isOff c) (chkT T N (relS scope sc) c) ifs && chkE T N (relS scope sc) e elt) = true := h0
      simp only [Bool.and_eq_true, decide_eq_true_eq] at h'
      obtain ⟨⟨⟨⟨⟨⟨⟨a1, a2⟩, a3⟩, a4⟩, a5⟩, a6⟩, a7⟩, a8⟩ := h'
      have kk : (scope.names.lookup y = some .local) ∨ (scope.names.lookup y = some .cell) := by
        unfold locB at a4
        split at a4
        · exact .inl (by assumption)
        · exact .inr (by assumption)
        · cases a4
      refine ⟨elt, .Name y py, iter, ifs, scope, pos, liftI w (evI (sem T n) (gvs T) it) W, gName i, liftT w (fun env => if isOff c = true then M.pure true else evT (sem T n) (gvs T) c env) (fun _ _ _ _ => False), liftE w (evE (sem T n) (gvs T) e) (fun _ _ _ _ => False), rfl, ?_⟩
      refine ⟨h1.si G a6, by rw [G.hN, G.hs]; exact blkOk_by a1, fun s H C cl fp => ?_, fun s H C cl fp => ?_, fun s H C cl fp => h3.se (G.blk s H C cl fp) a8, set2 a5 _, fun σ H Q ⟨g, S, env, ok, re, p⟩ => ?_⟩
      · have hl : ∀ k, k ≠ NameKind.free → scope.names.lookup y = some k → (X.blk s H scope (compEnvC scope cl C X.env) fp).env.scope.names.lookup y = some k := fun k hk e1 => lookup_relS_keep (sc := X.env.scope) hk e1
        rcases kk with k1 | k1
        · exact pg_name (i := i) (by show X.N.Nodup; rw [G.hN]; exact G.nd) (by show X.N[i]? = some y; rw [G.hN]; exact a3) (.inl (hl _ (by decide) k1)) (.inr (hl _ (by decide) k1))
        · exact pg_name (i := i) (by show X.N.Nodup; rw [G.hN]; exact G.nd) (by show X.N[i]? = some y; rw [G.hN]; exact a3) (.inr (hl _ (by decide) k1)) (.inl (by show (scope.names.lookup y == some .cell) = true; rw [k1]; rfl))
      · match ifs, a7 with
        | [], a7 =>
          have a7' : isOff c = true := a7
          refine pts_nil.imp fun σ H Q ⟨g, S, env, ok, re, p⟩ => ?_
          simp only [a7', if_true] at p
          exact p g H (Gh.Le.refl g) ok
        | [t], a7 =>
          have a7' : (!isOff c && chkT T N (relS scope sc) c t) = true := a7
          simp only [Bool.and_eq_true, Bool.not_eq_true'] at a7'
          refine (pts_one (h2.st (G.blk s H C cl fp) a7'.2)).imp fun σ H Q ⟨g, S, env, ok, re, p⟩ => ⟨g, S, env, ok, re, ?_⟩
          simp only [a7'.1, Bool.false_eq_true, if_false] at p
          exact p
        | _ :: _ :: _, a7 => exact absurd a7 Bool.false_ne_true
      · refine liftI_mono (fun J H1 ⟨g1, S1, src, l1, k1, itk, p1⟩ => ?_) (bI ok re p)
        intro Da hD
        exact comp_ok (ft := fun env => if isOff c = true then M.pure true else evT (sem T n) (gvs T) c env) k1 (re.mono l1) itk hD a2 p1
  | _ => exact absurd h Bool.false_ne_true
theorem s_lc {m : Bool} {own : List (Str × Nat)} {i : Nat} {it c e : E} (h1 : SAll T w n it) (h2 : SAll T w n c) (h3 : SAll T w n e) : SAll T w n (.lc m own i it c e) := by
  refine .ofE (fun {N sc W X x} G h => ?_) (fun _ _ _ => rfl) (fun _ _ _ => rfl) (fun _ _ _ => rfl)
  obtain ⟨elt, tg, iter, ifs, scope, pos, wi, g, tt, te, rfl, P⟩ := lc_parts h1 h2 h3 G h
  exact (pe_lc G.calm (by rw [G.hN]; exact G.nd) P.hi P.ok P.hg P.ht P.he P.hs).imp P.rd
theorem kD_rl {w : Wd} {g : Gh} (k : Key) : Rl w g (kD k) (kV k) := by
  cases k with
  | inl i => exact .int i
  | inr s => exact .str s
theorem txts_rl {w : Wd} {g : Gh} : ∀ {ds : List D} {vs : List V} {ys : List Str}, Rls w g ds vs → txts ds = some ys → vs = ys.map V.str := fun r e => txts_ok r e
theorem s_lset {a : E} (ha : SAll T w n a) : SAll T w n (.lset a) := by
  refine .ofE (fun {N sc W X x} G h => ?_) (fun _ _ _ => rfl) (fun _ _ _ => rfl) (fun _ _ _ => rfl)
  match x, h with
  | .Call (.Name x _) [.Call (.Name y _) [z] [] _] [] _, h =>
    have h' : (decide (x = ("len" : Str)) && decide (y = ("set" : Str)) && glB sc x && glB sc y && decide (x ∈ T.blt) && decide (y ∈ T.blt) && noStar z && chkE T N sc a z) = true := h
    simp only [Bool.and_eq_true, decide_eq_true_eq] at h'
    obtain ⟨⟨⟨⟨⟨⟨⟨rfl, rfl⟩, g1⟩, g2⟩, b1⟩, b2⟩, ns⟩, c⟩ := h'
    refine (pe_lset G.calm (G.gl g1) (G.blt _ b1) (G.gl g2) (G.blt _ b2) (ha.se G c) (star1 ns _ _)).imp fun σ H Q ⟨g, S, env, ok, re, p⟩ => ?_
    refine liftE_mono (fun x H1 ⟨g1, S1, d1, l1, k1, r1, p1⟩ => ?_) (bE ok re p)
    have p2 : Pst w g1 (Ew w W σ) Q (finO false (lsetP d1) S1) := p1
    cases r1 with
    | @tup ad xs ds s r =>
      have p3 : Pst w g1 (Ew w W σ) Q (finO false ((txts ds).bind fun ys => if ys.length ≤ 1000 then some (.val (.int (met ys).length)) else none) S1) := p2
      cases q : txts ds with
      | none => rw [q] at p3; exact p3.elim
      | some ys =>
        rw [q, Option.bind_some] at p3
        split at p3
        · rename_i hl
          have e := txts_ok r q
          subst e
          refine ⟨ad, ys, rfl, by rw [G.hw]; exact k1.sqT s, hl, fin_val (m := false) p3 k1 (.int _)⟩
        · exact p3.elim
    | _ => exact p2.elim
theorem nsOf {K : PySem.W.Frag} {wd : World} {mg : Str → Option Value} {x : Str} {kvs : List (Str × Key)} : True := trivial
theorem s_inW {x : Str} {kvs : List (Str × Key)} {a : E} (ha : SAll T w n a) : SAll T w n (.inW x kvs a) := by
  refine ⟨fun {N sc W X y} G h => ?_, fun _ q => absurd q Bool.false_ne_true, fun {N sc W X y} G h => ?_, fun {N sc W X o vs pos} G h => absurd h Bool.false_ne_true, fun _ q => absurd q Bool.false_ne_true⟩
  · match y, h with
    | .Compare y [.In] [.Name d pd] pos, h =>
      have h' : (decide (d = x) && glB sc d && nmB d && dctB T x kvs && chkE T N sc a y) = true := h
      simp only [Bool.and_eq_true, decide_eq_true_eq] at h'
      obtain ⟨⟨⟨⟨rfl, g1⟩, g2⟩, hd⟩, c⟩ := h'
      obtain ⟨p, es, m, mp, kd, hz⟩ := G.dct _ _ (dctB_mem hd)
      refine (pe_cmpR (op_in_kd kd) (ha.se G c) (pe_glob (v := .ref p) (G.gl g1) mp rfl (nm1 g2).1) rfl).imp fun σ H Q ⟨g, S, env, ok, re, p⟩ => ?_
      refine liftE_mono (fun x H1 ⟨g1, S1, d1, l1, k1, r1, p1⟩ => ?_) (bE ok re p)
      have p2 : Pst w g1 (Ew w W σ) Q (finO false (bV (inWP kvs d1)) S1) := p1
      cases r1 with
      | str z =>
        obtain ⟨r, e1, e2⟩ := hz z
        have er : r.isSome = (kvs.lookup z).isSome := by
          cases q : kvs.lookup z with
          | none => rw [q] at e2; have e2' : r = none := e2; rw [e2']; rfl
          | some k => rw [q] at e2; obtain ⟨u, e3, _⟩ := e2; rw [e3]; rfl
        exact ⟨z, r, rfl, rfl, e1, by rw [er]; exact fin_val (m := false) p2 k1 (.bl _)⟩
      | _ => exact p2.elim
  · match y, h with
    | .Compare y [.In] [.Name d pd] pos, h =>
      have h' : (decide (d = x) && glB sc d && nmB d && dctB T x kvs && chkE T N sc a y) = true := h
      simp only [Bool.and_eq_true, decide_eq_true_eq] at h'
      obtain ⟨⟨⟨⟨rfl, g1⟩, g2⟩, hd⟩, c⟩ := h'
      obtain ⟨p, es, m, mp, kd, hz⟩ := G.dct _ _ (dctB_mem hd)
      refine (pt_cmpR (op_in_kd kd) (ha.se G c) (pe_glob (v := .ref p) (G.gl g1) mp rfl (nm1 g2).1) rfl).imp fun σ H Q ⟨g, S, env, ok, re, p⟩ => ?_
      refine liftE_mono (fun x H1 ⟨g1, S1, d1, l1, k1, r1, p1⟩ => ?_) (bE ok re p)
      have p2 : Pg w g1 (Ew w W σ) (fun d _ H' => Q d H') (match inWP kvs d1 with
        | some b => Rs.ok b S1
        | none => Rs.bad) := p1
      cases r1 with
      | str z =>
        obtain ⟨r, e1, e2⟩ := hz z
        have er : r.isSome = (kvs.lookup z).isSome := by
          cases q : kvs.lookup z with
          | none => rw [q] at e2; have e2' : r = none := e2; rw [e2']; rfl
          | some k => rw [q] at e2; obtain ⟨u, e3, _⟩ := e2; rw [e3]; rfl
        exact ⟨z, r, rfl, rfl, e1, _, rfl, by rw [er]; exact p2 g1 H1 (Gh.Le.refl g1) k1⟩
      | _ => exact p2.elim
theorem s_ixW {x : Str} {kvs : List (Str × Key)} {a : E} (ha : SAll T w n a) : SAll T w n (.ixW x kvs a) := by
  refine .ofE (fun {N sc W X y} G h => ?_) (fun _ _ _ => rfl) (fun _ _ _ => rfl) (fun _ _ _ => rfl)
  match y, h with
  | .Subscript (.Name d pd) y pos, h =>
    have h' : (decide (d = x) && glB sc d && nmB d && dctB T x kvs && noSlice y && chkE T N sc a y) = true := h
    simp only [Bool.and_eq_true, decide_eq_true_eq] at h'
    obtain ⟨⟨⟨⟨⟨rfl, g1⟩, g2⟩, hd⟩, sl⟩, c⟩ := h'
    obtain ⟨p, es, m, mp, kd, hz⟩ := G.dct _ _ (dctB_mem hd)
    refine (pe_ix ix_kdict (pe_glob (v := .ref p) (G.gl g1) mp rfl (nm1 g2).1) (ha.se G c) (slice1 sl)).imp fun σ H Q ⟨g, S, env, ok, re, p⟩ => ?_
    refine liftE_mono (fun x H1 ⟨g1, S1, d1, l1, k1, r1, p1⟩ => ?_) (bE ok re p)
    have p2 : Pst w g1 (Ew w W σ) Q (finO false ((ixWP kvs d1).map PR.val) S1) := p1
    cases r1 with
    | str z =>
      obtain ⟨r, e1, e2⟩ := hz z
      have p3 : Pst w g1 (Ew w W σ) Q (finO false (((kvs.lookup z).map kD).map PR.val) S1) := p2
      cases q : kvs.lookup z with
      | none => rw [q] at p3; exact p3.elim
      | some k =>
        rw [q] at e2 p3
        obtain ⟨u, e3, ru⟩ := e2
        subst e3
        exact ⟨_, z, kV k, rfl, rfl, ⟨es, m, u, kd.at_, kd.lit, e1, ru⟩, fin_val (m := false) p3 k1 (kD_rl k)⟩
    | _ => exact p2.elim
theorem exn_at {w : Wd} {g : Gh} {S : Store} {H : Hp} {c : Str} {v : V} (k : Ok w g S H) (r : Rl w g (.exn c) v) : ∃ C a, w.cl c = some C ∧ v = .ref a ∧ H a = some (ExK (.ref C) none a) := by
  cases r with
  | @exn _ C a h q => exact ⟨C, a, h, rfl, k.sub a _ q⟩
theorem pe_cls {X : Cx} {x : Str} {p : Pos} {v : V} {u : Value} (hg : Gl X x) (hn : nmB x = true) (k : ClsV v u) (h : NameIs X.mg x u) : PE X (.Name x p) (tC v) := by
  have rv : RelV v u := by cases k <;> rfl
  rcases h with h | ⟨h1, h2⟩
  · exact pe_glob hg h rv (nm1 hn).1
  · exact pe_bltn hg h1 h2 rv (nm1 hn).2.2 (nm1 hn).1
theorem s_isE {a : E} {c : Str} {tb : List (Str × Bool)} (ha : SAll T w n a) : SAll T w n (.isE a c tb) := by
  refine .ofE (fun {N sc W X x} G h => ?_) (fun _ _ _ => rfl) (fun _ _ _ => rfl) (fun _ _ _ => rfl)
  match x, h with
  | .Call (.Name x _) [y, .Name z _] [] _, h =>
    have h' : (decide (x = ("isinstance" : Str)) && glB sc x && decide (x ∈ T.blt) && glB sc z && nmB z && decide (z = c) && decide (c ∈ T.cls) && subB T c tb && noStar y && chkE T N sc a y) = true := h
    simp only [Bool.and_eq_true, decide_eq_true_eq] at h'
    obtain ⟨⟨⟨⟨⟨⟨⟨⟨⟨rfl, h2⟩, h3⟩, h4⟩, h5⟩, rfl⟩, h6⟩, h7⟩, h8⟩, h9⟩ := h'
    obtain ⟨v, u, kv, nu⟩ := G.cls z h6
    have pz : ∀ pp, PE X (.Name z pp) (tC v) := fun pp => pe_cls (G.gl h4) h5 kv nu
    refine (pe_callB call_isX (G.gl h2) (G.blt _ h3) (by decide +kernel) (pa_cons (ha.se G h9) (pa_cons (pz _) pa_nil) (star1 h8 _ _)) (by decide) (by decide) (star1 h8 _ _)).imp fun σ H Q ⟨g, S, env, ok, re, p⟩ => ?_
    refine liftE_mono (fun x H1 ⟨g1, S1, d1, l1, k1, r1, p1⟩ => ?_) (bE ok re p)
    have p2 : Pst w g1 (Ew w W σ) Q (finO false (bV (isEP tb d1)) S1) := p1
    cases d1 with
    | exn c =>
      obtain ⟨C, ad, hC, rfl, hH⟩ := exn_at k1 r1
      have p3 : Pst w g1 (Ew w W σ) Q (finO false (bV (tb.lookup c)) S1) := p2
      cases q : tb.lookup c with
      | none => rw [q] at p3; exact p3.elim
      | some b =>
        rw [q] at p3
        obtain ⟨C', hC', ec, hu⟩ := G.sub c z b (subB_mem h7 q)
        rw [hC] at hC'
        cases hC'
        exact ⟨ad, C, v, u, b, rfl, kv, hH, ec, (hu u nu).1, fin_val (m := false) p3 k1 (.bl _)⟩
    | _ => exact p2.elim
theorem sound : ∀ e : E, SAll T w n e := by
  intro e
  induction e with
  | var i => exact s_var i
  | cI i => exact s_cI i
  | cS i => exact s_cS i
  | cB i => exact s_cB i
  | cN => exact s_cN
  | glb k => exact s_glb k
  | bop m op a b ha hb => exact s_bop ha hb
  | neg a ha => exact s_neg ha
  | nt a ha => exact s_nt ha
  | cmp op a b ha hb => exact s_cmp ha hb
  | chn op op' a b c ha hb hc => exact s_chn ha hb hc
  | one a ha => exact s_one ha
  | con o a b ha hb => exact s_con ha hb
  | tru a ha => exact s_tru ha
  | ite c a b hc ha hb => exact s_ite hc ha hb
  | nil => exact s_nil
  | cons a b ha hb => exact s_cons ha hb
  | tup es h => exact s_tup h
  | lst m es h => exact s_lst h
  | idx a i ha hi => exact s_idx ha hi
  | slc m a lo hi ha hl hh => exact s_slc ha hl hh
  | off => exact s_off
  | blt m f es h => exact s_blt h
  | met m f o es ho h => exact s_met ho h
  | call k es h => exact s_call h
  | isT a t ha => exact s_isT ha
  | lc m own i it c e h1 h2 h3 => exact s_lc h1 h2 h3
  | rng a ha => exact s_rng ha
  | rng2 a b ha hb => exact s_rng2 ha hb
  | itr a ha => exact s_itr ha
  | frz a ha => exact s_frz ha
  | lset a ha => exact s_lset ha
  | isE a c tb ha => exact s_isE ha
  | inW x kvs a ha => exact s_inW ha
  | ixW x kvs a ha => exact s_ixW ha
end
end ML

/-! Statements, blocks, defs. -/
namespace ML
open PySem PySem.Spec PyProof.Rows L2

def PgS (w : Wd) (g : Gh) (W : WX) (D : Ends) : RS → Prop
  | .nx env' S' => ∀ g' H' σ', g.Le g' → Ok w g' S' H' → REnv w g' env' σ' → D.nx σ' H'
  | .rt d S' => ∀ g' H' v, g.Le g' → Ok w g' S' H' → Rl w g' d v → D.rt v H'
  | .exc c env' S' => ∀ g' H' σ', g.Le g' → Ok w g' S' H' → REnv w g' env' σ' → ∀ C, w.cl c = some C → W (.ref C) none σ' H'
  | .bad => False
theorem PgS.mono {w : Wd} {g g1 : Gh} {W : WX} {D : Ends} (l : g.Le g1) : ∀ {r : RS}, PgS w g W D r → PgS w g1 W D r
  | .nx _ _, h => fun g' H' σ' l' => h g' H' σ' (l.trans l')
  | .rt _ _, h => fun g' H' σ' l' => h g' H' σ' (l.trans l')
  | .exc _ _ _, h => fun g' H' σ' l' => h g' H' σ' (l.trans l')
  | .bad, h => h
def liftS (w : Wd) (f : Env → Store → RS) (W : WX) : TS := fun D σ H => ∃ g S env, Ok w g S H ∧ REnv w g env σ ∧ PgS w g W D (f env S)
theorem _root_.L2.PS.imp {X : Cx} {e : Stmt} {t t' : TS} (h : ∀ D σ H, t' D σ H → t D σ H) (p : PS X e t) : PS X e t' := ⟨fun pins s σ H D I q => p.run pins s σ H D I (h D σ H q)⟩
theorem _root_.L2.PSs.imp {X : Cx} {e : List Stmt} {t t' : TS} (h : ∀ D σ H, t' D σ H → t D σ H) (p : PSs X e t) : PSs X e t' := ⟨fun pins s σ H D I q => p.run pins s σ H D I (h D σ H q)⟩

section
variable {w : Wd} {W : WX} {σ : L2.St} {g : Gh} {S : Store} {H : Hp} {env : Env} {Dn : Ends}
/-- an expression, then the rest of the statement -/
theorem bSE {f : Env → M D} {k : D → Store → RS} (ok : Ok w g S H) (re : REnv w g env σ) (p : PgS w g W Dn ((f env S).thenS env k)) :
    liftE w f W σ H (fun x H1 => ∃ g1 S1 d, g.Le g1 ∧ Ok w g1 S1 H1 ∧ Rl w g1 d x ∧ PgS w g1 W Dn (k d S1)) := by
  refine ⟨g, S, env, ok, re, ?_⟩
  cases q : f env S with
  | ok d S1 => rw [q] at p; exact fun g1 H1 l k1 v r => ⟨g1, S1, d, l, k1, r, PgS.mono l p⟩
  | exc c S1 =>
    rw [q] at p
    have p' : PgS w g W Dn (.exc c env S1) := p
    exact fun g1 H1 l k1 C hC => p' g1 H1 σ l k1 (re.mono l) C hC
  | bad => rw [q] at p; exact p
theorem bST {f : Env → M Bool} {k : Bool → Store → RS} (ok : Ok w g S H) (re : REnv w g env σ) (p : PgS w g W Dn ((f env S).thenS env k)) :
    liftT w f W σ H (fun b H1 => ∃ g1 S1, g.Le g1 ∧ Ok w g1 S1 H1 ∧ PgS w g1 W Dn (k b S1)) := by
  refine ⟨g, S, env, ok, re, ?_⟩
  cases q : f env S with
  | ok d S1 => rw [q] at p; exact fun g1 H1 l k1 => ⟨g1, S1, l, k1, PgS.mono l p⟩
  | exc c S1 =>
    rw [q] at p
    have p' : PgS w g W Dn (.exc c env S1) := p
    exact fun g1 H1 l k1 C hC => p' g1 H1 σ l k1 (re.mono l) C hC
  | bad => rw [q] at p; exact p
theorem bSI {f : Env → M Src} {k : Src → Store → RS} (ok : Ok w g S H) (re : REnv w g env σ) (p : PgS w g W Dn ((f env S).thenS env k)) :
    liftI w f W σ H (fun J H1 => ∃ g1 S1 src, g.Le g1 ∧ Ok w g1 S1 H1 ∧ ItOk w g1 src J ∧ PgS w g1 W Dn (k src S1)) := by
  refine ⟨g, S, env, ok, re, ?_⟩
  cases q : f env S with
  | ok d S1 => rw [q] at p; exact fun g1 H1 l k1 J r => ⟨g1, S1, d, l, k1, r, PgS.mono l p⟩
  | exc c S1 =>
    rw [q] at p
    have p' : PgS w g W Dn (.exc c env S1) := p
    exact fun g1 H1 l k1 C hC => p' g1 H1 σ l k1 (re.mono l) C hC
  | bad => rw [q] at p; exact p
end

/-! ### the context of a block -/
/-- an error class of the text -/
structure ExcAt (K : PySem.W.Frag) (mg : Str → Option Value) (c : Str) (C : Addr) : Prop where
  mg : mg c = some (.ref C)
  ex : PySem.W.excIn K C [.type "ValueError", .type "Exception", .type "BaseException", .type "object"] "ValueError.__new__" = true
  kp : PySem.W.keepIn K (.ref C) = true
  sb : PySem.W.subIn K (.ref C) (.type "BaseException") = some true
  ty : PySem.W.typeIn K (.ref C) = some (.type "type")
structure GoodS (T : Tab) (w : Wd) (n : Nat) (N : List Str) (sc : Scope) (W : WX) (X : Cx) : Prop extends Good T w n N sc W X where
  kind : sc.kind = .function
  po : PassesOwn (model X.prog X.w) X.A X.env X.xe
  fnt : ∀ x, X.fn x = true
  exc : ∀ c, c ∈ T.exc → ∃ C, w.cl c = some C ∧ ExcAt X.K X.mg c C
  stk : X.stack = X.env :: X.outer
  frm : X.env.frame = some X.env.locals
  exq : X.ex = []

section
variable {T : Tab} {w : Wd} {n : Nat} {N : List Str} {sc : Scope} {W : WX} {X : Cx}
theorem swaps_is (G : GoodS T w n N sc W X) {v : Expr} {y : Str} {py : Pos} {l : Nat} (h : noDSC v = true) : swapsWith v (some (.Name y py)) l X.env = pure (swB sc y py v) := by
  cases v with
  | ListComp elt gs s pos =>
    unfold swapsWith swB
    have hk : X.env.blockKind = .function := by
      unfold PySem.Env.blockKind
      rw [G.hs, G.kind]
      rfl
    show pure (X.env.blockKind == .function && X.env.kindOf y == some .local && py.line == pos.line && !(s.names.any fun (n, k) => n == y && (k == .local || k == .cell))) = _
    rw [hk]
    have hl : (X.env.kindOf y == some .local) = (match sc.names.lookup y with
      | some .local => true
      | _ => false) := by
      show (X.env.scope.names.lookup y == some .local) = _
      rw [G.hs]
      cases sc.names.lookup y with
      | none => rfl
      | some k => cases k <;> rfl
    rw [hl]
    rfl
  | SetComp => cases h
  | DictComp => cases h
  | _ => rfl
theorem noComp1 {v : Expr} (h : noComp v = true) (t : Option Expr) (l : Nat) (env : PySem.Env) : swapsWith v t l env = pure false := by
  cases v <;> first | rfl | cases h
theorem noComp2 {v t : Expr} (h : noComp v = true) (l : Nat) (env : PySem.Env) : swapsWithSole [t] v l env = pure false := noComp1 h (some t) l env
theorem noTup1 {v : Expr} {es : List Expr} {k : Nat} {pos : Pos} (h : (!isTup v) = true) (env : PySem.Env) : swappedStores [.Tuple es k pos] v env = pure none := by
  cases v <;> first | rfl | cases h
theorem sub1 {y : Expr} {o : Expr} {pos : Pos} (h : noSlice y = true) (env : PySem.Env) : ∀ v, assign (.Subscript o y pos) env v = (do
      let ov ← holding [v] (eval o env)
      let iv ← holding [v, ov] (eval y env)
      standAt pos
      holding [v, ov, iv] (setItem ov iv v)
      release [v, ov, iv] []) := by
  intro v
  cases y <;> first | rfl | cases h
theorem swapped_sub {x y v : Expr} {pos : Pos} (env : PySem.Env) : swappedStores [.Subscript x y pos] v env = pure none := by
  cases v <;> rfl

/-! ### several targets -/
def setAllV : List Nat → List V → L2.St → L2.St
  | i :: is, v :: vs, σ => setAllV is vs (σ.set i (some v))
  | _, _, σ => σ
theorem setAll_rel {g : Gh} : ∀ (is : List Nat) {ds : List D} {vs : List V} {env : Env} {σ : L2.St}, Rls w g ds vs → REnv w g env σ → REnv w g (setAll is ds env) (setAllV is vs σ) := by
  intro is
  induction is with
  | nil => intro ds vs env σ r re; cases r <;> exact re
  | cons i is ih =>
    intro ds vs env σ r re
    cases r with
    | nil => exact re
    | cons r t => exact ih t (re.set i r)
def tgN (is : List Nat) : TGs := fun vs σ H Q => vs.length = is.length ∧ Q (setAllV is vs σ) H
theorem _root_.L2.PGs.imp {X : Cx} {e : List Expr} {t t' : TGs} (h : ∀ v σ H Q, t' v σ H Q → t v σ H Q) (p : PGs X e t) : PGs X e t' := ⟨fun pins s σ H v u Q I r q => p.run pins s σ H v u Q I r (h v σ H Q q)⟩
theorem pgs_names (G : GoodS T w n N sc W X) : ∀ (is : List Nat) {es : List Expr}, nmsB N sc is es = true → PGs X es (tgN is) ∧ (assignEach es X.env).length = is.length ∧ (assignEach es X.env).findIdx? (·.1) = none := by
  intro is
  induction is with
  | nil =>
    intro es h
    cases es with
    | nil =>
      refine ⟨pgs_nil.imp fun v σ H Q hh => ?_, rfl, rfl⟩
      obtain ⟨h1, h2⟩ := hh
      cases v with
      | nil => exact ⟨rfl, h2⟩
      | cons _ _ => cases h1
    | cons _ _ => exact absurd h Bool.false_ne_true
  | cons i is ih =>
    intro es h
    cases es with
    | nil => exact absurd h Bool.false_ne_true
    | cons e es =>
      cases e with
      | Name x pos =>
        have h' : (decide (N[i]? = some x) && locB sc x && nmsB N sc is es) = true := h
        simp only [Bool.and_eq_true, decide_eq_true_eq] at h'
        obtain ⟨P, L, Z⟩ := ih h'.2
        have Q1 := pgs_cons (pg_name (i := i) (pos := pos) (by rw [G.hN]; exact G.nd) (by rw [G.hN]; exact h'.1.1) (G.loc h'.1.2) (.inl (G.fnt x))) P
        refine ⟨Q1.imp fun v σ H Q hh => ?_, ?_, ?_⟩
        · obtain ⟨h1, h2⟩ := hh
          cases v with
          | nil => cases h1
          | cons v vs => exact ⟨v, vs, rfl, by simpa using h1, h2⟩
        · show (assignEach es X.env).length + 1 = is.length + 1
          rw [L]
        · show (((false, assign (.Name x pos) X.env) :: assignEach es X.env).findIdx? (·.1)) = none
          rw [List.findIdx?_cons]
          simp only [Bool.false_eq_true, if_false]
          rw [Z]
          rfl
      | _ => exact absurd h Bool.false_ne_true

/-! ### single statements -/
theorem t_asg (G : GoodS T w n N sc W X) {i : Nat} {e : E} {x : Str} {py pos : Pos} {v : Expr} (h1 : N[i]? = some x) (h2 : locB sc x = true) (h3 : noDSC v = true) (h4 : swB sc x py v = false) (h5 : chkE T N sc e v = true) :
    PS X (.Assign [.Name x py] v pos) (liftS w (evS (sem T n) (gvs T) (.asg i e)) W) := by
  refine (ps_set (i := i) (by rw [G.hN]; exact G.nd) (by rw [G.hN]; exact h1) (G.loc h2) ((sound e).se G.toGood h5) (by rw [swaps_is G h3, h4]) (.inl (G.fnt x))).imp fun D σ H ⟨g, S, env, ok, re, p⟩ => ?_
  refine liftE_mono (fun x H1 ⟨g1, S1, d1, l1, k1, r1, p1⟩ => ?_) (bSE ok re p)
  exact p1 g1 H1 _ (Gh.Le.refl g1) k1 ((re.mono l1).set i r1)
theorem t_asgC (G : GoodS T w n N sc W X) {i : Nat} {e : E} {x : Str} {py pos : Pos} {v : Expr} (h1 : N[i]? = some x) (h4 : swB sc x py v = true) (h5 : chkE T N sc e v = true) :
    PS X (.Assign [.Name x py] v pos) (liftS w (evS (sem T n) (gvs T) (.asgC i e)) W) ∨ ∀ m own j it c f, e ≠ .lc m own j it c f := by
  cases e with
  | lc m own j it c f =>
    refine .inl ?_
    obtain ⟨elt, tg, iter, ifs, scope, pos', wi, gg, tt, te, rfl, P⟩ := lc_parts (sound it) (sound c) (sound f) G.toGood h5
    have hsw : swapsWith (.ListComp elt [⟨tg, iter, ifs, 0⟩] scope pos') (some (.Name x py)) pos.line X.env = pure true := by rw [swaps_is G rfl, h4]
    have hl : sc.names.lookup x = some .local := by
      unfold swB at h4
      rw [Bool.and_eq_true, Bool.and_eq_true] at h4
      have := h4.1.1
      split at this
      · assumption
      · cases this
    refine (ps_setLc (i := i) G.calm (by rw [G.hN]; exact G.nd) (by rw [G.hN]; exact h1) (by rw [G.hs]; exact hl) hsw P.hi P.ok P.hg P.ht P.he P.hs).imp fun D σ H ⟨g, S, env, ok, re, p⟩ => ?_
    refine P.rd σ H _ ?_
    refine liftE_mono (fun x H1 ⟨g1, S1, d1, l1, k1, r1, p1⟩ => ?_) (bSE ok re p)
    exact p1 g1 H1 _ (Gh.Le.refl g1) k1 ((re.mono l1).set i r1)
  | _ => exact .inr fun _ _ _ _ _ _ h => nomatch h
theorem t_unp (G : GoodS T w n N sc W X) {is : List Nat} {e : E} {es : List Expr} {k : Nat} {py pos : Pos} {v : Expr} (h1 : nmsB N sc is es = true) (h2 : noComp v = true) (h3 : (!isTup v) = true) (h5 : chkE T N sc e v = true) :
    PS X (.Assign [.Tuple es k py] v pos) (liftS w (evS (sem T n) (gvs T) (.unp is e)) W) := by
  obtain ⟨P, L, Z⟩ := pgs_names G is h1
  refine (ps_asg ((sound e).se G.toGood h5) (pg_tup (n := is.length) G.calm P L Z) (noComp2 h2 _ _) (noTup1 h3 _)).imp fun D σ H ⟨g, S, env, ok, re, p⟩ => ?_
  refine liftE_mono (fun x H1 ⟨g1, S1, d1, l1, k1, r1, p1⟩ => ?_) (bSE ok re p)
  cases r1 with
  | @tup a vs ds s r =>
    have p2 : PgS w g1 W D (if ds.length = is.length then .nx (setAll is ds env) S1 else .bad) := p1
    split at p2
    · rename_i hl
      exact ⟨a, vs, rfl, by rw [G.hw]; exact k1.sqT s, by rw [← r.length]; exact hl, by rw [← r.length]; exact hl, p2 g1 H1 _ (Gh.Le.refl g1) k1 (setAll_rel is r (re.mono l1))⟩
    · exact p2.elim
  | _ => exact p1.elim
def rSt (w : Wd) : TSet := fun o i v H Q => ∃ g S d e f, Ok w g S H ∧ Rl w g d o ∧ Rl w g e i ∧ Rl w g f v ∧ Pg w g (fun _ _ => False) (fun _ _ H' => Q H') (storeM d e f S)
theorem set_ok : PSet X (rSt w) := by
  intro pins s σ H o i v ov iv u Q I ro ri rv h
  obtain ⟨g, S, d, e, f, k, r1, r2, r3, p⟩ := h
  cases r1 with
  | @loc m hm =>
    cases r2 with
    | int j =>
      have p' : Pg w g (fun _ _ => False) (fun _ _ H' => Q H') (match obLst (S.ob m) with
        | some xs => match ixN xs.length j with
          | some j => Rs.ok () (S.set m (.lst (xs.set j f)))
          | none => .bad
        | none => .bad) := p
      cases q : obLst (S.ob m) with
      | none => rw [q] at p'; exact p'.elim
      | some xs =>
        rw [q] at p'
        simp only at p'
        cases q2 : ixN xs.length j with
        | none => rw [q2] at p'; exact p'.elim
        | some jj =>
          rw [q2] at p'
          obtain ⟨vs, h1, h2⟩ := k.ob m _ (obLst_some q)
          exact set_list pins s σ H _ _ v ov iv u Q I ro ri rv ⟨_, vs, j, jj, rfl, rfl, h1, by rw [← h2.length]; exact q2, p' g _ (Gh.Le.refl g) (k.setS (obLst_some q) ⟨_, rfl, h2.set r3 jj⟩)⟩
    | _ => exact p.elim
  | _ => cases r2 <;> exact p.elim
theorem t_stI (G : GoodS T w n N sc W X) {o i e : E} {x y v : Expr} {py pos : Pos} (h1 : noSlice y = true) (h2 : noComp v = true) (h3 : chkE T N sc o x = true) (h4 : chkE T N sc i y = true) (h5 : chkE T N sc e v = true) :
    PS X (.Assign [.Subscript x y py] v pos) (liftS w (evS (sem T n) (gvs T) (.stI o i e)) W) := by
  refine (ps_asg ((sound e).se G.toGood h5) (pg_sub ((sound o).se G.toGood h3) ((sound i).se G.toGood h4) (set_ok (w := w)) (sub1 h1 _)) (noComp2 h2 _ _) (swapped_sub _)).imp fun D σ H ⟨g, S, env, ok, re, p⟩ => ?_
  refine liftE_mono (fun vv H1 ⟨g1, S1, d1, l1, k1, r1, p1⟩ => ?_) (bSE ok re p)
  refine liftE_mono (fun xx H2 ⟨g2, S2, d2, l2, k2, r2, p2⟩ => ?_) (bSE k1 (re.mono l1) p1)
  refine liftE_mono (fun yy H3 ⟨g3, S3, d3, l3, k3, r3, p3⟩ => ?_) (bSE k2 ((re.mono l1).mono l2) p2)
  refine ⟨g3, S3, d2, d3, d1, k3, r2.mono l3, r3, (r1.mono l2).mono l3, ?_⟩
  have p4 : PgS w g3 W D ((storeM d2 d3 d1 S3).thenS env fun _ S4 => .nx env S4) := p3
  cases q : storeM d2 d3 d1 S3 with
  | ok u S4 =>
    rw [q] at p4
    exact fun g4 H4 l4 k4 => p4 g4 H4 σ l4 k4 ((((re.mono l1).mono l2).mono l3).mono l4)
  | exc c S4 =>
    exfalso
    unfold storeM at q
    split at q
    · split at q
      · split at q <;> cases q
      · cases q
    · cases q
  | bad => rw [q] at p4; exact p4
theorem t_exp (G : GoodS T w n N sc W X) {e : E} {pos : Pos} {v : Expr} (h2 : noComp v = true) (h5 : chkE T N sc e v = true) :
    PS X (.Expr v pos) (liftS w (evS (sem T n) (gvs T) (.exp e)) W) := by
  refine (ps_expr ((sound e).se G.toGood h5) (noComp1 h2 _ _ _)).imp fun D σ H ⟨g, S, env, ok, re, p⟩ => ?_
  refine liftE_mono (fun x H1 ⟨g1, S1, d1, l1, k1, r1, p1⟩ => ?_) (bSE ok re p)
  exact p1 g1 H1 _ (Gh.Le.refl g1) k1 (re.mono l1)
theorem t_ret (G : GoodS T w n N sc W X) {e : E} {pos : Pos} {v : Expr} (h5 : chkE T N sc e v = true) :
    PS X (.Return (some v) pos) (liftS w (evS (sem T n) (gvs T) (.ret e)) W) := by
  refine (ps_ret ((sound e).se G.toGood h5)).imp fun D σ H ⟨g, S, env, ok, re, p⟩ => ?_
  refine liftE_mono (fun x H1 ⟨g1, S1, d1, l1, k1, r1, p1⟩ => ?_) (bSE ok re p)
  exact p1 g1 H1 _ (Gh.Le.refl g1) k1 r1
theorem t_retN {pos : Pos} : PS X (.Return none pos) (liftS w (evS (sem T n) (gvs T) .retN) W) :=
  ps_retN.imp fun D σ H ⟨g, S, env, ok, re, p⟩ => p g H _ (Gh.Le.refl g) ok .non
theorem t_pass {pos : Pos} : PS X (.Pass pos) (liftS w (evS (sem T n) (gvs T) .pass) W) :=
  ps_pass.imp fun D σ H ⟨g, S, env, ok, re, p⟩ => p g H σ (Gh.Le.refl g) ok re
theorem t_rais (G : GoodS T w n N sc W X) {c : Str} {s : Str} {k : Nat} {p p2 pos pos' : Pos} (h1 : c ∈ T.exc) (h2 : glB sc c = true) (h3 : nmB c = true) :
    PS X (.Raise (some (.Call (.Name c p) [.Constant (.str s) k p2] [] pos)) none pos') (liftS w (evS (sem T n) (gvs T) (.rais c)) W) := by
  obtain ⟨C, hC, XC⟩ := G.exc c h1
  exact (ps_raise G.calm G.tk (pmk_own PySem.F.excBase_ValueError XC.ex XC.mg XC.kp (raises_own XC.sb XC.ty) (G.gl h2) (nm1 h3).1)).imp fun D σ H ⟨g, S, env, ok, re, p⟩ => p g H σ (Gh.Le.refl g) ok re C hC
theorem t_tryK (G : GoodS T w n N sc W X) {b : ST} {x en hn : Str} {tb : List (Str × Bool)} {i h : Nat} {body : List Stmt} {np hp ep pos1 pos2 pos3 : Pos} (h1 : glB sc x = true) (h2 : nmB x = true) (h3 : x ∈ T.cls) (h4 : subB T x tb = true) (h5 : N[i]? = some en) (h6 : sc.names.lookup en = some .local) (h7 : nmB en = true) (h8 : N[h]? = some hn) (h9 : locB sc hn = true) (h10 : i ≠ h)
    (hb : ∀ {W : WX} {X : Cx}, GoodS T w n N sc W X → PSs X body (liftS w (evS (sem T n) (gvs T) b) W)) :
    PS X (.Try body [.ExceptHandler (some (.Name x np)) (some en) [.Assign [.Name hn hp] (.Name en ep) pos1] pos2] [] [] pos3) (liftS w (evS (sem T n) (gvs T) (.tryK b x tb i h)) W) := by
  obtain ⟨v, u, kv, nu⟩ := G.cls x h3
  have nms : Names X x u := ⟨G.gl h1, (nm1 h2).1, nu.elim .inl fun z => .inr ⟨z.1, z.2, (nm1 h2).2.2⟩⟩
  have hln : X.env.kindOf en = some .local := by show X.env.scope.names.lookup en = _; rw [G.hs]; exact h6
  refine (ps_try_keep (i := i) (tb := fun W => liftS w (evS (sem T n) (gvs T) b) W) (ts := fun a cls d => tSeq (tAsg (tVar i) (gName h)) tNext) (Wout := W) G.stk G.frm G.exq (by rw [G.hN]; exact G.nd) (by rw [G.hN]; exact h5) hln nms G.tk (fun W' pn xe tk' po' => hb ?_) (fun a oe cls d pn hz hv => pss_cons (ps_set (X := X.suite a ((a, oe) :: pn)) (i := h) (by show X.N.Nodup; rw [G.hN]; exact G.nd) (by show X.N[h]? = _; rw [G.hN]; exact h8) (G.loc h9) (pe_var (X := X.suite a ((a, oe) :: pn)) (i := i) (by show X.N[i]? = _; rw [G.hN]; exact h5) (.inl hln) (nm1 h7).1 (nm1 h7).2.1) rfl (.inl (G.fnt hn))) pss_nil)).imp fun D σ H ⟨g, S, env, ok, re, p⟩ => ⟨g, S, env, ok, re, ?_⟩
  · exact ⟨⟨G.hN, G.nd, G.hs, G.hw, G.calm, G.room, tk', G.cst, G.blt, G.dct, G.cls, G.sub, G.fn⟩, G.kind, po', G.fnt, G.exc, G.stk, G.frm, G.exq⟩
  · have p' : PgS w g W D (match evS (sem T n) (gvs T) b env S with
      | .exc c env' S' => match tb.lookup c with
        | some true => if i < env'.length then .nx ((env'.set h (some (.exn c))).set i none) S' else .bad
        | some false => .exc c env' S'
        | none => .bad
      | r => r) := p
    cases q : evS (sem T n) (gvs T) b env S with
    | nx env1 S1 => rw [q] at p'; exact p'
    | rt d1 S1 => rw [q] at p'; exact p'
    | bad => rw [q] at p'; exact p'
    | exc c env1 S1 =>
      rw [q] at p'
      simp only at p'
      intro g1 H1 σ1 l1 k1 re1 C hC
      cases q2 : tb.lookup c with
      | none => rw [q2] at p'; exact p'.elim
      | some b1 =>
        obtain ⟨C', hC', ec, hu⟩ := G.sub c x b1 (subB_mem h4 q2)
        rw [hC] at hC'
        cases hC'
        refine ⟨b1, (hu u nu).2, fun eb a ha => ?_, fun eb => ?_⟩
        · subst eb
          rw [q2] at p'
          simp only at p'
          by_cases hi0 : i < env1.length
          case neg => rw [if_neg hi0] at p'; exact p'.elim
          rw [if_pos hi0] at p'
          have hi : i < σ1.length := by
            rw [← re1.len]
            exact hi0
          refine ⟨.ref a, by rw [List.getElem?_set]; rw [if_pos rfl, if_pos hi], ?_⟩
          refine p' (g1.add a (ExH C a)) _ _ (l1.trans (Gh.add_le (k1.none ha))) (k1.addF ha) ?_
          have re2 := re1.mono (Gh.add_le (o := ExH C a) (k1.none ha))
          have rx : Rl w (g1.add a (ExH C a)) (.exn c) (.ref a) := .exn hC upd_same
          have re3 := (re2.set i rx).set h rx
          refine ⟨by simp [re1.len], fun j e z => ?_⟩
          by_cases cj : i = j
          · subst cj
            rw [List.getElem?_set] at z
            rw [if_pos rfl] at z
            split at z <;> cases z
          · rw [List.getElem?_set_ne cj] at z ⊢
            refine re3.get j e ?_
            rw [← z]
            by_cases ch : h = j
            · subst ch
              have aux : ∀ (l : Env) (y : Option ML.D), (l.set h y)[h]? = if h < l.length then some y else none := fun l y => by rw [List.getElem?_set, if_pos rfl]
              rw [aux, aux, List.length_set]
            · rw [List.getElem?_set_ne ch, List.getElem?_set_ne ch, List.getElem?_set_ne cj]
        · subst eb
          rw [q2] at p'
          exact p' g1 H1 σ1 l1 k1 re1 C hC
theorem t_ife (G : GoodS T w n N sc W X) {c : E} {a b : ST} {pos : Pos} {v : Expr} {x y : List Stmt} (h1 : chkT T N sc c v = true) (ha : PSs X x (liftS w (evS (sem T n) (gvs T) a) W)) (hb : PSs X y (liftS w (evS (sem T n) (gvs T) b) W)) :
    PS X (.If v x y pos) (liftS w (evS (sem T n) (gvs T) (.ife c a b)) W) := by
  refine (ps_if ((sound c).st G.toGood h1) ha hb).imp fun D σ H ⟨g, S, env, ok, re, p⟩ => ?_
  refine liftT_mono (fun t H1 ⟨g1, S1, l1, k1, p1⟩ => ?_) (bST ok re p)
  cases t with
  | true => exact iteT ⟨g1, S1, env, k1, re.mono l1, p1⟩
  | false => exact iteF ⟨g1, S1, env, k1, re.mono l1, p1⟩
theorem t_fr (G : GoodS T w n N sc W X) {i : Nat} {it : E} {b : ST} {x : Str} {py pos : Pos} {v : Expr} {y : List Stmt} (h1 : N[i]? = some x) (h2 : locB sc x = true) (h3 : noSet v = true) (h4 : chkI T N sc it v = true) (hb : PSs X y (liftS w (evS (sem T n) (gvs T) b) W)) :
    PS X (.For (.Name x py) v y [] pos) (liftS w (evS (sem T n) (gvs T) (.fr i it b)) W) := by
  refine (ps_for G.po G.calm ((sound it).si G.toGood h4) (pg_name (i := i) (by rw [G.hN]; exact G.nd) (by rw [G.hN]; exact h1) (G.loc h2) (.inl (G.fnt x))) hb (set2 h3 _)).imp fun D σ H ⟨g, S, env, ok, re, p⟩ => ?_
  refine liftI_mono (fun J H1 ⟨g1, S1, src, l1, k1, itk, p1⟩ => ?_) (bSI ok re p)
  refine ⟨fun j k σ H => j + k = src.num ∧ ∃ g' S' env', g1.Le g' ∧ Ok w g' S' H ∧ REnv w g' env' σ ∧ PgS w g' W D (loopF src (fun x env S => evS (sem T n) (gvs T) b (env.set i (some x)) S) k j env' S'), ⟨src.num, Nat.zero_add _, g1, S1, env, Gh.Le.refl _, k1, re.mono l1, p1⟩, ?_⟩
  rintro j k σ' H' ⟨hjk, g', S', env', l', k', re', p'⟩
  have itj := itk g' S' H' l' k' j
  cases k with
  | zero =>
    have p2 : PgS w g' W D (if src.over S' = true then .nx env' S' else .bad) := p'
    split at p2
    · rename_i ho
      exact .inl ⟨itj.2 (by omega) ho, p2 g' H' σ' (Gh.Le.refl _) k' re'⟩
    · exact p2.elim
  | succ k =>
    have p2 : PgS w g' W D (match src.get S' j with
      | none => .bad
      | some x => match evS (sem T n) (gvs T) b (env'.set i (some x)) S' with
        | .nx env' S' => loopF src (fun x env S => evS (sem T n) (gvs T) b (env.set i (some x)) S) k (j + 1) env' S'
        | .rt d S' => .rt d S'
        | .exc c env' S' => .exc c env' S'
        | .bad => .bad) := p'
    cases hg : src.get S' j with
    | none => rw [hg] at p2; exact p2.elim
    | some d =>
      rw [hg] at p2
      simp only at p2
      obtain ⟨go, yl⟩ := itj.1 d hg
      refine .inr ⟨go, fun σ'' H'' => ∃ g'' S'' env'', g1.Le g'' ∧ Ok w g'' S'' H'' ∧ REnv w g'' env'' σ'' ∧ PgS w g'' W D (loopF src (fun x env S => evS (sem T n) (gvs T) b (env.set i (some x)) S) k (j + 1) env'' S''), fun σ'' H'' ⟨g'', S'', env'', a1, a2, a3, a4⟩ => ⟨k, Nat.lt_succ_self _, by omega, g'', S'', env'', a1, a2, a3, a4⟩, fun x H'' y => ?_⟩
      obtain ⟨rfl, rx⟩ := yl x H'' y
      refine ⟨g', S', _, k', re'.set i rx, ?_⟩
      cases hb : evS (sem T n) (gvs T) b (env'.set i (some d)) S' with
      | nx env2 S2 =>
        rw [hb] at p2
        exact fun g2 H2 σ2 l2 k2 re2 => ⟨g2, S2, env2, l'.trans l2, k2, re2, PgS.mono l2 p2⟩
      | rt d2 S2 => rw [hb] at p2; exact p2
      | exc c env2 S2 => rw [hb] at p2; exact p2
      | bad => rw [hb] at p2; exact p2
theorem t_whl (G : GoodS T w n N sc W X) {c : E} {b : ST} {pos : Pos} {v : Expr} {y : List Stmt} (h1 : chkT T N sc c v = true) (hb : PSs X y (liftS w (evS (sem T n) (gvs T) b) W)) :
    PS X (.While v y [] pos) (liftS w (evS (sem T n) (gvs T) (.whl c b)) W) := by
  refine (ps_while G.po ((sound c).st G.toGood h1) hb).imp fun D σ H ⟨g, S, env, ok, re, p⟩ => ?_
  refine ⟨fun k σ H => ∃ g' S' env', Ok w g' S' H ∧ REnv w g' env' σ ∧ PgS w g' W D (loopW (evT (sem T n) (gvs T) c) (fun env S => evS (sem T n) (gvs T) b env S) k env' S'), ⟨wMost, g, S, env, ok, re, p⟩, ?_⟩
  rintro k σ' H' ⟨g', S', env', k', re', p'⟩
  cases k with
  | zero => exact p'.elim
  | succ k =>
    refine liftT_mono (fun t H1 ⟨g1, S1, l1, k1, p1⟩ => ?_) (bST k' re' p')
    cases t with
    | false => exact iteF (p1 g1 H1 _ (Gh.Le.refl g1) k1 (re'.mono l1))
    | true =>
      refine iteT ⟨fun σ'' H'' => ∃ g'' S'' env'', Ok w g'' S'' H'' ∧ REnv w g'' env'' σ'' ∧ PgS w g'' W D (loopW (evT (sem T n) (gvs T) c) (fun env S => evS (sem T n) (gvs T) b env S) k env'' S''), fun σ'' H'' ⟨g'', S'', env'', a2, a3, a4⟩ => ⟨k, Nat.lt_succ_self _, g'', S'', env'', a2, a3, a4⟩, g1, S1, env', k1, re'.mono l1, ?_⟩
      have p2 : PgS w g1 W D (match evS (sem T n) (gvs T) b env' S1 with
        | .nx env' S' => loopW (evT (sem T n) (gvs T) c) (fun env S => evS (sem T n) (gvs T) b env S) k env' S'
        | .rt d S' => .rt d S'
        | .exc c env' S' => .exc c env' S'
        | .bad => .bad) := p1
      cases hb : evS (sem T n) (gvs T) b env' S1 with
      | nx env2 S2 =>
        rw [hb] at p2
        exact fun g2 H2 σ2 l2 k2 re2 => ⟨g2, S2, env2, k2, re2, PgS.mono l2 p2⟩
      | rt d2 S2 => rw [hb] at p2; exact p2
      | exc c env2 S2 => rw [hb] at p2; exact p2
      | bad => rw [hb] at p2; exact p2
theorem t_seq {a b : ST} {s : Stmt} {r : List Stmt} (ha : PS X s (liftS w (evS (sem T n) (gvs T) a) W)) (hb : PSs X r (liftS w (evS (sem T n) (gvs T) b) W)) : PSs X (s :: r) (liftS w (evS (sem T n) (gvs T) (.seq a b)) W) := by
  refine (pss_cons ha hb).imp fun D σ H ⟨g, S, env, ok, re, p⟩ => ⟨g, S, env, ok, re, ?_⟩
  have p' : PgS w g W D (match evS (sem T n) (gvs T) a env S with
    | .nx env' S' => evS (sem T n) (gvs T) b env' S'
    | .rt d S' => .rt d S'
    | .exc c env' S' => .exc c env' S'
    | .bad => .bad) := p
  cases q : evS (sem T n) (gvs T) a env S with
  | nx env2 S2 => rw [q] at p'; exact fun g2 H2 σ2 l2 k2 re2 => ⟨g2, S2, env2, k2, re2, PgS.mono l2 p'⟩
  | rt d2 S2 => rw [q] at p'; exact p'
  | exc c env2 S2 => rw [q] at p'; exact p'
  | bad => rw [q] at p'; exact p'
end
end ML

/-! Blocks, defs, the whole program. -/
namespace ML
open PySem PySem.Spec PyProof.Rows L2
theorem tgName_some {ts : List Expr} {x : Str} {p : Pos} (h : tgName ts = some (x, p)) : ts = [.Name x p] := by
  unfold tgName at h
  split at h
  · cases h; rfl
  · cases h
theorem tgTup_some {ts es : List Expr} (h : tgTup ts = some es) : ∃ k p, ts = [.Tuple es k p] := by
  unfold tgTup at h
  split at h
  · cases h; exact ⟨_, _, rfl⟩
  · cases h
theorem tgSub_some {ts : List Expr} {x y : Expr} (h : tgSub ts = some (x, y)) : ∃ p, ts = [.Subscript x y p] := by
  unfold tgSub at h
  split at h
  · cases h; exact ⟨_, rfl⟩
  · cases h
theorem excOf_some {e z : Option Expr} {x : Str} (h : excOf e z = some x) : z = none ∧ ∃ p s k p2 pos, e = some (.Call (.Name x p) [.Constant (.str s) k p2] [] pos) := by
  unfold excOf at h
  split at h
  · cases h; exact ⟨rfl, _, _, _, _, _, rfl⟩
  · cases h
section
variable {T : Tab} {w : Wd} {n : Nat}
structure SBoth (T : Tab) (w : Wd) (n : Nat) (st : ST) : Prop where
  s1 : ∀ {N : List Str} {sc : Scope} {W : WX} {X : Cx} {s : Stmt}, GoodS T w n N sc W X → chk1 T N sc st s = true → PS X s (liftS w (evS (sem T n) (gvs T) st) W)
  ss : ∀ {N : List Str} {sc : Scope} {W : WX} {X : Cx} {r : List Stmt}, GoodS T w n N sc W X → chkS T N sc st r = true → PSs X r (liftS w (evS (sem T n) (gvs T) st) W)
theorem SBoth.of1 {st : ST} (h : ∀ {N : List Str} {sc : Scope} {W : WX} {X : Cx} {s : Stmt}, GoodS T w n N sc W X → chk1 T N sc st s = true → PS X s (liftS w (evS (sem T n) (gvs T) st) W)) (hs : ∀ N sc r, chkS T N sc st r = false) : SBoth T w n st :=
  ⟨h, fun _ q => (Bool.false_ne_true ((hs _ _ _).symm.trans q)).elim⟩
theorem soundS : ∀ st : ST, SBoth T w n st := by
  intro st
  induction st with
  | asg i e =>
    refine .of1 (fun {N sc W X s} G h => ?_) fun _ _ _ => rfl
    cases s with
    | Assign ts v pos =>
      have h0 : (match tgName ts with
        | some (x, py) => decide (N[i]? = some x) && locB sc x && noDSC v && !swB sc x py v && chkE T N sc e v
        | none => false) = true := h
      cases q : tgName ts with
      | none => rw [q] at h0; cases h0
      | some p =>
        obtain ⟨x, py⟩ := p
        rw [q] at h0
        simp only [Bool.and_eq_true, decide_eq_true_eq, Bool.not_eq_true'] at h0
        obtain rfl := tgName_some q
        exact t_asg G h0.1.1.1.1 h0.1.1.1.2 h0.1.1.2 h0.1.2 h0.2
    | _ => exact absurd h Bool.false_ne_true
  | asgC i e =>
    refine .of1 (fun {N sc W X s} G h => ?_) fun _ _ _ => rfl
    cases s with
    | Assign ts v pos =>
      have h0 : (match tgName ts with
        | some (x, py) => decide (N[i]? = some x) && swB sc x py v && isLc e && chkE T N sc e v
        | none => false) = true := h
      cases q : tgName ts with
      | none => rw [q] at h0; cases h0
      | some p =>
        obtain ⟨x, py⟩ := p
        rw [q] at h0
        simp only [Bool.and_eq_true, decide_eq_true_eq] at h0
        obtain rfl := tgName_some q
        rcases t_asgC G (pos := pos) h0.1.1.1 h0.1.1.2 h0.2 with z | z
        · exact z
        · have hl := h0.1.2
          cases e with
          | lc m own j it c f => exact absurd rfl (z m own j it c f)
          | _ => cases hl
    | _ => exact absurd h Bool.false_ne_true
  | unp is e =>
    refine .of1 (fun {N sc W X s} G h => ?_) fun _ _ _ => rfl
    cases s with
    | Assign ts v pos =>
      have h0 : (match tgTup ts with
        | some es => nmsB N sc is es && noComp v && !isTup v && chkE T N sc e v
        | none => false) = true := h
      cases q : tgTup ts with
      | none => rw [q] at h0; cases h0
      | some es =>
        rw [q] at h0
        simp only [Bool.and_eq_true] at h0
        obtain ⟨k, p, rfl⟩ := tgTup_some q
        exact t_unp G h0.1.1.1 h0.1.1.2 h0.1.2 h0.2
    | _ => exact absurd h Bool.false_ne_true
  | stI o i e =>
    refine .of1 (fun {N sc W X s} G h => ?_) fun _ _ _ => rfl
    cases s with
    | Assign ts v pos =>
      have h0 : (match tgSub ts with
        | some (x, y) => noSlice y && noComp v && chkE T N sc o x && chkE T N sc i y && chkE T N sc e v
        | none => false) = true := h
      cases q : tgSub ts with
      | none => rw [q] at h0; cases h0
      | some p =>
        obtain ⟨x, y⟩ := p
        rw [q] at h0
        simp only [Bool.and_eq_true] at h0
        obtain ⟨p, rfl⟩ := tgSub_some q
        exact t_stI G h0.1.1.1.1 h0.1.1.1.2 h0.1.1.2 h0.1.2 h0.2
    | _ => exact absurd h Bool.false_ne_true
  | exp e =>
    refine .of1 (fun {N sc W X s} G h => ?_) fun _ _ _ => rfl
    cases s with
    | Expr v pos =>
      have h0 : (noComp v && chkE T N sc e v) = true := h
      rw [Bool.and_eq_true] at h0
      exact t_exp G h0.1 h0.2
    | _ => exact absurd h Bool.false_ne_true
  | ife c a b ha hb =>
    refine .of1 (fun {N sc W X s} G h => ?_) fun _ _ _ => rfl
    cases s with
    | If v x y pos =>
      have h0 : (chkT T N sc c v && chkS T N sc a x && chkS T N sc b y) = true := h
      simp only [Bool.and_eq_true] at h0
      exact t_ife G h0.1.1 (ha.ss G h0.1.2) (hb.ss G h0.2)
    | _ => exact absurd h Bool.false_ne_true
  | fr i it b hb =>
    refine .of1 (fun {N sc W X s} G h => ?_) fun _ _ _ => rfl
    cases s with
    | For tg v y z pos =>
      have h0 : (match tgName [tg] with
        | some (x, _) => z.isEmpty && decide (N[i]? = some x) && locB sc x && noSet v && chkI T N sc it v && chkS T N sc b y
        | none => false) = true := h
      cases q : tgName [tg] with
      | none => rw [q] at h0; cases h0
      | some p =>
        obtain ⟨x, py⟩ := p
        rw [q] at h0
        simp only [Bool.and_eq_true, decide_eq_true_eq] at h0
        cases z with
        | cons _ _ => cases h0.1.1.1.1.1
        | nil =>
          have q' := tgName_some q
          cases q'
          exact t_fr G h0.1.1.1.1.2 h0.1.1.1.2 h0.1.1.2 h0.1.2 (hb.ss G h0.2)
    | _ => exact absurd h Bool.false_ne_true
  | whl c b hb =>
    refine .of1 (fun {N sc W X s} G h => ?_) fun _ _ _ => rfl
    cases s with
    | While v y z pos =>
      have h0 : (z.isEmpty && chkT T N sc c v && chkS T N sc b y) = true := h
      simp only [Bool.and_eq_true] at h0
      cases z with
      | cons _ _ => cases h0.1.1
      | nil => exact t_whl G h0.1.2 (hb.ss G h0.2)
    | _ => exact absurd h Bool.false_ne_true
  | ret e =>
    refine .of1 (fun {N sc W X s} G h => ?_) fun _ _ _ => rfl
    cases s with
    | Return v pos =>
      cases v with
      | none => exact absurd h Bool.false_ne_true
      | some v => exact t_ret G h
    | _ => exact absurd h Bool.false_ne_true
  | retN =>
    refine .of1 (fun {N sc W X s} G h => ?_) fun _ _ _ => rfl
    cases s with
    | Return v pos =>
      cases v with
      | none => exact t_retN
      | some v => exact absurd h Bool.false_ne_true
    | _ => exact absurd h Bool.false_ne_true
  | pass =>
    refine .of1 (fun {N sc W X s} G h => ?_) fun _ _ _ => rfl
    cases s with
    | Pass pos => exact t_pass
    | _ => exact absurd h Bool.false_ne_true
  | tryK b x tb i h ih =>
    refine .of1 (fun {N sc W X s} G h0 => ?_) fun _ _ _ => rfl
    have h1 : (match tryOf s with
      | some (body, z, n, hn, en) => decide (z = x) && glB sc z && nmB z && decide (x ∈ T.cls) && subB T x tb && decide (N[i]? = some n) && decide (sc.names.lookup n = some .local) && nmB n && decide (N[h]? = some hn) && locB sc hn && decide (en = n) && decide (i ≠ h) && chkS T N sc b body
      | none => false) = true := h0
    cases q : tryOf s with
    | none => rw [q] at h1; cases h1
    | some r =>
      obtain ⟨body, z, n, hn, en⟩ := r
      rw [q] at h1
      obtain ⟨p1, p2, p3, p4, p5, p6, rfl⟩ := tryOf_some q
      simp only [Bool.and_eq_true, decide_eq_true_eq] at h1
      obtain ⟨⟨⟨⟨⟨⟨⟨⟨⟨⟨⟨⟨rfl, a1⟩, a2⟩, a3⟩, a4⟩, a5⟩, a6⟩, a7⟩, a8⟩, a9⟩, rfl⟩, a10⟩, a11⟩ := h1
      exact t_tryK G a1 a2 a3 a4 a5 a6 a7 a8 a9 a10 fun G' => ih.ss G' a11
  | rais c =>
    refine .of1 (fun {N sc W X s} G h => ?_) fun _ _ _ => rfl
    cases s with
    | Raise e z pos =>
      have h0 : (decide (excOf e z = some c) && decide (c ∈ T.exc) && glB sc c && nmB c) = true := h
      simp only [Bool.and_eq_true, decide_eq_true_eq] at h0
      obtain ⟨rfl, p, s, k, p2, pos2, rfl⟩ := excOf_some h0.1.1.1
      exact t_rais G h0.1.1.2 h0.1.2 h0.2
    | _ => exact absurd h Bool.false_ne_true
  | nil =>
    refine ⟨fun {N sc W X s} G h => absurd h Bool.false_ne_true, fun {N sc W X r} G h => ?_⟩
    cases r with
    | nil => exact pss_nil.imp fun D σ H ⟨g, S, env, ok, re, p⟩ => p g H σ (Gh.Le.refl g) ok re
    | cons _ _ => exact absurd h Bool.false_ne_true
  | seq a b ha hb =>
    refine ⟨fun {N sc W X s} G h => absurd h Bool.false_ne_true, fun {N sc W X r} G h => ?_⟩
    cases r with
    | nil => exact absurd h Bool.false_ne_true
    | cons s r =>
      have h0 : (chk1 T N sc a s && chkS T N sc b r) = true := h
      rw [Bool.and_eq_true] at h0
      exact t_seq (ha.s1 G h0.1) (hb.ss G h0.2)
end
end ML

/-! Every def keeps what the small language says of it; the end of a law. -/
namespace ML
open PySem PySem.Spec PyProof.Rows L2

/-- a def of the text stands at a -/
structure DefAt (T : Tab) (K : PySem.W.Frag) (mg : Str → Option Value) (f : Fn) (st : Stmt) (a : Addr) (fd : FuncData) : Prop where
  mg : mg f.name = some (.ref a)
  at_ : ∃ q, Fun K f.name q st a fd
  bd : Binds K fd f.ps []
  sc : FnScope f.N f.ps (defScope st)
  ck : chkS T f.N (defScope st) f.body (defBody st) = true
structure Prog (T : Tab) (w : Wd) (mg : Str → Option Value) (wd : World) : Prop where
  fn : ∀ (k : Nat) (f : Fn), T.fns[k]? = some f → ∃ st a fd, DefAt T w.K mg f st a fd
  cst : ∀ (k : Nat) (x : Str) (d : D), T.cst[k]? = some (x, d) → ∃ u v, mg x = some u ∧ RelV v u ∧ ∀ g, Rl w g d v
  blt : ∀ x, x ∈ T.blt → mg x = none
  exc : ∀ c, c ∈ T.exc → ∃ C, w.cl c = some C ∧ ExcAt w.K mg c C
  dct : ∀ x kvs, (x, kvs) ∈ T.dct → DctAt w.K wd mg x kvs
  cls : ∀ x, x ∈ T.cls → ClsAt mg x
  sub : ∀ c x b, ((c, x), b) ∈ T.sub → ∃ C, w.cl c = some C ∧ SubAt w.K mg C x b

theorem start_rel {w : Wd} {g : Gh} {N : List Str} {ds : List D} {vs : List V} (r : Rls w g ds vs) : REnv w g (startE N.length ds) (L2.start N vs) := by
  have hl := r.length
  refine ⟨by unfold startE L2.start; simp [hl], fun i d e => ?_⟩
  unfold startE at e
  by_cases hi : i < ds.length
  · rw [List.getElem?_append_left (by simpa using hi), List.getElem?_map] at e
    cases q : ds[i]? with
    | none => rw [q] at e; cases e
    | some d' =>
      rw [q] at e
      cases e
      obtain ⟨v, h1, h2⟩ := r.get q
      refine ⟨v, ?_, h2⟩
      unfold L2.start
      rw [List.getElem?_append_left (by simp [← hl, hi]), List.getElem?_map, h1]
      rfl
  · rw [List.getElem?_append_right (by simpa using hi), List.getElem?_replicate] at e
    split at e <;> cases e

section
variable {T : Tab} {w : Wd} {P : Program} {wd : World} {mg : Str → Option Value} {base : Heap}
theorem all_ok (F : Prog T w mg wd) : ∀ (n k : Nat) (f : Fn) (st : Stmt) (a : Addr) (fd : FuncData), T.fns[k]? = some f → DefAt T w.K mg f st a fd → FnOk P wd w.K mg base (L2.CX P wd) n a fd f.ps (spF T w n k) := by
  intro n
  induction n with
  | zero =>
    intro k f st a fd hk hd
    have no : ∀ vs H Q E, ¬ spF T w 0 k vs H Q E := fun vs H Q E ⟨g, S, ds, _, _, _, p⟩ => p.elim
    exact ⟨fun vs H Q E h => absurd h (no vs H Q E), fun A outer s H args us vs Q E _ _ _ _ h => absurd h (no vs H Q E)⟩
  | succ n ih =>
    intro k f st a fd hk hd
    obtain ⟨q, Fa⟩ := hd.at_
    refine Fa.okX hd.sc (fun vs H Q E h => ?_) (fun cdv A outer s H vs Q E hr h => ?_)
    · obtain ⟨g, S, ds, _, r, ⟨f', e1, e2⟩, _⟩ := h
      rw [hk] at e1
      cases e1
      rw [← r.length]
      exact e2
    · obtain ⟨g, S, ds, ok, r, ⟨f', e1, e2⟩, p⟩ := h
      rw [hk] at e1
      cases e1
      have G : GoodS T w n f.N (defScope st) (fun cls d _ H => E cls d H) (cxOf (L2.CX P wd) P wd w.K mg base f.N q (defScope st) a cdv A outer s H E) :=
        { hN := rfl, nd := hd.sc.nd, hs := rfl, hw := rfl, calm := rfl, room := hr, tk := takes_of rfl rfl rfl rfl, cst := F.cst, blt := F.blt, dct := F.dct, cls := F.cls, sub := F.sub,
          fn := fun k' f' hk' => by
            obtain ⟨st', a', fd', hd'⟩ := F.fn k' f' hk'
            obtain ⟨q', Fa'⟩ := hd'.at_
            exact ⟨a', fd', hd'.mg, Fa'.kp, hd'.bd, ih k' f' st' a' fd' hk' hd'⟩
          kind := hd.sc.kind, po := passes_of rfl, fnt := fun _ => rfl,
          exc := fun c hc => by
            obtain ⟨C, hC, X⟩ := F.exc c hc
            exact ⟨C, hC, X⟩
          stk := rfl, frm := rfl, exq := rfl }
      refine ⟨_, (soundS f.body).ss G hd.ck, g, S, startE f.N.length ds, ok, start_rel r, ?_⟩
      have p' : Pst w g (fun c H' => ∀ C, w.cl c = some C → E (.ref C) none H') Q (match T.fns[k]? with
        | some f => if ds.length = f.ps.length then endF (evS (sem T n) (T.cst.map (·.2)) f.body (startE f.N.length ds) S) else .bad
        | none => .bad) := p
      rw [hk] at p'
      simp only [e2, if_true] at p'
      show PgS w g (fun cls d _ H => E cls d H) { nx := fun _ H' => Q .non H', rt := Q } (evS (sem T n) (gvs T) f.body (startE f.N.length ds) S)
      have ge : T.cst.map (·.2) = gvs T := rfl
      rw [ge] at p'
      cases hq : evS (sem T n) (gvs T) f.body (startE f.N.length ds) S with
      | nx env' S' => rw [hq] at p'; exact fun g' H' σ' l k' _ => p' g' H' l k' _ .non
      | rt d S' => rw [hq] at p'; exact fun g' H' v l k' r => p' g' H' l k' v r
      | exc c env' S' => rw [hq] at p'; exact fun g' H' σ' l k' _ C hC => p' g' H' l k' C hC
      | bad => rw [hq] at p'; exact p'
end

/-! ### the law's end -/
def S0 : Store := ⟨0, fun _ => none⟩
def script (ns : List Int) : D := .cst (ns.map .int)
theorem rls_ints {w : Wd} {g : Gh} : ∀ ns : List Int, Rls w g (ns.map D.int) (ns.map V.int)
  | [] => .nil
  | n :: ns => .cons (.int n) (rls_ints ns)
theorem law_end {T : Tab} {w : Wd} {n k : Nat} {f : Fn} (hk : T.fns[k]? = some f) (h1 : f.ps.length = 1) (law : ∀ ns : List Int, ns.length ≤ 63 → ∃ S', sem T n k [script ns] S0 = .ok (.bl true) S') (H : Hp) (a : Addr) (ns : List Int) (hl : ns.length ≤ 63) (hs : SqL w.K H a (ns.map V.int)) :
    spF T w n k [.ref a] H (fun v _ => v = .bl true) fun _ _ _ => False := by
  obtain ⟨S', e⟩ := law ns hl
  refine ⟨⟨fun b => if b = a then H b else none, fun _ => 0, 0⟩, S0, [script ns], ⟨fun b o q => ?_, rfl, fun m n h => absurd h (Nat.not_lt_zero _), fun n h => absurd h (Nat.not_lt_zero _), fun n o q => (by cases q), fun n o q => (by cases q), fun n o q => (by cases q)⟩, .cons (.cst ?_ (rls_ints ns)) .nil, ⟨f, hk, by rw [h1]; rfl⟩, ?_⟩
  · have q' : (if b = a then H b else none) = some o := q
    split at q'
    · exact q'
    · cases q'
  · rcases hs with (hs | ⟨o, hs⟩) | hs
    · exact .inl (.inl (by show (if a = a then H a else none) = _; rw [if_pos rfl]; exact hs))
    · exact .inl (.inr ⟨o, by show (if a = a then H a else none) = _; rw [if_pos rfl]; exact hs⟩)
    · exact .inr hs
  · rw [e]
    exact fun g' H' _ _ v r => by cases r; rfl
theorem cx_no {P : Program} {wd : World} {H : Hp} {s : Shared} {e : Value} {s' : Shared} (h : L2.CX P wd [] H s (fun _ _ _ => False) e s') : False := by
  obtain ⟨_, _, _, _, _, _, _, _, _, _, _, _, z⟩ := h
  exact z
/-- the addresses of the classes, as the written part tells them -/
def wdOf (K : PySem.W.Frag) : Wd := ⟨K, fun c => match PySem.W.nsIn K mainGlobals c with
  | some (some (.ref C)) => some C
  | _ => none⟩
theorem walk {l : PySem.W.OpenLaw} {n k : Nat} {q : Program} {loose : List Str} {XP : (Str → Option Value) → Heap → Prop} {YP : World → Heap → Prop} {d : DefRec} {K : Params → PySem.W.Frag} {T : Tab} {f : Fn} {x : Str}
    (hk : T.fns[k]? = some f) (hps : f.ps = [x]) (hn : l.most = some 63) (hdf : d.params.defaults = []) (hr : Room n callerA)
    (hY : ∀ (w : World) (h : Heap), YP w h → (K w.params).In h)
    (law : ∀ ns : List Int, ns.length ≤ 63 → ∃ S', sem T n k [script ns] S0 = .ok (.bl true) S')
    (F : ∀ (w : World) (mg : Str → Option Value) (fa : Addr) (h : Heap), (K w.params).In h → h.Ns mainGlobals mg → mg d.name = some (.ref fa) →
      ∃ (st : Stmt) (fd : FuncData), (∀ (s : Shared) (u : Value), BindsTo s fd ⟨[u], []⟩ [(x, u)]) ∧ Prog T (wdOf (K w.params)) mg w ∧ DefAt T (K w.params) mg f st fa fd) :
    PySem.W.WalkO q loose XP YP l.row.toRowW d [] (fun f vs => PySem.call f vs) := by
  refine L2.walk_of (n := 63) (k := n) (x := x) (CX := fun w => L2.CX l.prog w) (sp := fun w => spF T (wdOf (K w.params)) n k) hn (by decide) hdf hr hY (fun w mg fa h KX G hmg => ?_) (fun w H a ns hl _ hs => law_end (w := wdOf (K w.params)) hk (by rw [hps]; rfl) law H a ns hl hs) fun w H s e s' => cx_no
  obtain ⟨st, fd, hb, hp, hd⟩ := F w mg fa h KX G hmg
  refine ⟨fd, hb, fun base _ _ => ?_⟩
  have z := all_ok (P := l.prog) (wd := w) (base := base) hp n k f st fa fd hk hd
  rw [hps] at z
  exact z
/-! ### written dicts, from the written part -/
theorem dct_keys {K : PySem.W.Frag} {p : Addr} {es : Array DictEntry} {n : Nat} {ks : List (Option (Str × Int))} (h : K.lookup p = some ⟨.type "dict", none, .dict es n, #[]⟩) (hd : He.dicW K p = some ks) : es.toList.map He.keyOf = ks := by
  unfold He.dicW at hd
  rw [h] at hd
  simp only at hd
  split at hd
  · exact Option.some.inj hd
  · cases hd
theorem miss {P : Params} : ∀ {l : List DictEntry} {ks : List Str} {z : Str}, l.map He.keyOf = He.keysIn P ks → z ∉ ks → l.find? (·.key.isStr z) = none ∧ l.any (·.refKey) = false
  | [], _, _, _, _ => ⟨rfl, rfl⟩
  | e :: r, [], _, h, _ => by cases h
  | e :: r, k :: ks, z, h, hz => by
    have h1 : He.keyOf e :: r.map He.keyOf = some (k, PyData.keyHash P k) :: He.keysIn P ks := h
    injection h1 with h2 h3
    obtain ⟨i1, i2⟩ := miss h3 fun q => hz (.tail _ q)
    unfold He.keyOf at h2
    split at h2
    · rename_i x t q
      have h5 := (Prod.mk.inj (Option.some.inj h2)).1
      have ne : (e.key.isStr z) = false := by
        rw [q, h5]
        show (k == z) = false
        exact beq_eq_false_iff_ne.mpr fun q => hz (q ▸ .head _)
      refine ⟨by rw [List.find?_cons, ne]; exact i1, ?_⟩
      have nr : e.refKey = false := by
        unfold PySem.DictEntry.refKey
        rw [q]
      rw [List.any_cons, nr, i2]
      rfl
    · cases h2
theorem dct_mk {K : PySem.W.Frag} {wd : World} {mg : Str → Option Value} {x : Str} {kvs : List (Str × Key)} {p : Addr} (hm : mg x = some (.ref p)) (hd : He.dicW K p = some (He.keysIn wd.params (kvs.map (·.1))))
    (hv : ∀ q ∈ kvs, ∃ u, PySem.W.nsIn K p q.1 = some (some u) ∧ RelV (kV q.2) u) : DctAt K wd mg x kvs := by
  obtain ⟨es, n, kd⟩ := He.dicW_ok hd
  refine ⟨p, es, n, hm, kd, fun z => ?_⟩
  cases q : kvs.lookup z with
  | some k =>
    have hmem : (z, k) ∈ kvs := by
      clear hd hv
      induction kvs with
      | nil => cases q
      | cons a r ih =>
        obtain ⟨a1, a2⟩ := a
        rw [List.lookup_cons] at q
        split at q
        · rename_i e
          cases q
          rw [eq_of_beq e]
          exact .head _
        · exact .tail _ (ih q)
    obtain ⟨u, e1, e2⟩ := hv _ hmem
    exact ⟨some u, e1, u, rfl, e2⟩
  | none =>
    have hno : z ∉ kvs.map (·.1) := by
      clear hd hv
      induction kvs with
      | nil => simp
      | cons a r ih =>
        obtain ⟨a1, a2⟩ := a
        rw [List.lookup_cons] at q
        split at q
        · cases q
        · rename_i e
          intro z'
          rcases List.mem_cons.mp z' with z' | z'
          · have z2 : z = a1 := z'
            rw [z2] at e
            simp at e
          · exact ih q z'
    obtain ⟨m1, m2⟩ := miss (dct_keys kd.at_ hd) hno
    refine ⟨none, ?_, rfl⟩
    unfold PySem.W.nsIn
    rw [kd.at_]
    simp only
    rw [m1]
    simp only
    rw [m2]
    rfl
theorem dicW_of {K : PySem.W.Frag} {p : Addr} {es : Array DictEntry} {n : Nat} (h : K.lookup p = some ⟨.type "dict", none, .dict es n, #[]⟩) (low : (p == sysModules) = false) : He.dicW K p = some (es.toList.map He.keyOf) := by
  unfold He.dicW
  rw [h]
  simp [low]
theorem subAt_own {K : PySem.W.Frag} {mg : Str → Option Value} {C : Addr} {x : Str} {b : Bool} {v : Value} (ec : ExcC K C) (h : mg x = some v) (k : PySem.W.kitOne K (.ref C) v = some b) (e : PySem.W.exmOne K (.ref C) v = some b) : SubAt K mg C x b :=
  ⟨ec, fun u hu => by
    rcases hu with hu | ⟨hu, _⟩
    · rw [h] at hu; cases hu; exact ⟨k, e⟩
    · rw [h] at hu; cases hu⟩
theorem subAt_blt {K : PySem.W.Frag} {mg : Str → Option Value} {C : Addr} {x : Str} {b : Bool} {v : Value} (ec : ExcC K C) (h : mg x = none) (hv : bootBuiltins x = some v) (k : PySem.W.kitOne K (.ref C) v = some b) (e : PySem.W.exmOne K (.ref C) v = some b) : SubAt K mg C x b :=
  ⟨ec, fun u hu => by
    rcases hu with hu | ⟨_, hu⟩
    · rw [h] at hu; cases hu
    · rw [hv] at hu; cases hu; exact ⟨k, e⟩⟩
end ML

/-! Reasoning about the small language. -/
namespace ML
open PySem L2

/-- what is wanted of an end -/
def wpr {α : Type} (r : Rs α) (Q : α → Store → Prop) (E : Str → Store → Prop) : Prop := match r with
  | .ok a S => Q a S
  | .exc c S => E c S
  | .bad => False
def wrs (r : RS) (N : Env → Store → Prop) (R : D → Store → Prop) (E : Str → Env → Store → Prop) : Prop := match r with
  | .nx env S => N env S
  | .rt d S => R d S
  | .exc c env S => E c env S
  | .bad => False
section
variable {α β : Type} {Q : α → Store → Prop} {E : Str → Store → Prop} {S : Store}
theorem wpr_ok {a : α} : wpr (.ok a S) Q E = Q a S := rfl
theorem wpr_exc {c : Str} : wpr (.exc c S : Rs α) Q E = E c S := rfl
theorem wpr_bad : wpr (.bad : Rs α) Q E = False := rfl
theorem wpr_pure {a : α} : wpr (M.pure a S) Q E = Q a S := rfl
theorem wpr_mbad : wpr ((M.bad : M α) S) Q E = False := rfl
theorem wpr_bind {m : M β} {k : β → M α} : wpr (M.bind m k S) Q E = wpr (m S) (fun a S' => wpr (k a S') Q E) E := by
  unfold M.bind
  cases m S <;> rfl
theorem wpr_ite {c : Prop} [Decidable c] {a b : M α} : wpr ((if c then a else b) S) Q E = if c then wpr (a S) Q E else wpr (b S) Q E := by
  split <;> rfl
theorem wpr_iteR {c : Prop} [Decidable c] {a b : Rs α} : wpr (if c then a else b) Q E = if c then wpr a Q E else wpr b Q E := by
  split <;> rfl
theorem wpr_mono {r : Rs α} {Q' : α → Store → Prop} {E' : Str → Store → Prop} (h : wpr r Q E) (hq : ∀ a S, Q a S → Q' a S) (he : ∀ c S, E c S → E' c S) : wpr r Q' E' := by
  cases r with
  | ok a S => exact hq a S h
  | exc c S => exact he c S h
  | bad => exact h
theorem wpr_of {r : Rs α} {a : α} {S' : Store} (e : r = .ok a S') (h : Q a S') : wpr r Q E := by rw [e]; exact h
theorem wpr_elim {r : Rs α} (h : wpr r Q (fun _ _ => False)) : ∃ a S', r = .ok a S' ∧ Q a S' := by
  cases r with
  | ok a S => exact ⟨a, S, rfl, h⟩
  | exc c S => exact h.elim
  | bad => exact h.elim
end
section
variable {α : Type} {N : Env → Store → Prop} {R : D → Store → Prop} {E : Str → Env → Store → Prop} {S : Store} {env : Env}
theorem wrs_nx : wrs (.nx env S) N R E = N env S := rfl
theorem wrs_rt {d : D} : wrs (.rt d S) N R E = R d S := rfl
theorem wrs_exc {c : Str} : wrs (.exc c env S) N R E = E c env S := rfl
theorem wrs_bad : wrs .bad N R E = False := rfl
theorem wrs_thenS {r : Rs α} {k : α → Store → RS} : wrs (r.thenS env k) N R E = wpr r (fun a S => wrs (k a S) N R E) (fun c S => E c env S) := by
  cases r <;> rfl
theorem wrs_ite {c : Prop} [Decidable c] {a b : RS} : wrs (if c then a else b) N R E = if c then wrs a N R E else wrs b N R E := by
  split <;> rfl
theorem wrs_mono {r : RS} {N' : Env → Store → Prop} {R' : D → Store → Prop} {E' : Str → Env → Store → Prop} (h : wrs r N R E) (hn : ∀ e S, N e S → N' e S) (hr : ∀ d S, R d S → R' d S) (he : ∀ c e S, E c e S → E' c e S) : wrs r N' R' E' := by
  cases r with
  | nx e S => exact hn e S h
  | rt d S => exact hr d S h
  | exc c e S => exact he c e S h
  | bad => exact h
variable {Γ : Nat → List D → M D} {gv : List D}
theorem wrs_seq {a b : ST} : wrs (evS Γ gv (.seq a b) env S) N R E = wrs (evS Γ gv a env S) (fun env' S' => wrs (evS Γ gv b env' S') N R E) R E := by
  show wrs (match evS Γ gv a env S with
    | .nx env' S' => evS Γ gv b env' S'
    | .rt d S' => .rt d S'
    | .exc c env' S' => .exc c env' S'
    | .bad => .bad) N R E = _
  cases evS Γ gv a env S <;> rfl
theorem wrs_end {r : RS} {Q : D → Store → Prop} {X : Str → Store → Prop} : wpr (endF r) Q X = wrs r (fun _ S => Q .non S) Q (fun c _ S => X c S) := by
  cases r <;> rfl
/-- a for over written items: by an invariant over what was taken -/
theorem wrs_for {b : ST} {i : Nat} {xs : List D} (I : Nat → Env → Store → Prop) (h0 : I 0 env S)
    (hs : ∀ (j : Nat) (x : D) (env' : Env) (S' : Store), xs[j]? = some x → I j env' S' → wrs (evS Γ gv b (env'.set i (some x)) S') (I (j + 1)) R E)
    (hd : ∀ env' S', I xs.length env' S' → N env' S') : wrs (loopF (.vals xs) (fun x env S => evS Γ gv b (env.set i (some x)) S) (Src.vals xs).num 0 env S) N R E := by
  have gen : ∀ (k j : Nat) (env' : Env) (S' : Store), j + k = xs.length → I j env' S' → wrs (loopF (.vals xs) (fun x env S => evS Γ gv b (env.set i (some x)) S) k j env' S') N R E := by
    intro k
    induction k with
    | zero =>
      intro j env' S' hj hI
      have e : j = xs.length := by omega
      subst e
      exact hd env' S' hI
    | succ k ih =>
      intro j env' S' hj hI
      have hlt : j < xs.length := by omega
      show wrs (match (xs[j]? : Option D) with
        | none => .bad
        | some x => match evS Γ gv b (env'.set i (some x)) S' with
          | .nx env' S' => loopF (.vals xs) (fun x env S => evS Γ gv b (env.set i (some x)) S) k (j + 1) env' S'
          | .rt d S' => .rt d S'
          | .exc c env' S' => .exc c env' S'
          | .bad => .bad) N R E
      rw [List.getElem?_eq_getElem hlt]
      dsimp only
      have z := hs j xs[j] env' S' (List.getElem?_eq_getElem hlt) hI
      revert z
      cases evS Γ gv b (env'.set i (some xs[j])) S' with
      | nx e2 S2 => exact fun z => ih (j + 1) e2 S2 (by omega) z
      | rt d S2 => exact fun z => z
      | exc c e2 S2 => exact fun z => z
      | bad => exact fun z => z
  exact gen xs.length 0 env S (Nat.zero_add _) h0
/-- a while, by an invariant and a number that falls -/
theorem wrs_while {b : ST} {c : ML.E} (I : Nat → Env → Store → Prop) {m : Nat} (hm : m < wMost) (h0 : I m env S)
    (hs : ∀ (k : Nat) (env' : Env) (S' : Store), I k env' S' → wpr (evT Γ gv c env' S') (fun t S1 => if t = true then wrs (evS Γ gv b env' S1) (fun e2 S2 => ∃ k', k' < k ∧ I k' e2 S2) R E else N env' S1) (fun c S1 => E c env' S1)) :
    wrs (loopW (evT Γ gv c) (fun env S => evS Γ gv b env S) wMost env S) N R E := by
  have gen : ∀ (f k : Nat) (env' : Env) (S' : Store), k < f → I k env' S' → wrs (loopW (evT Γ gv c) (fun env S => evS Γ gv b env S) f env' S') N R E := by
    intro f
    induction f with
    | zero => intro k env' S' hk; exact absurd hk (Nat.not_lt_zero _)
    | succ f ih =>
      intro k env' S' hk hI
      show wrs ((evT Γ gv c env' S').thenS env' fun t S1 => if t = true then match evS Γ gv b env' S1 with
          | .nx env' S' => loopW (evT Γ gv c) (fun env S => evS Γ gv b env S) f env' S'
          | .rt d S' => .rt d S'
          | .exc c env' S' => .exc c env' S'
          | .bad => .bad
        else .nx env' S1) N R E
      rw [wrs_thenS]
      refine wpr_mono (hs k env' S' hI) (fun t S1 h => ?_) fun c S1 h => h
      cases t with
      | false => exact h
      | true =>
        simp only [if_true] at h ⊢
        revert h
        cases evS Γ gv b env' S1 with
        | nx e2 S2 => exact fun ⟨k', h1, h2⟩ => ih k' e2 S2 (by omega) h2
        | rt d S2 => exact fun z => z
        | exc c e2 S2 => exact fun z => z
        | bad => exact fun z => z
  exact gen wMost m env S hm h0
end

/-! ### stores -/
/-- nothing beyond -/
def Store.WF (S : Store) : Prop := ∀ n, S.nx ≤ n → S.ob n = none
def Store.up (S : Store) (k : Nat) : Store := ⟨S.nx + k, S.ob⟩
theorem Store.WF.up {S : Store} (h : S.WF) (k : Nat) : (S.up k).WF := fun n hn => h n (Nat.le_trans (Nat.le_add_right _ _) hn)
theorem Store.up_up (S : Store) (a b : Nat) : (S.up a).up b = S.up (a + b) := by
  unfold Store.up
  rw [Nat.add_assoc]
theorem Store.up_zero (S : Store) : S.up 0 = S := rfl
theorem Store.up_ob (S : Store) (k n : Nat) : (S.up k).ob n = S.ob n := rfl
theorem Store.new_ob {S : Store} {o : Ob} : (S.new o).ob S.nx = some o := by
  show (if S.nx = S.nx then some o else _) = _
  rw [if_pos rfl]
theorem Store.new_set_del {S : Store} {o o' : Ob} (h : S.WF) : ((S.new o).set S.nx o').del S.nx = S.up 1 := by
  unfold Store.new Store.set Store.del Store.up
  congr 1
  funext n
  by_cases c : n = S.nx
  · simp [c, h S.nx (Nat.le_refl _)]
  · simp [c]
theorem Store.new_del {S : Store} {o : Ob} (h : S.WF) : (S.new o).del S.nx = S.up 1 := by
  unfold Store.new Store.del Store.up
  congr 1
  funext n
  by_cases c : n = S.nx
  · simp [c, h S.nx (Nat.le_refl _)]
  · simp [c]
theorem Store.set_set {S : Store} {n : Nat} {o o' : Ob} : (S.set n o).set n o' = S.set n o' := by
  unfold Store.set
  congr 1
  funext m
  by_cases c : m = n
  · simp [c]
  · simp [c]
theorem Store.set_ob {S : Store} {n : Nat} {o : Ob} : (S.set n o).ob n = some o := by
  show (if n = n then some o else _) = _
  rw [if_pos rfl]
theorem Store.set_ne {S : Store} {n m : Nat} {o : Ob} (h : m ≠ n) : (S.set n o).ob m = S.ob m := by
  show (if m = n then some o else _) = _
  rw [if_neg h]
theorem Store.set_up {S : Store} {n k : Nat} {o : Ob} : (S.up k).set n o = (S.set n o).up k := rfl
theorem Store.new_WF {S : Store} {o : Ob} (h : S.WF) : (S.new o).WF := fun n hn => by
  have hn' : S.nx + 1 ≤ n := hn
  show (if n = S.nx then some o else S.ob n) = none
  rw [if_neg (by omega)]
  exact h n (by omega)
theorem Store.set_WF {S : Store} {m : Nat} {o : Ob} (h : S.WF) (hm : m < S.nx) : (S.set m o).WF := fun n hn => by
  have hn' : S.nx ≤ n := hn
  show (if n = m then some o else S.ob n) = none
  rw [if_neg (by omega)]
  exact h n hn'

/-! ### the store only grown -/
structure Gr (S S' : Store) : Prop where
  nx : S.nx ≤ S'.nx
  wf : S'.WF
  ob : ∀ n, n < S.nx → S'.ob n = S.ob n
theorem Gr.refl {S : Store} (h : S.WF) : Gr S S := ⟨Nat.le_refl _, h, fun _ _ => rfl⟩
theorem Gr.trans {a b c : Store} (h : Gr a b) (k : Gr b c) : Gr a c := ⟨Nat.le_trans h.nx k.nx, k.wf, fun n q => (k.ob n (Nat.lt_of_lt_of_le q h.nx)).trans (h.ob n q)⟩
theorem Gr.new {S : Store} {o : Ob} (h : S.WF) : Gr S (S.new o) := ⟨Nat.le_succ _, Store.new_WF h, fun n q => by
  show (if n = S.nx then some o else S.ob n) = S.ob n
  rw [if_neg (Nat.ne_of_lt q)]⟩
theorem Store.del_WF {S : Store} {m : Nat} (h : S.WF) : (S.del m).WF := fun n hn => by
  show (if n = m then Option.none else S.ob n) = Option.none
  split
  · rfl
  · exact h n hn
/-- what is new may be written and thrown away -/
theorem Gr.set {S S' : Store} {k : Nat} {o : Ob} (h : Gr S S') (hk : S.nx ≤ k) (hk' : k < S'.nx) : Gr S (S'.set k o) := ⟨h.nx, Store.set_WF h.wf hk', fun n q => by
  rw [Store.set_ne (by omega)]
  exact h.ob n q⟩
theorem Gr.del {S S' : Store} {k : Nat} (h : Gr S S') (hk : S.nx ≤ k) : Gr S (S'.del k) := ⟨h.nx, Store.del_WF h.wf, fun n q => by
  show (if n = k then Option.none else S'.ob n) = S.ob n
  rw [if_neg (by omega)]
  exact h.ob n q⟩
def Ups {α : Type} (r : Rs α) (S : Store) (a : α) : Prop := ∃ S', r = .ok a S' ∧ Gr S S'
theorem Ups.wpr {α : Type} {r : Rs α} {S : Store} {a : α} {Q : α → Store → Prop} {E : Str → Store → Prop} (h : Ups r S a) (q : ∀ S', Gr S S' → Q a S') : wpr r Q E := by
  obtain ⟨S', e, g⟩ := h
  rw [e]
  exact q S' g
theorem Ups.of {α : Type} {r : Rs α} {S : Store} {a : α} (h : ML.wpr r (fun a' S' => a' = a ∧ Gr S S') fun _ _ => False) : Ups r S a := by
  obtain ⟨a', S', e, h1, g⟩ := wpr_elim h
  exact ⟨S', by rw [e, h1], g⟩
theorem loopC_pure {xs : List D} {n : Nat} {f : D → M (Option D)} {p : D → Bool} {g : D → D}
    (hf : ∀ x ∈ xs, ∀ S : Store, S.WF → Ups (f x S) S (if p x = true then some (g x) else none)) :
    ∀ (k j : Nat) (S : Store) (acc : List D), j + k = xs.length → S.WF → n < S.nx → acc.length + k < nMax → S.ob n = some (.lst acc) →
      ∃ S', loopC (.vals xs) n f k j S = .ok () S' ∧ S.nx ≤ S'.nx ∧ S'.WF ∧ S'.ob n = some (.lst (acc ++ ((xs.drop j).filter p).map g)) ∧ ∀ m, m < S.nx → m ≠ n → S'.ob m = S.ob m := by
  intro k
  induction k with
  | zero =>
    intro j S acc hj hS hn hl he
    have e : xs.drop j = [] := List.drop_eq_nil_of_le (by omega)
    rw [e]
    refine ⟨S, ?_, Nat.le_refl _, hS, by simpa using he, fun _ _ _ => rfl⟩
    show (if true = true then Rs.ok () S else .bad) = _
    rw [if_pos rfl]
  | succ k ih =>
    intro j S acc hj hS hn hl he
    have hlt : j < xs.length := by omega
    have hx : xs[j]? = some xs[j] := List.getElem?_eq_getElem hlt
    have hm : xs[j] ∈ xs := List.getElem_mem hlt
    have hd : xs.drop j = xs[j] :: xs.drop (j + 1) := List.drop_eq_getElem_cons hlt
    show ∃ S', (match (xs[j]? : Option D) with
      | none => Rs.bad
      | some x => match f x S with
        | .ok none S1 => loopC (.vals xs) n f k (j + 1) S1
        | .ok (some y) S1 => match obLst (S1.ob n) with
          | some acc => if acc.length < nMax then loopC (.vals xs) n f k (j + 1) (S1.set n (.lst (acc ++ [y]))) else .bad
          | none => .bad
        | _ => .bad) = _ ∧ _
    rw [hx]
    obtain ⟨S1, hv, G⟩ := hf _ hm S hS
    have he1 : S1.ob n = some (.lst acc) := (G.ob n hn).trans he
    have hn1 : n < S1.nx := Nat.lt_of_lt_of_le hn G.nx
    simp only
    rw [hv]
    cases hp : p xs[j] with
    | false =>
      simp only [Bool.false_eq_true, if_false]
      obtain ⟨S2, hu, a1, a2, a3, a4⟩ := ih (j + 1) S1 acc (by omega) G.wf hn1 (by omega) he1
      refine ⟨S2, hu, Nat.le_trans G.nx a1, a2, ?_, fun m h1 h2 => (a4 m (Nat.lt_of_lt_of_le h1 G.nx) h2).trans (G.ob m h1)⟩
      rw [a3, hd, List.filter_cons_of_neg (by simp [hp])]
    | true =>
      simp only [if_true]
      rw [he1]
      simp only [obLst]
      obtain ⟨S2, hu, a1, a2, a3, a4⟩ := ih (j + 1) (S1.set n (.lst (acc ++ [g xs[j]]))) (acc ++ [g xs[j]]) (by omega) (Store.set_WF G.wf hn1) hn1 (by simp; omega) Store.set_ob
      refine ⟨S2, by rw [if_pos (by omega)]; exact hu, Nat.le_trans G.nx a1, a2, ?_, fun m h1 h2 => ?_⟩
      · rw [a3, hd, List.filter_cons_of_pos (by simp [hp]), List.map_cons]
        simp
      · rw [a4 m (Nat.lt_of_lt_of_le h1 G.nx) h2, Store.set_ne h2]
        exact G.ob m h1
theorem compM_pure {xs : List D} {f : D → M (Option D)} (p : D → Bool) (g : D → D) {S : Store} (hS : S.WF) (hl : xs.length < nMax)
    (hf : ∀ x ∈ xs, ∀ S : Store, S.WF → Ups (f x S) S (if p x = true then some (g x) else none)) :
    Ups (compM false (.vals xs) f S) S (.lst ((xs.filter p).map g)) := by
  rw [compM_eq]
  obtain ⟨S', e, a1, a2, a3, a4⟩ := loopC_pure (n := S.nx) hf xs.length 0 (S.new (.lst [])) [] (Nat.zero_add _) (Store.new_WF hS) (Nat.lt_succ_self _) (by simpa using hl) Store.new_ob
  refine ⟨S'.del S.nx, ?_, ?_⟩
  · show finishC false S.nx (loopC (.vals xs) S.nx f xs.length 0 (S.new (.lst []))) = _
    rw [e]
    show (match obLst (S'.ob S.nx) with
      | some acc => Rs.ok (D.lst acc) (S'.del S.nx)
      | none => .bad) = _
    rw [a3]
    simp only [obLst, List.nil_append, List.drop_zero]
  · refine Gr.del ⟨Nat.le_trans (Nat.le_succ _) a1, a2, fun n q => ?_⟩ (Nat.le_refl _)
    rw [a4 n (Nat.lt_succ_of_lt q) (Nat.ne_of_lt q)]
    exact (Gr.new hS).ob n q
/-- .. without a test -/
theorem compM_map {xs : List D} {f : D → M (Option D)} (g : D → D) {S : Store} (hS : S.WF) (hl : xs.length < nMax)
    (hf : ∀ x ∈ xs, ∀ S : Store, S.WF → Ups (f x S) S (some (g x))) : Ups (compM false (.vals xs) f S) S (.lst (xs.map g)) := by
  have z := compM_pure (fun _ => true) g hS hl fun x hx S hS => by simpa using hf x hx S hS
  rw [List.filter_eq_self.mpr (fun _ _ => rfl)] at z
  exact z
end ML

/-! The steps of the small language, as equations. -/
namespace ML
open PySem L2
section
variable {Γ : Nat → List D → M D} {gv : List D} {env : Env} {S : Store} {Q : D → Store → Prop} {X : Str → Store → Prop} {QA : List D → Store → Prop} {QT : Bool → Store → Prop} {QI : Src → Store → Prop}
/-- a new value, a new list -/
def wpF (m : Bool) (o : Option PR) (Q : D → Store → Prop) (S : Store) : Prop := match o with
  | some (.val d) => Q d S
  | some (.newt xs) => Q (.tup xs) S
  | some (.newl xs) => if m = true then Q (.loc S.nx) (S.new (.lst xs)) else Q (.lst xs) S
  | none => False
theorem wpr_finO {m : Bool} {o : Option PR} : wpr (finO m o S) Q X = wpF m o Q S := by
  cases o with
  | none => rfl
  | some r =>
    cases r with
    | val d => rfl
    | newt d => rfl
    | newl d => cases m <;> rfl
def wpO {α : Type} (o : Option α) (Q : α → Prop) : Prop := match o with
  | some a => Q a
  | none => False
theorem wpO_some {α : Type} {a : α} {Q : α → Prop} : wpO (some a) Q = Q a := rfl
theorem wE_var {i : Nat} : wpr (evE Γ gv (.var i) env S) Q X = wpO ((env[i]?).join) (fun d => Q d S) := by
  show wpr (match env[i]? with
    | some (some d) => Rs.ok d S
    | _ => Rs.bad) Q X = _
  cases env[i]? with
  | none => rfl
  | some o => cases o <;> rfl
theorem wE_cI {i : Int} : wpr (evE Γ gv (.cI i) env S) Q X = Q (.int i) S := rfl
theorem wE_cS {i : Str} : wpr (evE Γ gv (.cS i) env S) Q X = Q (.str i) S := rfl
theorem wE_cB {i : Bool} : wpr (evE Γ gv (.cB i) env S) Q X = Q (.bl i) S := rfl
theorem wE_cN : wpr (evE Γ gv .cN env S) Q X = Q .non S := rfl
theorem wE_glb {k : Nat} : wpr (evE Γ gv (.glb k) env S) Q X = wpO (gv[k]?) (fun d => Q d S) := by
  show wpr (match gv[k]? with
    | some d => Rs.ok d S
    | none => Rs.bad) Q X = _
  cases gv[k]? <;> rfl
theorem wE_bop {m : Bool} {op : Operator} {a b : E} : wpr (evE Γ gv (.bop m op a b) env S) Q X = wpr (evE Γ gv a env S) (fun x S1 => wpr (evE Γ gv b env S1) (fun y S2 => wpF m (binP S2 op x y) Q S2) X) X := by
  show wpr (M.bind (evE Γ gv a env) (fun x => M.bind (evE Γ gv b env) fun y S => finO m (binP S op x y) S) S) Q X = _
  rw [wpr_bind]
  congr 1
  funext x S1
  rw [wpr_bind]
  congr 1
  funext y S2
  exact wpr_finO
theorem wE_neg {a : E} : wpr (evE Γ gv (.neg a) env S) Q X = wpr (evE Γ gv a env S) (fun x S1 => match x with
    | .int i => Q (.int (-i)) S1
    | _ => False) X := by
  show wpr (M.bind (evE Γ gv a env) (fun x => match x with
    | .int i => M.pure (.int (-i))
    | _ => M.bad) S) Q X = _
  rw [wpr_bind]
  congr 1
  funext x S1
  cases x <;> rfl
theorem wpr_tru {x : D} {β : Type} {k : Bool → M β} {Q : β → Store → Prop} : wpr (M.bind (truM x) k S) Q X = wpO (truP S x) (fun b => wpr (k b S) Q X) := by
  rw [wpr_bind]
  unfold truM
  cases truP S x <;> rfl
theorem wE_nt {a : E} : wpr (evE Γ gv (.nt a) env S) Q X = wpr (evE Γ gv a env S) (fun x S1 => wpO (truP S1 x) fun b => Q (.bl (!b)) S1) X := by
  show wpr (M.bind (evE Γ gv a env) (fun x => M.bind (truM x) fun b => M.pure (.bl (!b))) S) Q X = _
  rw [wpr_bind]
  congr 1
  funext x S1
  exact wpr_tru
theorem wE_cmp {op : CmpOp} {a b : E} : wpr (evE Γ gv (.cmp op a b) env S) Q X = wpr (evE Γ gv a env S) (fun x S1 => wpr (evE Γ gv b env S1) (fun y S2 => wpO (cmpP S2 op x y) fun r => Q (.bl r) S2) X) X := by
  show wpr (M.bind (evE Γ gv a env) (fun x => M.bind (evE Γ gv b env) fun y S => finO false (bV (cmpP S op x y)) S) S) Q X = _
  rw [wpr_bind]
  congr 1
  funext x S1
  rw [wpr_bind]
  congr 1
  funext y S2
  rw [wpr_finO]
  cases cmpP S2 op x y <;> rfl
theorem wE_chn {op op' : CmpOp} {a b c : E} : wpr (evE Γ gv (.chn op op' a b c) env S) Q X = wpr (evE Γ gv a env S) (fun x S1 => wpr (evE Γ gv b env S1) (fun y S2 => wpO (cmpP S2 op x y) fun r => if r = true then wpr (evE Γ gv c env S2) (fun z S3 => wpO (cmpP S3 op' y z) fun r => Q (.bl r) S3) X else Q (.bl false) S2) X) X := by
  show wpr (M.bind (evE Γ gv a env) (fun x => M.bind (evE Γ gv b env) fun y S => match cmpP S op x y with
    | some true => M.bind (evE Γ gv c env) (fun z S => finO false (bV (cmpP S op' y z)) S) S
    | some false => .ok (.bl false) S
    | none => .bad) S) Q X = _
  rw [wpr_bind]
  congr 1
  funext x S1
  rw [wpr_bind]
  congr 1
  funext y S2
  cases cmpP S2 op x y with
  | none => rfl
  | some r =>
    cases r with
    | false => rfl
    | true =>
      show wpr (M.bind (evE Γ gv c env) (fun z S => finO false (bV (cmpP S op' y z)) S) S2) Q X = _
      rw [wpr_bind, wpO_some, if_pos rfl]
      congr 1
      funext z S3
      rw [wpr_finO]
      cases cmpP S3 op' y z <;> rfl
theorem wE_one {a : E} : wpr (evE Γ gv (.one a) env S) Q X = wpr (evE Γ gv a env S) Q X := rfl
theorem wE_and {a b : E} : wpr (evE Γ gv (.con .And a b) env S) Q X = wpr (evE Γ gv a env S) (fun x S1 => wpO (truP S1 x) fun t => if t = true then wpr (evE Γ gv b env S1) Q X else Q x S1) X := by
  show wpr (M.bind (evE Γ gv a env) (fun x => M.bind (truM x) fun t => if t = true then evE Γ gv b env else M.pure x) S) Q X = _
  rw [wpr_bind]
  congr 1
  funext x S1
  rw [wpr_tru]
  congr 1
  funext t
  cases t <;> rfl
theorem wE_or {a b : E} : wpr (evE Γ gv (.con .Or a b) env S) Q X = wpr (evE Γ gv a env S) (fun x S1 => wpO (truP S1 x) fun t => if t = true then Q x S1 else wpr (evE Γ gv b env S1) Q X) X := by
  show wpr (M.bind (evE Γ gv a env) (fun x => M.bind (truM x) fun t => if t = true then M.pure x else evE Γ gv b env) S) Q X = _
  rw [wpr_bind]
  congr 1
  funext x S1
  rw [wpr_tru]
  congr 1
  funext t
  cases t <;> rfl
theorem wE_ite {c a b : E} : wpr (evE Γ gv (.ite c a b) env S) Q X = wpr (evT Γ gv c env S) (fun t S1 => if t = true then wpr (evE Γ gv a env S1) Q X else wpr (evE Γ gv b env S1) Q X) X := by
  show wpr (M.bind (evT Γ gv c env) (fun t => if t = true then evE Γ gv a env else evE Γ gv b env) S) Q X = _
  rw [wpr_bind]
  congr 1
  funext t S1
  cases t <;> rfl
theorem wE_tup {es : E} : wpr (evE Γ gv (.tup es) env S) Q X = wpr (evA Γ gv es env S) (fun xs S1 => xs.length ≤ nMax ∧ Q (.tup xs) S1) X := by
  show wpr (M.bind (evA Γ gv es env) (fun xs => if xs.length ≤ nMax then M.pure (.tup xs) else M.bad) S) Q X = _
  rw [wpr_bind]
  congr 1
  funext xs S1
  by_cases h : xs.length ≤ nMax
  · rw [if_pos h]
    exact propext ⟨fun z => ⟨h, z⟩, fun z => z.2⟩
  · rw [if_neg h]
    exact propext ⟨fun z => z.elim, fun z => (h z.1).elim⟩
theorem wE_lst {m : Bool} {es : E} : wpr (evE Γ gv (.lst m es) env S) Q X = wpr (evA Γ gv es env S) (fun xs S1 => xs.length ≤ nMax ∧ wpF m (some (.newl xs)) Q S1) X := by
  show wpr (M.bind (evA Γ gv es env) (fun xs => if xs.length ≤ nMax then fin m (.newl xs) else M.bad) S) Q X = _
  rw [wpr_bind]
  congr 1
  funext xs S1
  by_cases h : xs.length ≤ nMax
  · rw [if_pos h]
    exact propext ⟨fun z => ⟨h, (wpr_finO (o := some (.newl xs))).mp z⟩, fun z => (wpr_finO (o := some (.newl xs))).mpr z.2⟩
  · rw [if_neg h]
    exact propext ⟨fun z => z.elim, fun z => (h z.1).elim⟩
theorem wE_idx {a b : E} : wpr (evE Γ gv (.idx a b) env S) Q X = wpr (evE Γ gv a env S) (fun x S1 => wpr (evE Γ gv b env S1) (fun y S2 => wpO (ixP S2 x y) fun d => Q d S2) X) X := by
  show wpr (M.bind (evE Γ gv a env) (fun x => M.bind (evE Γ gv b env) fun y S => finO false ((ixP S x y).map PR.val) S) S) Q X = _
  rw [wpr_bind]
  congr 1
  funext x S1
  rw [wpr_bind]
  congr 1
  funext y S2
  rw [wpr_finO]
  cases ixP S2 x y <;> rfl
/-- a slice's part -/
def wpL (Γ : Nat → List D → M D) (gv : List D) (e : E) (env : Env) (S : Store) (Q : Option Int → Store → Prop) (X : Str → Store → Prop) : Prop := wpr ((if isOff e = true then M.pure none else (evE Γ gv e env).bind toInt) S) Q X
theorem wL_off {Q : Option Int → Store → Prop} : wpL Γ gv .off env S Q X = Q none S := rfl
theorem wL_some {e : E} {Q : Option Int → Store → Prop} (h : isOff e = false) : wpL Γ gv e env S Q X = wpr (evE Γ gv e env S) (fun x S1 => match x with
    | .int i => Q (some i) S1
    | _ => False) X := by
  unfold wpL
  rw [h, if_neg Bool.false_ne_true, wpr_bind]
  congr 1
  funext x S1
  cases x <;> rfl
theorem wE_slc {m : Bool} {a lo hi : E} : wpr (evE Γ gv (.slc m a lo hi) env S) Q X = wpr (evE Γ gv a env S) (fun x S1 => wpL Γ gv lo env S1 (fun l S2 => wpL Γ gv hi env S2 (fun h S3 => wpF m (slP S3 x l h) Q S3) X) X) X := by
  show wpr (M.bind (evE Γ gv a env) (fun x => M.bind (if isOff lo = true then M.pure none else (evE Γ gv lo env).bind toInt) fun l => M.bind (if isOff hi = true then M.pure none else (evE Γ gv hi env).bind toInt) fun h S => finO m (slP S x l h) S) S) Q X = _
  rw [wpr_bind]
  congr 1
  funext x S1
  rw [wpr_bind]
  unfold wpL
  congr 1
  funext l S2
  rw [wpr_bind]
  congr 1
  funext h S3
  exact wpr_finO
theorem wE_blt {m : Bool} {f : Bf} {es : E} : wpr (evE Γ gv (.blt m f es) env S) Q X = wpr (evA Γ gv es env S) (fun xs S1 => wpF m (bfP S1 f xs) Q S1) X := by
  show wpr (M.bind (evA Γ gv es env) (fun xs S => finO m (bfP S f xs) S) S) Q X = _
  rw [wpr_bind]
  congr 1
  funext xs S1
  exact wpr_finO
theorem wE_met {m : Bool} {f : Mf} {o es : E} : wpr (evE Γ gv (.met m f o es) env S) Q X = wpr (evE Γ gv o env S) (fun x S1 => isTy S1 f.ty x = true ∧ wpr (evA Γ gv es env S1) (fun xs S2 => wpr (mfM m f x xs S2) Q X) X) X := by
  show wpr (M.bind (evE Γ gv o env) (fun x S => if isTy S f.ty x = true then M.bind (evA Γ gv es env) (fun xs => mfM m f x xs) S else .bad) S) Q X = _
  rw [wpr_bind]
  congr 1
  funext x S1
  by_cases h : isTy S1 f.ty x = true
  · rw [if_pos h, wpr_bind]
    exact propext ⟨fun z => ⟨h, z⟩, fun z => z.2⟩
  · rw [if_neg h]
    exact propext ⟨fun z => z.elim, fun z => (h z.1).elim⟩
theorem wE_call {k : Nat} {es : E} : wpr (evE Γ gv (.call k es) env S) Q X = wpr (evA Γ gv es env S) (fun xs S1 => wpr (Γ k xs S1) Q X) X := by
  show wpr (M.bind (evA Γ gv es env) (fun xs => Γ k xs) S) Q X = _
  rw [wpr_bind]
theorem wE_isT {a : E} {t : String} : wpr (evE Γ gv (.isT a t) env S) Q X = wpr (evE Γ gv a env S) (fun x S1 => wpO ((typD S1 x).bind (instB · t)) fun b => Q (.bl b) S1) X := by
  show wpr (M.bind (evE Γ gv a env) (fun x S => finO false (bV ((typD S x).bind (instB · t))) S) S) Q X = _
  rw [wpr_bind]
  congr 1
  funext x S1
  rw [wpr_finO]
  cases (typD S1 x).bind (instB · t) <;> rfl
theorem wE_lc {m : Bool} {own : List (Str × Nat)} {i : Nat} {it c e : E} : wpr (evE Γ gv (.lc m own i it c e) env S) Q X = wpr (evI Γ gv it env S) (fun src S1 => wpr (compM m src (turnC env (own.map (·.2)) i (fun env => if isOff c = true then M.pure true else evT Γ gv c env) (evE Γ gv e)) S1) Q X) X := by
  show wpr (M.bind (evI Γ gv it env) (fun src => compM m src (turnC env (own.map (·.2)) i (fun env => if isOff c = true then M.pure true else evT Γ gv c env) (evE Γ gv e))) S) Q X = _
  rw [wpr_bind]
theorem wE_frz {a : E} : wpr (evE Γ gv (.frz a) env S) Q X = wpr (evE Γ gv a env S) (fun x S1 => match x with
    | .loc n => wpO (obLst (S1.ob n)) fun xs => Q (.lst xs) (S1.del n)
    | _ => False) X := by
  show wpr (M.bind (evE Γ gv a env) frzM S) Q X = _
  rw [wpr_bind]
  congr 1
  funext x S1
  cases x with
  | loc n =>
    show wpr (match obLst (S1.ob n) with
      | some xs => Rs.ok (.lst xs) (S1.del n)
      | none => .bad) Q X = wpO (obLst (S1.ob n)) fun xs => Q (.lst xs) (S1.del n)
    cases obLst (S1.ob n) <;> rfl
  | _ => rfl
theorem wE_lset {a : E} : wpr (evE Γ gv (.lset a) env S) Q X = wpr (evE Γ gv a env S) (fun x S1 => wpF false (lsetP x) Q S1) X := by
  show wpr (M.bind (evE Γ gv a env) (fun x S => finO false (lsetP x) S) S) Q X = _
  rw [wpr_bind]
  congr 1
  funext x S1
  exact wpr_finO
theorem wE_inW {x : Str} {kvs : List (Str × Key)} {a : E} : wpr (evE Γ gv (.inW x kvs a) env S) Q X = wpr (evE Γ gv a env S) (fun y S1 => wpO (inWP kvs y) fun r => Q (.bl r) S1) X := by
  show wpr (M.bind (evE Γ gv a env) (fun y S => finO false (bV (inWP kvs y)) S) S) Q X = _
  rw [wpr_bind]
  congr 1
  funext y S1
  rw [wpr_finO]
  cases inWP kvs y <;> rfl
theorem wE_isE {x : Str} {tb : List (Str × Bool)} {a : E} : wpr (evE Γ gv (.isE a x tb) env S) Q X = wpr (evE Γ gv a env S) (fun y S1 => wpO (isEP tb y) fun r => Q (.bl r) S1) X := by
  show wpr (M.bind (evE Γ gv a env) (fun y S => finO false (bV (isEP tb y)) S) S) Q X = _
  rw [wpr_bind]
  congr 1
  funext y S1
  rw [wpr_finO]
  cases isEP tb y <;> rfl
theorem wE_ixW {x : Str} {kvs : List (Str × Key)} {a : E} : wpr (evE Γ gv (.ixW x kvs a) env S) Q X = wpr (evE Γ gv a env S) (fun y S1 => wpO (ixWP kvs y) fun d => Q d S1) X := by
  show wpr (M.bind (evE Γ gv a env) (fun y S => finO false ((ixWP kvs y).map PR.val) S) S) Q X = _
  rw [wpr_bind]
  congr 1
  funext y S1
  rw [wpr_finO]
  cases ixWP kvs y <;> rfl
theorem wA_nil : wpr (evA Γ gv .nil env S) QA X = QA [] S := rfl
theorem wA_cons {a b : E} : wpr (evA Γ gv (.cons a b) env S) QA X = wpr (evE Γ gv a env S) (fun x S1 => wpr (evA Γ gv b env S1) (fun xs S2 => QA (x :: xs) S2) X) X := by
  show wpr (M.bind (evE Γ gv a env) (fun x => M.bind (evA Γ gv b env) fun xs => M.pure (x :: xs)) S) QA X = _
  rw [wpr_bind]
  congr 1
  funext x S1
  rw [wpr_bind]
  rfl
theorem wT_nt {a : E} : wpr (evT Γ gv (.nt a) env S) QT X = wpr (evT Γ gv a env S) (fun b S1 => QT (!b) S1) X := by
  show wpr (M.bind (evT Γ gv a env) (fun b => M.pure (!b)) S) QT X = _
  rw [wpr_bind]
  rfl
theorem wT_one {a : E} : wpr (evT Γ gv (.one a) env S) QT X = wpr (evT Γ gv a env S) QT X := rfl
theorem wT_and {a b : E} : wpr (evT Γ gv (.con .And a b) env S) QT X = wpr (evT Γ gv a env S) (fun t S1 => if t = true then wpr (evT Γ gv b env S1) QT X else QT false S1) X := by
  show wpr (M.bind (evT Γ gv a env) (fun t => if t = true then evT Γ gv b env else M.pure false) S) QT X = _
  rw [wpr_bind]
  congr 1
  funext t S1
  cases t <;> rfl
theorem wT_or {a b : E} : wpr (evT Γ gv (.con .Or a b) env S) QT X = wpr (evT Γ gv a env S) (fun t S1 => if t = true then QT true S1 else wpr (evT Γ gv b env S1) QT X) X := by
  show wpr (M.bind (evT Γ gv a env) (fun t => if t = true then M.pure true else evT Γ gv b env) S) QT X = _
  rw [wpr_bind]
  congr 1
  funext t S1
  cases t <;> rfl
theorem wT_cmp {op : CmpOp} {a b : E} : wpr (evT Γ gv (.cmp op a b) env S) QT X = wpr (evE Γ gv a env S) (fun x S1 => wpr (evE Γ gv b env S1) (fun y S2 => wpO (cmpP S2 op x y) fun r => QT r S2) X) X := by
  show wpr (M.bind (evE Γ gv a env) (fun x => M.bind (evE Γ gv b env) fun y S => match cmpP S op x y with
    | some b => Rs.ok b S
    | none => .bad) S) QT X = _
  rw [wpr_bind]
  congr 1
  funext x S1
  rw [wpr_bind]
  congr 1
  funext y S2
  cases cmpP S2 op x y <;> rfl
theorem wT_chn {op op' : CmpOp} {a b c : E} : wpr (evT Γ gv (.chn op op' a b c) env S) QT X = wpr (evE Γ gv a env S) (fun x S1 => wpr (evE Γ gv b env S1) (fun y S2 => wpO (cmpP S2 op x y) fun r => if r = true then wpr (evE Γ gv c env S2) (fun z S3 => wpO (cmpP S3 op' y z) fun r => QT r S3) X else QT false S2) X) X := by
  show wpr (M.bind (evE Γ gv a env) (fun x => M.bind (evE Γ gv b env) fun y S => match cmpP S op x y with
    | some true => M.bind (evE Γ gv c env) (fun z S => match cmpP S op' y z with
      | some b => Rs.ok b S
      | none => .bad) S
    | some false => .ok false S
    | none => .bad) S) QT X = _
  rw [wpr_bind]
  congr 1
  funext x S1
  rw [wpr_bind]
  congr 1
  funext y S2
  cases cmpP S2 op x y with
  | none => rfl
  | some r =>
    cases r with
    | false => rfl
    | true =>
      show wpr (M.bind (evE Γ gv c env) (fun z S => match cmpP S op' y z with
        | some b => Rs.ok b S
        | none => .bad) S2) QT X = _
      rw [wpr_bind, wpO_some, if_pos rfl]
      congr 1
      funext z S3
      cases cmpP S3 op' y z <;> rfl
theorem wT_inW {x : Str} {kvs : List (Str × Key)} {a : E} : wpr (evT Γ gv (.inW x kvs a) env S) QT X = wpr (evE Γ gv a env S) (fun y S1 => wpO (inWP kvs y) fun r => QT r S1) X := by
  show wpr (M.bind (evE Γ gv a env) (fun y S => match inWP kvs y with
    | some b => .ok b S
    | none => .bad) S) QT X = _
  rw [wpr_bind]
  congr 1
  funext y S1
  cases inWP kvs y <;> rfl
theorem wT_tru {a : E} : wpr (evT Γ gv (.tru a) env S) QT X = wpr (evE Γ gv a env S) (fun x S1 => wpO (truP S1 x) fun b => QT b S1) X := by
  show wpr (M.bind (evE Γ gv a env) truM S) QT X = _
  rw [wpr_bind]
  congr 1
  funext x S1
  unfold truM
  cases truP S1 x <;> rfl
theorem wI_rng {a : E} : wpr (evI Γ gv (.rng a) env S) QI X = wpr (evE Γ gv a env S) (fun x S1 => match x with
    | .int j => (j ≤ (nMax : Int) ∧ -(nMax : Int) ≤ j) ∧ QI (.vals (intL 0 j.toNat)) S1
    | _ => False) X := by
  show wpr (M.bind (evE Γ gv a env) (fun x => match x with
    | .int j => if j ≤ (nMax : Int) ∧ -(nMax : Int) ≤ j then M.pure (.vals (intL 0 j.toNat)) else M.bad
    | _ => M.bad) S) QI X = _
  rw [wpr_bind]
  congr 1
  funext x S1
  cases x with
  | int j =>
    show wpr ((if j ≤ (nMax : Int) ∧ -(nMax : Int) ≤ j then M.pure (.vals (intL 0 j.toNat)) else M.bad) S1) QI X = _
    by_cases h : j ≤ (nMax : Int) ∧ -(nMax : Int) ≤ j
    · rw [if_pos h]
      exact propext ⟨fun z => ⟨h, z⟩, fun z => z.2⟩
    · rw [if_neg h]
      exact propext ⟨fun z => z.elim, fun z => (h z.1).elim⟩
  | _ => rfl
theorem wI_rng2 {a b : E} : wpr (evI Γ gv (.rng2 a b) env S) QI X = wpr (evE Γ gv a env S) (fun x S1 => wpr (evE Γ gv b env S1) (fun y S2 => match x, y with
    | .int i, .int j => ((i ≤ (nMax : Int) ∧ -(nMax : Int) ≤ i) ∧ j ≤ (nMax : Int) ∧ -(nMax : Int) ≤ j) ∧ QI (.vals (intL i (j - i).toNat)) S2
    | _, _ => False) X) X := by
  show wpr (M.bind (evE Γ gv a env) (fun x => M.bind (evE Γ gv b env) fun y => match x, y with
    | .int i, .int j => if (i ≤ (nMax : Int) ∧ -(nMax : Int) ≤ i) ∧ j ≤ (nMax : Int) ∧ -(nMax : Int) ≤ j then M.pure (.vals (intL i (j - i).toNat)) else M.bad
    | _, _ => M.bad) S) QI X = _
  rw [wpr_bind]
  congr 1
  funext x S1
  rw [wpr_bind]
  congr 1
  funext y S2
  cases x with
  | int i =>
    cases y with
    | int j =>
      show wpr ((if (i ≤ (nMax : Int) ∧ -(nMax : Int) ≤ i) ∧ j ≤ (nMax : Int) ∧ -(nMax : Int) ≤ j then M.pure (.vals (intL i (j - i).toNat)) else M.bad) S2) QI X = _
      by_cases h : (i ≤ (nMax : Int) ∧ -(nMax : Int) ≤ i) ∧ j ≤ (nMax : Int) ∧ -(nMax : Int) ≤ j
      · rw [if_pos h]
        exact propext ⟨fun z => ⟨h, z⟩, fun z => z.2⟩
      · rw [if_neg h]
        exact propext ⟨fun z => z.elim, fun z => (h z.1).elim⟩
    | _ => rfl
  | _ => cases y <;> rfl
theorem wI_itr {a : E} : wpr (evI Γ gv (.itr a) env S) QI X = wpr (evE Γ gv a env S) (fun x S1 => wpO (srcOf S1 x) fun s => QI s S1) X := by
  show wpr (M.bind (evE Γ gv a env) (fun x S => match srcOf S x with
    | some s => Rs.ok s S
    | none => .bad) S) QI X = _
  rw [wpr_bind]
  congr 1
  funext x S1
  cases srcOf S1 x <;> rfl
end
section
variable {Γ : Nat → List D → M D} {gv : List D} {env : Env} {S : Store} {N : Env → Store → Prop} {R : D → Store → Prop} {X : Str → Env → Store → Prop}
theorem wS_asg {i : Nat} {e : E} : wrs (evS Γ gv (.asg i e) env S) N R X = wpr (evE Γ gv e env S) (fun d S1 => N (env.set i (some d)) S1) (fun c S1 => X c env S1) := wrs_thenS
theorem wS_asgC {i : Nat} {e : E} : wrs (evS Γ gv (.asgC i e) env S) N R X = wpr (evE Γ gv e env S) (fun d S1 => N (env.set i (some d)) S1) (fun c S1 => X c env S1) := wrs_thenS
theorem wS_unp {is : List Nat} {e : E} : wrs (evS Γ gv (.unp is e) env S) N R X = wpr (evE Γ gv e env S) (fun d S1 => wpO (tupOf d) fun xs => xs.length = is.length ∧ N (setAll is xs env) S1) (fun c S1 => X c env S1) := by
  refine wrs_thenS.trans ?_
  congr 1
  funext d S1
  cases tupOf d with
  | none => rfl
  | some xs =>
    show wrs (if xs.length = is.length then .nx (setAll is xs env) S1 else .bad) N R X = (xs.length = is.length ∧ N (setAll is xs env) S1)
    by_cases h : xs.length = is.length
    · rw [if_pos h]
      exact propext ⟨fun z => ⟨h, z⟩, fun z => z.2⟩
    · rw [if_neg h]
      exact propext ⟨fun z => z.elim, fun z => (h z.1).elim⟩
theorem wS_stI {o i e : E} : wrs (evS Γ gv (.stI o i e) env S) N R X = wpr (evE Γ gv e env S) (fun v S1 => wpr (evE Γ gv o env S1) (fun x S2 => wpr (evE Γ gv i env S2) (fun y S3 => wpr (storeM x y v S3) (fun _ S4 => N env S4) (fun c S1 => X c env S1)) (fun c S1 => X c env S1)) (fun c S1 => X c env S1)) (fun c S1 => X c env S1) := by
  refine wrs_thenS.trans ?_
  congr 1
  funext v S1
  refine wrs_thenS.trans ?_
  congr 1
  funext x S2
  refine wrs_thenS.trans ?_
  congr 1
  funext y S3
  exact wrs_thenS
theorem wS_exp {e : E} : wrs (evS Γ gv (.exp e) env S) N R X = wpr (evE Γ gv e env S) (fun _ S1 => N env S1) (fun c S1 => X c env S1) := wrs_thenS
theorem wS_ife {c : E} {a b : ST} : wrs (evS Γ gv (.ife c a b) env S) N R X = wpr (evT Γ gv c env S) (fun t S1 => if t = true then wrs (evS Γ gv a env S1) N R X else wrs (evS Γ gv b env S1) N R X) (fun c S1 => X c env S1) := by
  refine wrs_thenS.trans ?_
  congr 1
  funext t S1
  cases t <;> rfl
theorem wS_fr {i : Nat} {it : E} {b : ST} : wrs (evS Γ gv (.fr i it b) env S) N R X = wpr (evI Γ gv it env S) (fun src S1 => wrs (loopF src (fun x env S => evS Γ gv b (env.set i (some x)) S) src.num 0 env S1) N R X) (fun c S1 => X c env S1) := wrs_thenS
theorem wS_whl {c : E} {b : ST} : wrs (evS Γ gv (.whl c b) env S) N R X = wrs (loopW (evT Γ gv c) (fun env S => evS Γ gv b env S) wMost env S) N R X := rfl
theorem wS_ret {e : E} : wrs (evS Γ gv (.ret e) env S) N R X = wpr (evE Γ gv e env S) R (fun c S1 => X c env S1) := wrs_thenS
theorem wS_retN : wrs (evS Γ gv .retN env S) N R X = R .non S := rfl
theorem wS_pass : wrs (evS Γ gv .pass env S) N R X = N env S := rfl
theorem wS_rais {c : Str} : wrs (evS Γ gv (.rais c) env S) N R X = X c env S := rfl
theorem wS_tryK {b : ST} {x : Str} {tb : List (Str × Bool)} {i h : Nat} : wrs (evS Γ gv (.tryK b x tb i h) env S) N R X = wrs (evS Γ gv b env S) N R (fun c env' S' => match tb.lookup c with
    | some true => i < env'.length ∧ N ((env'.set h (some (.exn c))).set i none) S'
    | some false => X c env' S'
    | none => False) := by
  show wrs (match evS Γ gv b env S with
    | .exc c env' S' => match tb.lookup c with
      | some true => if i < env'.length then .nx ((env'.set h (some (.exn c))).set i none) S' else .bad
      | some false => .exc c env' S'
      | none => .bad
    | r => r) N R X = _
  cases evS Γ gv b env S with
  | exc c env' S' =>
    simp only
    show _ = (match tb.lookup c with
      | some true => i < env'.length ∧ N ((env'.set h (some (.exn c))).set i none) S'
      | some false => X c env' S'
      | none => False)
    cases tb.lookup c with
    | none => rfl
    | some t =>
      cases t with
      | false => rfl
      | true =>
        simp only
        split
        · rename_i hl
          exact propext ⟨fun z => ⟨hl, z⟩, fun z => z.2⟩
        · rename_i hl
          exact propext ⟨fun z => z.elim, fun z => absurd z.1 hl⟩
  | _ => rfl
theorem wS_nil : wrs (evS Γ gv .nil env S) N R X = N env S := rfl
end
end ML

/-! Operations on data of known kinds. -/
namespace ML
open PySem L2
section
variable {S : Store}
theorem c_lt {i j : Int} : cmpP S .Lt (.int i) (.int j) = some (decide (i < j)) := rfl
theorem c_le {i j : Int} : cmpP S .LtE (.int i) (.int j) = some (decide (i ≤ j)) := rfl
theorem c_gt {i j : Int} : cmpP S .Gt (.int i) (.int j) = some (decide (j < i)) := rfl
theorem c_ge {i j : Int} : cmpP S .GtE (.int i) (.int j) = some (decide (j ≤ i)) := rfl
theorem c_is {d : D} : cmpP S .Is d .non = some (isNon d) := by cases d <;> rfl
theorem c_isnot {d : D} : cmpP S .IsNot d .non = some (!isNon d) := by cases d <;> rfl
theorem dcV_int {i j : Int} : decide (V.int i = V.int j) = decide (i = j) := by
  by_cases h : i = j
  · subst h; simp
  · simp [h]
theorem dcV_str {i j : Str} : decide (V.str i = V.str j) = decide (i = j) := by
  by_cases h : i = j
  · subst h; simp
  · simp [h]
theorem dcV_bl {i j : Bool} : decide (V.bl i = V.bl j) = decide (i = j) := by
  by_cases h : i = j
  · subst h; simp
  · simp [h]
theorem c_eq_int {i j : Int} : cmpP S .Eq (.int i) (.int j) = some (decide (i = j)) := congrArg some dcV_int
theorem c_eq_str {i j : Str} : cmpP S .Eq (.str i) (.str j) = some (decide (i = j)) := congrArg some dcV_str
theorem c_ne_int {i j : Int} : cmpP S .NotEq (.int i) (.int j) = some (!decide (i = j)) := congrArg (fun b => some (!b)) dcV_int
theorem c_ne_str {i j : Str} : cmpP S .NotEq (.str i) (.str j) = some (!decide (i = j)) := congrArg (fun b => some (!b)) dcV_str
theorem c_in_str {a b : Str} : cmpP S .In (.str a) (.str b) = some (subIn a b) := rfl
theorem c_notin_str {a b : Str} : cmpP S .NotIn (.str a) (.str b) = some (!subIn a b) := rfl
theorem flats_txt : ∀ xs : List Str, flats (xs.map D.str) = some (xs.map V.str)
  | [] => rfl
  | x :: xs => by
    show (flat (.str x)).bind _ = _
    simp only [flat, Option.bind_some, flats_txt xs, Option.map_some, List.map_cons]
theorem inV_txt {a : Str} : ∀ xs : List Str, inV (.str a) (xs.map V.str) = decide (a ∈ xs)
  | [] => by simp [inV]
  | x :: xs => by
    have ih := inV_txt (a := a) xs
    unfold inV at ih ⊢
    rw [List.map_cons, List.any_cons, ih]
    show ((x == a) || decide (a ∈ xs)) = decide (a ∈ x :: xs)
    by_cases h : a = x
    · subst h; simp
    · have h' : (x == a) = false := by
        rw [beq_eq_false_iff_ne]
        exact fun e => h e.symm
      simp [h, h']
theorem in_txt {a : Str} {e : D} {xs : List Str} (h : seqOf S e = some (xs.map D.str)) : inP S (.str a) e = some (decide (a ∈ xs)) := by
  have gen : (match flat (D.str a), (seqOf S e).bind flats with
    | some x, some xs => some (inV x xs)
    | _, _ => none) = some (decide (a ∈ xs)) := by
    rw [h]
    simp only [flat, Option.bind_some, flats_txt, inV_txt]
  cases e with
  | str b => cases h
  | _ => exact gen
theorem c_in_txt {a : Str} {e : D} {xs : List Str} (h : seqOf S e = some (xs.map D.str)) : cmpP S .In (.str a) e = some (decide (a ∈ xs)) := in_txt h
theorem c_notin_txt {a : Str} {e : D} {xs : List Str} (h : seqOf S e = some (xs.map D.str)) : cmpP S .NotIn (.str a) e = some (!decide (a ∈ xs)) := by
  show (inP S (.str a) e).map (!·) = _
  rw [in_txt h]
  rfl
theorem b_len_str {s : Str} (h : s.length ≤ 1000) : bfP S .len [.str s] = some (.val (.int (s.length : Int))) := by
  show (if s.length ≤ nMax then some s.length else none).map _ = _
  rw [if_pos (Nat.le_trans h (by decide))]
  rfl
theorem b_len_lst {xs : List D} : bfP S .len [.lst xs] = some (.val (.int (xs.length : Int))) := rfl
theorem b_len_cst {xs : List D} : bfP S .len [.cst xs] = some (.val (.int (xs.length : Int))) := rfl
theorem b_len_tup {xs : List D} : bfP S .len [.tup xs] = some (.val (.int (xs.length : Int))) := rfl
theorem b_len_loc {n : Nat} {xs : List D} (h : S.ob n = some (.lst xs)) : bfP S .len [.loc n] = some (.val (.int (xs.length : Int))) := by
  show ((obLst (S.ob n)).map (·.length)).map _ = _
  rw [h]
  rfl
theorem bools_map : ∀ bs : List Bool, bools (bs.map D.bl) = some bs
  | [] => rfl
  | b :: bs => by
    show (bools (bs.map D.bl)).map (b :: ·) = _
    rw [bools_map bs]
    rfl
theorem b_all {α : Type} {xs : List α} {f : α → Bool} : bfP S .all [.lst (xs.map fun x => .bl (f x))] = some (.val (.bl (xs.all f))) := by
  have e : (xs.map fun x => D.bl (f x)) = (xs.map f).map D.bl := by rw [List.map_map]; rfl
  show ((some (xs.map fun x => D.bl (f x))).bind bools).map _ = _
  rw [e, Option.bind_some, bools_map]
  simp [List.all_map]
theorem add_str {a b : Str} (h : a.length + b.length ≤ 1000) : binP S .Add (.str a) (.str b) = some (.val (.str (a ++ b))) := by
  show guardP (decide (a.length + b.length ≤ nMax)) _ = _
  rw [decide_eq_true (Nat.le_trans h (by decide))]
  rfl
theorem add_int {i j : Int} : binP S .Add (.int i) (.int j) = some (.val (.int (i + j))) := rfl
theorem sub_int {i j : Int} : binP S .Sub (.int i) (.int j) = some (.val (.int (i - j))) := rfl
theorem mod_int {i j : Int} (h : 0 < j) : binP S .Mod (.int i) (.int j) = some (.val (.int (i % j))) := by
  show guardP (decide (0 < j)) _ = _
  rw [decide_eq_true h]
  rfl
theorem fdiv_int {i j : Int} (h : 0 < j) (h2 : j < 1073741824) : binP S .FloorDiv (.int i) (.int j) = some (.val (.int (i / j))) := by
  show guardP (decide (0 < j) && decide (j < 1073741824)) _ = _
  rw [decide_eq_true h, decide_eq_true h2]
  rfl
theorem mul_int {i j : Int} (h : (-(2 ^ 64) < i ∧ i < 2 ^ 64) ∨ (-(2 ^ 64) < j ∧ j < 2 ^ 64)) : binP S .Mult (.int i) (.int j) = some (.val (.int (i * j))) := by
  show guardP (decide (-(2 ^ 64) < i ∧ i < 2 ^ 64) || decide (-(2 ^ 64) < j ∧ j < 2 ^ 64)) _ = _
  rcases h with h | h
  · rw [decide_eq_true h]; rfl
  · rw [decide_eq_true h, Bool.or_true]; rfl
theorem pow_int {i j : Int} (h : 0 ≤ j) (h2 : j ≤ 1000000) (h3 : i.natAbs < 2 ^ 64) : binP S .Pow (.int i) (.int j) = some (.val (.int (i ^ j.toNat))) := by
  show guardP (decide (0 ≤ j) && decide (j ≤ 1000000) && decide (i.natAbs < 2 ^ 64)) _ = _
  rw [decide_eq_true h, decide_eq_true h2, decide_eq_true h3]
  rfl
theorem t_bl {b : Bool} : truP S (.bl b) = some b := rfl
theorem t_cst {xs : List D} : truP S (.cst xs) = some (!xs.isEmpty) := rfl
theorem t_lst {xs : List D} : truP S (.lst xs) = some (!xs.isEmpty) := rfl
theorem ixN_nat {n k : Nat} (h : k < n) : ixN n (k : Int) = some k := by
  unfold ixN
  rw [if_pos (by omega), if_pos (by omega)]
  simp
theorem atI_nat' {α : Type} {xs : List α} {k : Nat} {a : α} (h : xs[k]? = some a) : atI xs (k : Int) = some a := by
  obtain ⟨hk, _⟩ := List.getElem?_eq_some_iff.mp h
  unfold atI
  rw [ixN_nat hk]
  exact h
theorem atI_int {α : Type} {xs : List α} {i : Int} (h0 : 0 ≤ i) (h1 : i < xs.length) : ∃ a, a ∈ xs ∧ atI xs i = some a := by
  have hk : i.toNat < xs.length := by omega
  have e : i = (i.toNat : Int) := by omega
  refine ⟨xs[i.toNat], List.getElem_mem hk, ?_⟩
  have z := atI_nat' (List.getElem?_eq_getElem hk)
  rw [← e] at z
  exact z
theorem ix_cst {xs : List D} {i : Int} : ixP S (.cst xs) (.int i) = atI xs i := rfl
theorem ix_lst {xs : List D} {i : Int} : ixP S (.lst xs) (.int i) = atI xs i := rfl
theorem ix_tup {xs : List D} {i : Int} : ixP S (.tup xs) (.int i) = atI xs i := rfl
theorem ix_str {s : Str} {i : Int} (h : s.length ≤ 1000) : ixP S (.str s) (.int i) = (atI s.cps.toList i).map fun c => .str (oneStr c) := by
  show (if s.length ≤ nMax then _ else none) = _
  rw [if_pos (Nat.le_trans h (by decide))]
theorem len_cps (s : Str) : s.cps.toList.length = s.length := by simp [Str.length]
end
end ML

namespace ML
open PySem L2
section
variable {T : Tab} {S : Store}
theorem sem_call {n k : Nat} {f : Fn} {ds : List D} (h : T.fns[k]? = some f) (hl : ds.length = f.ps.length) : sem T (n + 1) k ds S = endF (evS (sem T n) (gvs T) f.body (startE f.N.length ds) S) := by
  show (match T.fns[k]? with
    | some f => if ds.length = f.ps.length then endF (evS (sem T n) (gvs T) f.body (startE f.N.length ds) S) else .bad
    | none => .bad) = _
  rw [h]
  simp only
  rw [if_pos hl]
/-! ### the drawn numbers of every law -/
def cellF : Fn := { name := ("_law_cell" : Str), ps := [("script" : Str), ("k" : Str)], N := [("script" : Str), ("k" : Str)], body := .seq (.ife (.tru (.var 0)) (.seq (.ret (.idx (.var 0) (.bop false .Mod (.var 1) (.blt false .len (.cons (.var 0) (.nil)))))) (.nil)) (.nil)) (.seq (.ret (.cI 0)) (.nil)) }
def mixF (kc : Nat) : Fn := { name := ("_law_mix" : Str), ps := [("script" : Str), ("k" : Str)], N := [("script" : Str), ("k" : Str), ("number" : Str)], body := .seq (.asg 2 (.bop false .Mod (.bop false .Add (.call kc (.cons (.var 0) (.cons (.var 1) (.nil)))) (.bop false .Mult (.cI 104729) (.bop false .Add (.var 1) (.cI 1)))) (.cI 4294967291))) (.seq (.asg 2 (.bop false .Mod (.bop false .Pow (.var 2) (.cI 5)) (.cI 4294967279))) (.seq (.ret (.bop false .Mod (.bop false .Add (.bop false .Mult (.bop false .FloorDiv (.var 2) (.cI 64)) (.cI 69621)) (.var 2)) (.cI 4294967231))) (.nil))) }
def drawF (km : Nat) : Fn := { name := ("_law_draw" : Str), ps := [("script" : Str), ("town" : Str), ("many" : Str)], N := [("script" : Str), ("town" : Str), ("many" : Str)], body := .seq (.exp (.met false .append (.var 1) (.cons (.cI 0) (.nil)))) (.seq (.ret (.bop false .Mod (.bop false .FloorDiv (.call km (.cons (.var 0) (.cons (.blt false .len (.cons (.var 1) (.nil))) (.nil)))) (.cI 8)) (.var 2))) (.nil)) }
def pickF (kd : Nat) : Fn := { name := ("_law_pick" : Str), ps := [("script" : Str), ("town" : Str), ("some" : Str)], N := [("script" : Str), ("town" : Str), ("some" : Str)], body := .seq (.ret (.idx (.var 2) (.call kd (.cons (.var 0) (.cons (.var 1) (.cons (.blt false .len (.cons (.var 2) (.nil))) (.nil))))))) (.nil) }
theorem ok_cell {n kc : Nat} {ns : List Int} {k : Int} {Q : D → Store → Prop} {X : Str → Store → Prop} (h : T.fns[kc]? = some cellF) (hk : 0 ≤ k) (q : ∀ i, Q (.int i) S) : wpr (sem T (n + 1) kc [script ns, .int k] S) Q X := by
  rw [sem_call h rfl, wrs_end]
  show wrs (evS (sem T n) (gvs T) cellF.body [some (script ns), some (.int k)] S) _ _ _
  simp only [cellF, wrs_seq, wS_ife, wS_ret, wS_nil, wT_tru, wE_idx, wE_bop, wE_blt, wE_cI, wE_var, wA_cons, wA_nil, wpO, wpF, script, t_cst, b_len_cst, List.getElem?_cons_zero, List.getElem?_cons_succ, Option.join_some, List.length_map]
  cases ns with
  | nil => exact q 0
  | cons a ns =>
    have hp : (0 : Int) < (((a :: ns).length : Nat) : Int) := by rw [List.length_cons]; omega
    have e := Int.emod_nonneg k (Int.ne_of_gt hp)
    have e2 := Int.emod_lt_of_pos k hp
    obtain ⟨d, hd, ha⟩ := atI_int (xs := (a :: ns).map D.int) e (by rw [List.length_map]; exact e2)
    obtain ⟨i, _, rfl⟩ := List.mem_map.mp hd
    rw [if_pos (show (!((a :: ns).map D.int).isEmpty) = true from rfl), mod_int hp]
    simp only [ix_cst, ha]
    exact q i
theorem ok_mix {n kc km : Nat} {ns : List Int} {k : Int} {Q : D → Store → Prop} {X : Str → Store → Prop} (hc : T.fns[kc]? = some cellF) (h : T.fns[km]? = some (mixF kc)) (hk : 0 ≤ k) (q : ∀ i, 0 ≤ i → Q (.int i) S) : wpr (sem T (n + 2) km [script ns, .int k] S) Q X := by
  rw [sem_call h rfl, wrs_end]
  show wrs (evS (sem T (n + 1)) (gvs T) (mixF kc).body [some (script ns), some (.int k), none] S) _ _ _
  simp only [mixF, wrs_seq, wS_asg, wE_bop, wE_call, wE_var, wA_cons, wA_nil, wpO, List.getElem?_cons_zero, List.getElem?_cons_succ, Option.join_some]
  refine ok_cell hc hk fun c => ?_
  simp only [wE_cI, wE_bop, wE_var, wpO, List.getElem?_cons_zero, List.getElem?_cons_succ, Option.join_some, add_int, wpF]
  rw [mul_int (.inl (by decide))]
  simp only [wpF, add_int]
  rw [mod_int (by decide)]
  simp only [wpF, List.set, wE_bop, wE_cI, wE_var, wpO, List.getElem?_cons_zero, List.getElem?_cons_succ, Option.join_some]
  generalize hx : (c + 104729 * (k + 1)) % 4294967291 = x
  have x0 : 0 ≤ x := by rw [← hx]; exact Int.emod_nonneg _ (by decide)
  have x1 : x < 4294967291 := by rw [← hx]; exact Int.emod_lt_of_pos _ (by decide)
  rw [pow_int (by decide) (by decide) (by omega)]
  simp only [wpF]
  rw [mod_int (by decide)]
  simp only [wpF, wS_ret, wE_bop, wE_cI, wE_var, wpO, List.getElem?_cons_zero, List.getElem?_cons_succ, Option.join_some]
  rw [fdiv_int (by decide) (by decide)]
  simp only [wpF]
  rw [mul_int (.inr (by decide))]
  simp only [wpF, add_int]
  rw [mod_int (by decide)]
  exact q _ (Int.emod_nonneg _ (by decide))
/-- the list of draws lies at t and is no longer than m -/
structure Tn (t m : Nat) (S : Store) : Prop where
  wf : S.WF
  lt : t < S.nx
  ob : ∃ xs, S.ob t = some (.lst xs) ∧ xs.length ≤ m
/-- everything older but t is kept -/
structure Kp (t : Nat) (S S' : Store) : Prop where
  nx : S.nx ≤ S'.nx
  ob : ∀ n, n < S.nx → n ≠ t → S'.ob n = S.ob n
theorem Kp.refl {t : Nat} {S : Store} : Kp t S S := ⟨Nat.le_refl _, fun _ _ _ => rfl⟩
theorem Kp.trans {t : Nat} {a b c : Store} (h : Kp t a b) (k : Kp t b c) : Kp t a c := ⟨Nat.le_trans h.nx k.nx, fun n q z => (k.ob n (Nat.lt_of_lt_of_le q h.nx) z).trans (h.ob n q z)⟩
theorem Kp.of {t : Nat} {a b : Store} (h : Gr a b) : Kp t a b := ⟨h.nx, fun n q _ => h.ob n q⟩
theorem Tn.mono {t m m' : Nat} {S : Store} (h : Tn t m S) (k : m ≤ m') : Tn t m' S := ⟨h.wf, h.lt, by obtain ⟨xs, a, b⟩ := h.ob; exact ⟨xs, a, by omega⟩⟩
theorem Tn.gr {t m : Nat} {S S' : Store} (h : Tn t m S) (k : Gr S S') : Tn t m S' := ⟨k.wf, Nat.lt_of_lt_of_le h.lt k.nx, by obtain ⟨xs, a, b⟩ := h.ob; exact ⟨xs, (k.ob t h.lt).trans a, b⟩⟩
theorem ok_draw {n kc km kd t m : Nat} {ns : List Int} {k : Int} (hc : T.fns[kc]? = some cellF) (hm : T.fns[km]? = some (mixF kc)) (hd : T.fns[kd]? = some (drawF km)) (h : Tn t m S) (hl : m < 90000) (hk : 0 < k) :
    wpr (sem T (n + 3) kd [script ns, .loc t, .int k] S) (fun d S' => (∃ r, d = .int r ∧ 0 ≤ r ∧ r < k) ∧ Tn t (m + 1) S' ∧ Kp t S S') fun _ _ => False := by
  obtain ⟨wf, lt, xs, ho, hx⟩ := h
  rw [sem_call hd rfl, wrs_end]
  have ety : isTy S Mf.append.ty (.loc t) = true := by
    show (("list" : String) == "list" && (obLst (S.ob t)).isSome) = true
    rw [ho]
    rfl
  have ea : mfM false .append (.loc t) [D.int 0] S = .ok .non (S.set t (.lst (xs ++ [D.int 0]))) := by
    show (match S.ob t with
      | some (.lst xs) => if xs.length < nMax then Rs.ok D.non (S.set t (.lst (xs ++ [D.int 0]))) else .bad
      | _ => .bad) = _
    rw [ho]
    exact if_pos (Nat.lt_of_lt_of_le (by omega : xs.length < 90001) (by decide))
  show wrs (evS (sem T (n + 2)) (gvs T) (drawF km).body [some (script ns), some (.loc t), some (.int k)] S) _ _ _
  simp only [drawF, wrs_seq, wS_exp, wE_met, wE_cI, wE_var, wA_cons, wA_nil, wpO, List.getElem?_cons_zero, List.getElem?_cons_succ, Option.join_some]
  refine ⟨ety, ?_⟩
  rw [ea, wpr_ok]
  have ho' : (S.set t (.lst (xs ++ [D.int 0]))).ob t = some (.lst (xs ++ [D.int 0])) := Store.set_ob
  simp only [wS_ret, wE_bop, wE_blt, wE_call, wE_var, wA_cons, wA_nil, wpO, List.getElem?_cons_zero, List.getElem?_cons_succ, Option.join_some]
  rw [b_len_loc ho']
  simp only [wpF]
  refine ok_mix hc hm (Int.natCast_nonneg _) fun i hi => ?_
  simp only [wE_cI, wE_var, wpO, List.getElem?_cons_zero, List.getElem?_cons_succ, Option.join_some]
  rw [fdiv_int (by decide) (by decide)]
  simp only [wpF]
  rw [mod_int hk]
  exact ⟨⟨_, rfl, Int.emod_nonneg _ (Int.ne_of_gt hk), Int.emod_lt_of_pos _ hk⟩, ⟨Store.set_WF wf lt, lt, _, ho', by rw [List.length_append]; simp; omega⟩, Nat.le_refl _, fun n q z => Store.set_ne z⟩
theorem ok_pick {n kc km kd kp t m : Nat} {ns : List Int} {x : D} {k : Int} {P : D → Prop} (hc : T.fns[kc]? = some cellF) (hm : T.fns[km]? = some (mixF kc)) (hd : T.fns[kd]? = some (drawF km)) (hp : T.fns[kp]? = some (pickF kd)) (h : Tn t m S) (hl : m < 90000)
    (hx : bfP S .len [x] = some (.val (.int k))) (hk : 0 < k) (hi : ∀ S' r, Kp t S S' → 0 ≤ r → r < k → ∃ d, ixP S' x (.int r) = some d ∧ P d) :
    wpr (sem T (n + 4) kp [script ns, .loc t, x] S) (fun d S' => P d ∧ Tn t (m + 1) S' ∧ Kp t S S') fun _ _ => False := by
  rw [sem_call hp rfl, wrs_end]
  show wrs (evS (sem T (n + 3)) (gvs T) (pickF kd).body [some (script ns), some (.loc t), some x] S) _ _ _
  simp only [pickF, wrs_seq, wS_ret, wS_nil, wE_idx, wE_blt, wE_call, wE_var, wA_cons, wA_nil, wpO, List.getElem?_cons_zero, List.getElem?_cons_succ, Option.join_some, hx, wpF]
  refine wpr_mono (ok_draw (n := n) (ns := ns) hc hm hd h hl hk) (fun d S1 ⟨⟨r, e, r0, r1⟩, h2, h3⟩ => ?_) (fun _ _ z => z)
  subst e
  obtain ⟨d, e, hd⟩ := hi S1 r h3 r0 r1
  rw [e]
  exact ⟨hd, h2, h3⟩
theorem ok_pickL {n kc km kd kp t m : Nat} {ns : List Int} {xs : List D} (hc : T.fns[kc]? = some cellF) (hm : T.fns[km]? = some (mixF kc)) (hd : T.fns[kd]? = some (drawF km)) (hp : T.fns[kp]? = some (pickF kd)) (h : Tn t m S) (hl : m < 90000) (hx : 0 < xs.length) :
    wpr (sem T (n + 4) kp [script ns, .loc t, .lst xs] S) (fun d S' => d ∈ xs ∧ Tn t (m + 1) S' ∧ Kp t S S') fun _ _ => False :=
  ok_pick hc hm hd hp h hl b_len_lst (by omega) fun S' r _ r0 r1 => by
    obtain ⟨a, ha, e⟩ := atI_int r0 r1
    exact ⟨a, by rw [ix_lst]; exact e, ha⟩
theorem ok_pickO {n kc km kd kp t m q : Nat} {ns : List Int} {xs : List D} (hc : T.fns[kc]? = some cellF) (hm : T.fns[km]? = some (mixF kc)) (hd : T.fns[kd]? = some (drawF km)) (hp : T.fns[kp]? = some (pickF kd)) (h : Tn t m S) (hl : m < 90000) (hx : 0 < xs.length) (hq : q ≠ t) (hq2 : q < S.nx) (ho : S.ob q = some (.lst xs)) :
    wpr (sem T (n + 4) kp [script ns, .loc t, .loc q] S) (fun d S' => d ∈ xs ∧ Tn t (m + 1) S' ∧ Kp t S S') fun _ _ => False :=
  ok_pick hc hm hd hp h hl (b_len_loc ho) (by omega) fun S' r K r0 r1 => by
    obtain ⟨a, ha, e⟩ := atI_int r0 r1
    refine ⟨a, ?_, ha⟩
    show (obLst (S'.ob q)).bind _ = _
    rw [K.ob q hq2 hq, ho]
    exact e
theorem ok_pickS {n kc km kd kp t m : Nat} {ns : List Int} {s : Str} (hc : T.fns[kc]? = some cellF) (hm : T.fns[km]? = some (mixF kc)) (hd : T.fns[kd]? = some (drawF km)) (hp : T.fns[kp]? = some (pickF kd)) (h : Tn t m S) (hl : m < 90000) (hx : 0 < s.length) (hx2 : s.length ≤ 1000) :
    wpr (sem T (n + 4) kp [script ns, .loc t, .str s] S) (fun d S' => (∃ c ∈ s.cps.toList, d = .str (oneStr c)) ∧ Tn t (m + 1) S' ∧ Kp t S S') fun _ _ => False :=
  ok_pick hc hm hd hp h hl (b_len_str hx2) (by omega) fun S' r _ r0 r1 => by
    obtain ⟨a, ha, e⟩ := atI_int (xs := s.cps.toList) r0 (by rw [len_cps]; exact r1)
    exact ⟨_, by rw [ix_str hx2, e]; rfl, a, ha, rfl⟩
end
/-- a comprehension, by an invariant of the list so far -/
theorem wpr_comp {m : Bool} {xs : List D} {f : D → M (Option D)} {S : Store} {Q : D → Store → Prop} {X : Str → Store → Prop} (I : Nat → List D → Store → Prop) (hl : xs.length < nMax)
    (h0 : I 0 [] (S.new (.lst [])))
    (hob : ∀ j acc S', I j acc S' → S'.ob S.nx = some (.lst acc) ∧ acc.length ≤ j)
    (hs : ∀ j x acc S', xs[j]? = some x → I j acc S' → wpr (f x S') (fun o S1 => match o with
      | none => I (j + 1) acc S1
      | some y => S1.ob S.nx = some (.lst acc) ∧ I (j + 1) (acc ++ [y]) (S1.set S.nx (.lst (acc ++ [y])))) fun _ _ => False)
    (hd : ∀ acc S', I xs.length acc S' → if m = true then Q (.loc S.nx) S' else Q (.lst acc) (S'.del S.nx)) : wpr (compM m (.vals xs) f S) Q X := by
  have gen : ∀ (k j : Nat) (acc : List D) (S' : Store), j + k = xs.length → I j acc S' → ∃ acc' S2, loopC (.vals xs) S.nx f k j S' = .ok () S2 ∧ I xs.length acc' S2 := by
    intro k
    induction k with
    | zero =>
      intro j acc S' hj hI
      have e : j = xs.length := by omega
      subst e
      exact ⟨acc, S', rfl, hI⟩
    | succ k ih =>
      intro j acc S' hj hI
      have hlt : j < xs.length := by omega
      have hx : xs[j]? = some xs[j] := List.getElem?_eq_getElem hlt
      show ∃ acc' S2, (match (xs[j]? : Option D) with
        | none => Rs.bad
        | some x => match f x S' with
          | .ok none S1 => loopC (.vals xs) S.nx f k (j + 1) S1
          | .ok (some y) S1 => match obLst (S1.ob S.nx) with
            | some acc => if acc.length < nMax then loopC (.vals xs) S.nx f k (j + 1) (S1.set S.nx (.lst (acc ++ [y]))) else .bad
            | none => .bad
          | _ => .bad) = _ ∧ _
      rw [hx]
      obtain ⟨o, S1, e, z⟩ := wpr_elim (hs j _ acc S' hx hI)
      simp only
      rw [e]
      cases o with
      | none => exact ih (j + 1) acc S1 (by omega) z
      | some y =>
        simp only
        rw [z.1]
        simp only [obLst]
        have := (hob j acc S' hI).2
        rw [if_pos (by omega)]
        exact ih (j + 1) (acc ++ [y]) _ (by omega) z.2
  obtain ⟨acc, S2, e, hI⟩ := gen xs.length 0 [] (S.new (.lst [])) (Nat.zero_add _) h0
  have hq := hd acc S2 hI
  show wpr (match loopC (.vals xs) S.nx f xs.length 0 (S.new (.lst [])) with
    | .ok _ S2 => if m = true then .ok (.loc S.nx) S2 else match obLst (S2.ob S.nx) with
      | some acc => .ok (.lst acc) (S2.del S.nx)
      | none => .bad
    | _ => .bad) Q X
  rw [e]
  simp only
  cases m with
  | true => exact hq
  | false =>
    simp only [Bool.false_eq_true, if_false] at hq ⊢
    rw [(hob _ acc S2 hI).1]
    exact hq
theorem Kp.new {t : Nat} {S S' : Store} {o : Ob} (h : Kp t S S') (w : S'.WF) : Kp t S (S'.new o) := h.trans (.of (Gr.new w))
theorem Kp.setN {t q : Nat} {S S' : Store} {o : Ob} (h : Kp t S S') (hq : S.nx ≤ q) : Kp t S (S'.set q o) := ⟨h.nx, fun n a b => (Store.set_ne (by omega)).trans (h.ob n a b)⟩
theorem Tn.setN {t q m : Nat} {S : Store} {o : Ob} (h : Tn t m S) (hq : q < S.nx) (hn : q ≠ t) : Tn t m (S.set q o) := ⟨Store.set_WF h.wf hq, h.lt, by obtain ⟨xs, a, b⟩ := h.ob; exact ⟨xs, (Store.set_ne (Ne.symm hn)).trans a, b⟩⟩
theorem turn_off {env : ML.Env} {vs : List Nat} {i : Nat} {ft : ML.Env → M Bool} {fe : ML.Env → M D} {x : D} {S : Store} {Q : Option D → Store → Prop} {X : Str → Store → Prop} (h1 : ft ((wipeE env vs).set i (some x)) S = .ok true S)
    (h2 : wpr (fe ((wipeE env vs).set i (some x)) S) (fun d S1 => Q (some d) S1) X) : wpr (turnC env vs i ft fe x S) Q X := by
  unfold turnC
  rw [wpr_bind, h1, wpr_ok, if_pos rfl, wpr_bind]
  exact h2
end ML

namespace ML
open PySem L2
theorem ofS_inj (a b : String) : (Str.ofString a = Str.ofString b) = (a = b) := by
  refine propext ⟨fun h => ?_, fun h => by rw [h]⟩
  rw [Str.ofString_eq_toList, Str.ofString_eq_toList] at h
  have h2 : a.toList.map Char.toNat = b.toList.map Char.toNat := by
    have := congrArg (fun x : Str => x.cps.toList) h
    simpa using this
  have inj : ∀ (x y : List Char), x.map Char.toNat = y.map Char.toNat → x = y := by
    intro x
    induction x with
    | nil => intro y h; cases y with
      | nil => rfl
      | cons _ _ => cases h
    | cons c x ih =>
      intro y h
      cases y with
      | nil => cases h
      | cons d y =>
        simp only [List.map_cons, List.cons.injEq] at h
        rw [ih y h.2]
        congr 1
        exact Char.ext (UInt32.toNat_inj.mp h.1)
  exact String.toList_inj.mp (inj _ _ h2)
/-- a comprehension whose turns leave what is older -/
theorem comp_keep {xs : List D} {f : D → M (Option D)} (p : D → Bool) (g : D → D) {S : Store} (hS : S.WF) (hl : xs.length < nMax)
    (hf : ∀ x ∈ xs, ∀ S' : Store, Gr S S' → Ups (f x S') S' (if p x = true then some (g x) else none)) :
    Ups (compM false (.vals xs) f S) S (.lst ((xs.filter p).map g)) := by
  refine .of ?_
  refine wpr_comp (fun j acc S' => Gr S S' ∧ S.nx < S'.nx ∧ S'.ob S.nx = some (.lst acc) ∧ acc = ((xs.take j).filter p).map g) hl ⟨Gr.new hS, Nat.lt_succ_self _, Store.new_ob, rfl⟩ (fun j acc S' z => ⟨z.2.2.1, ?_⟩) ?_ ?_
  · rw [z.2.2.2, List.length_map]
    refine Nat.le_trans (List.length_filter_le _ _) ?_
    rw [List.length_take]
    omega
  · rintro j x acc S' hx ⟨G, nx, ob, e⟩
    have hm : x ∈ xs := List.mem_of_getElem? hx
    have ht : xs.take (j + 1) = xs.take j ++ [x] := by rw [List.take_succ, hx]; rfl
    refine (hf x hm S' G).wpr fun S1 G1 => ?_
    cases hp : p x with
    | false =>
      refine ⟨G.trans G1, Nat.lt_of_lt_of_le nx G1.nx, (G1.ob _ nx).trans ob, ?_⟩
      rw [e, ht, List.filter_append]
      simp [hp]
    | true =>
      refine ⟨(G1.ob _ nx).trans ob, (G.trans G1).set (Nat.le_refl _) (Nat.lt_of_lt_of_le nx G1.nx), Nat.lt_of_lt_of_le nx G1.nx, Store.set_ob, ?_⟩
      rw [e, ht, List.filter_append]
      simp [hp]
  · rintro acc S' ⟨G, nx, ob, e⟩
    rw [List.take_length] at e
    rw [if_neg Bool.false_ne_true]
    exact ⟨by rw [e], G.del (Nat.le_refl _)⟩
theorem comp_keep_all {xs : List D} {f : D → M (Option D)} (g : D → D) {S : Store} (hS : S.WF) (hl : xs.length < nMax)
    (hf : ∀ x ∈ xs, ∀ S' : Store, Gr S S' → Ups (f x S') S' (some (g x))) : Ups (compM false (.vals xs) f S) S (.lst (xs.map g)) := by
  have z := comp_keep (fun _ => true) g hS hl fun x hx S' G => by simpa using hf x hx S' G
  rw [List.filter_eq_self.mpr (fun _ _ => rfl)] at z
  exact z
/-- a turn with a test -/
theorem turn_if {env : ML.Env} {vs : List Nat} {i : Nat} {ft : ML.Env → M Bool} {fe : ML.Env → M D} {x : D} {S : Store} {b : Bool} {d : D} (h1 : Ups (ft ((wipeE env vs).set i (some x)) S) S b)
    (h2 : b = true → ∀ S', Gr S S' → Ups (fe ((wipeE env vs).set i (some x)) S') S' d) : Ups (turnC env vs i ft fe x S) S (if b = true then some d else none) := by
  obtain ⟨S1, e1, G1⟩ := h1
  unfold turnC M.bind
  rw [e1]
  cases b with
  | false => exact ⟨S1, rfl, G1⟩
  | true =>
    obtain ⟨S2, e2, G2⟩ := h2 rfl S1 G1
    refine ⟨S2, ?_, G1.trans G2⟩
    show ((fe _ S1).andThen _) = _
    rw [e2]
    rfl
/-! ### one statement at a time -/
def Later (Γ : Nat → List D → M D) (gv : List D) (b : ST) (N : ML.Env → Store → Prop) (R : D → Store → Prop) (E : Str → ML.Env → Store → Prop) : ML.Env → Store → Prop := fun env S => wrs (evS Γ gv b env S) N R E
section
variable {Γ : Nat → List D → M D} {gv : List D} {N : ML.Env → Store → Prop} {R : D → Store → Prop} {E : Str → ML.Env → Store → Prop} {env : ML.Env} {S : Store}
theorem wrs_seqL {a b : ST} : wrs (evS Γ gv (.seq a b) env S) N R E = wrs (evS Γ gv a env S) (Later Γ gv b N R E) R E := wrs_seq
theorem later {b : ST} : Later Γ gv b N R E env S = wrs (evS Γ gv b env S) N R E := rfl
theorem later_nil : Later Γ gv .nil N R E env S = N env S := rfl
end
/-- a part of a law that draws: what it gives, how many it draws -/
def Sp (t m c : Nat) (S : Store) (P : D → Prop) (r : Rs D) : Prop := wpr r (fun d S' => P d ∧ Tn t (m + c) S' ∧ Kp t S S') fun _ _ => False
theorem Sp.use {t m c : Nat} {S : Store} {P : D → Prop} {r : Rs D} {Q : D → Store → Prop} {X : Str → Store → Prop} (h : Sp t m c S P r) (k : ∀ d S', P d → Tn t (m + c) S' → Kp t S S' → Q d S') : wpr r Q X :=
  wpr_mono h (fun d S' z => k d S' z.1 z.2.1 z.2.2) fun _ _ z => z.elim
theorem Sp.mono {t m c c' : Nat} {S : Store} {P P' : D → Prop} {r : Rs D} (h : Sp t m c S P r) (hc : c ≤ c') (hP : ∀ d, P d → P' d) : Sp t m c' S P' r :=
  wpr_mono h (fun d S' z => ⟨hP d z.1, z.2.1.mono (by omega), z.2.2⟩) fun _ _ z => z
/-- a comprehension of drawn things -/
theorem comp_draws {mm : Bool} {t m c : Nat} {xs : List D} {env : ML.Env} {vs : List Nat} {i : Nat} {ft : ML.Env → M Bool} {fe : ML.Env → M D} {S : Store} {P : D → Prop} {Q : D → Store → Prop} {X : Str → Store → Prop} (h : Tn t m S) (hl : xs.length < nMax)
    (hft : ∀ e S, ft e S = .ok true S)
    (hf : ∀ (j : Nat) (x : D) (S' : Store), xs[j]? = some x → Tn t (m + c * j) S' → Sp t (m + c * j) c S' P (fe ((wipeE env vs).set i (some x)) S'))
    (hq : ∀ acc S', acc.length = xs.length → (∀ d ∈ acc, P d) → Tn t (m + c * xs.length) S' → Kp t S S' → (mm = true → S'.ob S.nx = some (.lst acc) ∧ S.nx < S'.nx) → Q (if mm = true then .loc S.nx else .lst acc) S') :
    wpr (compM mm (.vals xs) (turnC env vs i ft fe) S) Q X := by
  have hne : S.nx ≠ t := Nat.ne_of_gt h.lt
  refine wpr_comp (fun j acc S' => Tn t (m + c * j) S' ∧ Kp t S S' ∧ S.nx < S'.nx ∧ S'.ob S.nx = some (.lst acc) ∧ acc.length = j ∧ ∀ d ∈ acc, P d) hl ?_ (fun j acc S' z => ⟨z.2.2.2.1, by omega⟩) ?_ ?_
  · exact ⟨h.gr (Gr.new h.wf), .of (Gr.new h.wf), Nat.lt_succ_self _, Store.new_ob, rfl, fun d z => (by cases z)⟩
  · rintro j x acc S' hj ⟨T4, K4, n4, o4, el, ha⟩
    refine turn_off (hft _ _) ?_
    refine (hf j x S' hj T4).use fun d S5 hd T5 K5 => ?_
    have o5 := (K5.ob _ n4 hne).trans o4
    have n5 := Nat.lt_of_lt_of_le n4 K5.nx
    refine ⟨o5, (T5.setN n5 hne).mono (by rw [Nat.mul_succ]; omega), (K4.trans K5).setN (Nat.le_refl _), n5, Store.set_ob, by rw [List.length_append, el]; rfl, fun y hy => ?_⟩
    rcases List.mem_append.mp hy with hy | hy
    · exact ha y hy
    · rw [List.mem_singleton.mp hy]; exact hd
  · rintro acc S4 ⟨T4, K4, n4, o4, el, ha⟩
    cases mm with
    | true => exact hq acc S4 el ha T4 K4 fun _ => ⟨o4, n4⟩
    | false =>
      refine hq acc (S4.del S.nx) el ha ⟨Store.del_WF T4.wf, T4.lt, ?_⟩ ⟨K4.nx, fun q h1 h2 => ?_⟩ fun z => absurd z Bool.false_ne_true
      · obtain ⟨zs, z1, z2⟩ := T4.ob
        exact ⟨zs, by rw [← z1]; exact if_neg (Ne.symm hne), z2⟩
      · rw [← K4.ob q h1 h2]
        exact if_neg (Nat.ne_of_lt h1)
end ML

namespace K10
open PySem L2 ML
def f_is_worded : Fn := { name := ("is_worded" : Str), ps := [("text" : Str), ("firsts" : Str)], N := [("text" : Str), ("firsts" : Str), ("sign" : Str)], body := .seq (.ife (.con .Or (.nt (.chn .LtE .LtE (.cI 1) (.blt false .len (.cons (.var 0) (.nil))) (.glb 5))) (.one (.cmp .NotIn (.idx (.var 0) (.cI 0)) (.var 1)))) (.seq (.ret (.cB false)) (.nil)) (.nil)) (.seq (.ret (.blt false .all (.cons (.lc false [(("sign" : Str), 2)] 2 (.itr (.var 0)) (.off) (.cmp .In (.var 2) (.bop false .Add (.bop false .Add (.glb 0) (.glb 1)) (.glb 2)))) (.nil)))) (.nil)) }
def f_is_name : Fn := { name := ("is_name" : Str), ps := [("text" : Str)], N := [("text" : Str)], body := .seq (.ret (.con .And (.call 0 (.cons (.var 0) (.cons (.glb 0) (.nil)))) (.one (.cmp .NotIn (.var 0) (.glb 4))))) (.nil) }
def f_is_class_name : Fn := { name := ("is_class_name" : Str), ps := [("text" : Str)], N := [("text" : Str)], body := .seq (.ret (.call 0 (.cons (.var 0) (.cons (.glb 1) (.nil))))) (.nil) }
def f_words_of : Fn := { name := ("words_of" : Str), ps := [("message" : Str)], N := [("message" : Str), ("found" : Str), ("rest" : Str), ("word" : Str), ("colon" : Str)], body := .seq (.asg 1 (.lst true (.nil))) (.seq (.asg 2 (.var 0)) (.seq (.whl (.cmp .In (.cS (":" : Str)) (.var 2)) (.seq (.unp [3, 4, 2] (.met false .partition (.var 2) (.cons (.cS (":" : Str)) (.nil)))) (.seq (.exp (.met false .append (.var 1) (.cons (.bop false .Add (.var 3) (.cS (":" : Str))) (.nil)))) (.nil)))) (.seq (.ret (.ite (.cmp .Eq (.var 2) (.cS ("" : Str))) (.frz (.var 1)) (.lst false (.nil)))) (.nil)))) }
def f_arity_of : Fn := { name := ("arity_of" : Str), ps := [("message" : Str)], N := [("message" : Str), ("words" : Str), ("word" : Str)], body := .seq (.ife (.tru (.call 1 (.cons (.var 0) (.nil)))) (.seq (.ret (.cI 0)) (.nil)) (.nil)) (.seq (.ife (.con .And (.cmp .Eq (.blt false .len (.cons (.var 0) (.nil))) (.cI 1)) (.one (.cmp .In (.var 0) (.glb 3)))) (.seq (.ret (.cI 1)) (.nil)) (.nil)) (.seq (.asg 1 (.call 3 (.cons (.var 0) (.nil)))) (.seq (.ife (.con .And (.chn .LtE .LtE (.cI 1) (.blt false .len (.cons (.var 1) (.nil))) (.glb 6)) (.one (.tru (.blt false .all (.cons (.lc false [(("word" : Str), 2)] 2 (.itr (.var 1)) (.off) (.call 1 (.cons (.slc false (.var 2) (.off) (.neg (.cI 1))) (.nil)))) (.nil)))))) (.seq (.ret (.blt false .len (.cons (.var 1) (.nil)))) (.nil)) (.nil)) (.seq (.ret (.cN)) (.nil))))) }
def f_must : Fn := { name := ("must" : Str), ps := [("right" : Str)], N := [("right" : Str)], body := .seq (.ife (.nt (.tru (.var 0))) (.seq (.rais ("BadTree" : Str)) (.nil)) (.nil)) (.nil) }
def f_inner_trees : Fn := { name := ("inner_trees" : Str), ps := [("tree" : Str)], N := [("tree" : Str), ("word" : Str)], body := .seq (.asg 1 (.idx (.var 0) (.cI 0))) (.seq (.ife (.cmp .In (.var 1) (.tup (.cons (.cS ("set" : Str)) (.cons (.cS ("back" : Str)) (.nil))))) (.seq (.ret (.lst false (.cons (.idx (.var 0) (.neg (.cI 1))) (.nil)))) (.nil)) (.nil)) (.seq (.ife (.cmp .Eq (.var 1) (.cS ("send" : Str))) (.seq (.ret (.bop false .Add (.lst false (.cons (.idx (.var 0) (.cI 1)) (.nil))) (.blt false .list (.cons (.idx (.var 0) (.cI 3)) (.nil))))) (.nil)) (.nil)) (.seq (.ife (.cmp .Eq (.var 1) (.cS ("super" : Str))) (.seq (.ret (.blt false .list (.cons (.idx (.var 0) (.cI 2)) (.nil)))) (.nil)) (.nil)) (.seq (.ife (.cmp .Eq (.var 1) (.cS ("block" : Str))) (.seq (.ret (.blt false .list (.cons (.idx (.var 0) (.cI 3)) (.nil)))) (.nil)) (.nil)) (.seq (.ret (.lst false (.nil))) (.nil)))))) }
def f_look_names : Fn := { name := ("look_names" : Str), ps := [("names" : Str)], N := [("names" : Str), ("name" : Str)], body := .seq (.exp (.call 5 (.cons (.con .And (.blt false .all (.cons (.lc false [(("name" : Str), 1)] 1 (.itr (.var 0)) (.off) (.call 1 (.cons (.var 1) (.nil)))) (.nil))) (.one (.cmp .Eq (.lset (.var 0)) (.blt false .len (.cons (.var 0) (.nil)))))) (.nil)))) (.nil) }
def f_look_body : Fn := { name := ("look_body" : Str), ps := [("body" : Str), ("deep" : Str)], N := [("body" : Str), ("deep" : Str), ("k" : Str)], body := .seq (.fr 2 (.rng (.blt false .len (.cons (.var 0) (.nil)))) (.seq (.exp (.call 9 (.cons (.idx (.var 0) (.var 2)) (.cons (.var 1) (.cons (.cmp .Eq (.var 2) (.bop false .Sub (.blt false .len (.cons (.var 0) (.nil))) (.cI 1))) (.nil)))))) (.nil))) (.nil) }
def f_look_tree : Fn := { name := ("look_tree" : Str), ps := [("tree" : Str), ("deep" : Str), ("is_last" : Str)], N := [("tree" : Str), ("deep" : Str), ("is_last" : Str), ("word" : Str), ("one" : Str)], body := .seq (.exp (.call 5 (.cons (.con .And (.cmp .LtE (.var 1) (.glb 9)) (.con .And (.cmp .Gt (.blt false .len (.cons (.var 0) (.nil))) (.cI 0)) (.one (.inW ("LENGTHS" : Str) [(("number" : Str), .inl 2), (("word" : Str), .inl 2), (("name" : Str), .inl 2), (("set" : Str), .inl 3), (("send" : Str), .inl 4), (("super" : Str), .inl 3), (("block" : Str), .inl 4), (("back" : Str), .inl 2)] (.idx (.var 0) (.cI 0)))))) (.nil)))) (.seq (.asg 3 (.idx (.var 0) (.cI 0))) (.seq (.exp (.call 5 (.cons (.con .And (.cmp .Eq (.blt false .len (.cons (.var 0) (.nil))) (.ixW ("LENGTHS" : Str) [(("number" : Str), .inl 2), (("word" : Str), .inl 2), (("name" : Str), .inl 2), (("set" : Str), .inl 3), (("send" : Str), .inl 4), (("super" : Str), .inl 3), (("block" : Str), .inl 4), (("back" : Str), .inl 2)] (.var 3))) (.one (.con .Or (.cmp .NotEq (.var 3) (.cS ("back" : Str))) (.one (.var 2))))) (.nil)))) (.seq (.ife (.cmp .Eq (.var 3) (.cS ("number" : Str))) (.seq (.exp (.call 5 (.cons (.chn .LtE .LtE (.cI 0) (.idx (.var 0) (.cI 1)) (.glb 8)) (.nil)))) (.nil)) (.nil)) (.seq (.ife (.cmp .Eq (.var 3) (.cS ("word" : Str))) (.seq (.exp (.call 5 (.cons (.cmp .IsNot (.call 4 (.cons (.idx (.var 0) (.cI 1)) (.nil))) (.cN)) (.nil)))) (.nil)) (.nil)) (.seq (.ife (.cmp .Eq (.var 3) (.cS ("name" : Str))) (.seq (.exp (.call 5 (.cons (.con .Or (.call 1 (.cons (.idx (.var 0) (.cI 1)) (.nil))) (.con .Or (.call 2 (.cons (.idx (.var 0) (.cI 1)) (.nil))) (.one (.cmp .In (.idx (.var 0) (.cI 1)) (.glb 7))))) (.nil)))) (.nil)) (.nil)) (.seq (.ife (.cmp .Eq (.var 3) (.cS ("set" : Str))) (.seq (.exp (.call 5 (.cons (.call 1 (.cons (.idx (.var 0) (.cI 1)) (.nil))) (.nil)))) (.nil)) (.nil)) (.seq (.ife (.cmp .In (.var 3) (.tup (.cons (.cS ("send" : Str)) (.cons (.cS ("super" : Str)) (.nil))))) (.seq (.exp (.call 5 (.cons (.cmp .Eq (.call 4 (.cons (.idx (.var 0) (.neg (.cI 2))) (.nil))) (.blt false .len (.cons (.idx (.var 0) (.neg (.cI 1))) (.nil)))) (.nil)))) (.nil)) (.nil)) (.seq (.ife (.cmp .Eq (.var 3) (.cS ("block" : Str))) (.seq (.exp (.call 7 (.cons (.bop false .Add (.idx (.var 0) (.cI 1)) (.idx (.var 0) (.cI 2))) (.nil)))) (.seq (.exp (.call 5 (.cons (.cmp .LtE (.blt false .len (.cons (.idx (.var 0) (.cI 1)) (.nil))) (.glb 10)) (.nil)))) (.seq (.exp (.call 8 (.cons (.idx (.var 0) (.cI 3)) (.cons (.bop false .Add (.var 1) (.cI 1)) (.nil))))) (.nil)))) (.seq (.fr 4 (.itr (.call 6 (.cons (.var 0) (.nil)))) (.seq (.exp (.call 9 (.cons (.var 4) (.cons (.bop false .Add (.var 1) (.cI 1)) (.cons (.cB false) (.nil)))))) (.nil))) (.nil))) (.nil))))))))) }
def f_look_method : Fn := { name := ("look_method" : Str), ps := [("method" : Str)], N := [("method" : Str)], body := .seq (.exp (.call 5 (.cons (.con .And (.cmp .Eq (.blt false .len (.cons (.var 0) (.nil))) (.cI 4)) (.one (.cmp .Eq (.call 4 (.cons (.idx (.var 0) (.cI 0)) (.nil))) (.blt false .len (.cons (.idx (.var 0) (.cI 1)) (.nil)))))) (.nil)))) (.seq (.exp (.call 7 (.cons (.bop false .Add (.idx (.var 0) (.cI 1)) (.idx (.var 0) (.cI 2))) (.nil)))) (.seq (.exp (.call 8 (.cons (.idx (.var 0) (.cI 3)) (.cons (.cI 1) (.nil))))) (.nil))) }
def f_rank_of : Fn := { name := ("rank_of" : Str), ps := [("message" : Str)], N := [("message" : Str)], body := .seq (.ife (.tru (.call 1 (.cons (.var 0) (.nil)))) (.seq (.ret (.cI 1)) (.nil)) (.nil)) (.seq (.ret (.ite (.tru (.met false .endswith (.var 0) (.cons (.cS (":" : Str)) (.nil)))) (.cI 3) (.cI 2))) (.nil)) }
def f_tree_rank : Fn := { name := ("tree_rank" : Str), ps := [("tree" : Str)], N := [("tree" : Str)], body := .seq (.ife (.cmp .In (.idx (.var 0) (.cI 0)) (.tup (.cons (.cS ("send" : Str)) (.cons (.cS ("super" : Str)) (.nil))))) (.seq (.ret (.call 11 (.cons (.idx (.var 0) (.neg (.cI 2))) (.nil)))) (.nil)) (.nil)) (.seq (.ret (.ite (.cmp .Eq (.idx (.var 0) (.cI 0)) (.cS ("set" : Str))) (.cI 4) (.cI 0))) (.nil)) }
def f_laid_words : Fn := { name := ("laid_words" : Str), ps := [("message" : Str), ("parts" : Str)], N := [("message" : Str), ("parts" : Str), ("words" : Str), ("found" : Str), ("k" : Str)], body := .seq (.ife (.nt (.tru (.var 1))) (.seq (.ret (.lst false (.cons (.var 0) (.nil)))) (.nil)) (.nil)) (.seq (.asg 2 (.con .Or (.call 3 (.cons (.var 0) (.nil))) (.one (.lst false (.cons (.var 0) (.nil)))))) (.seq (.asg 3 (.lst true (.nil))) (.seq (.fr 4 (.rng (.blt false .len (.cons (.var 2) (.nil)))) (.seq (.exp (.met false .extend (.var 3) (.cons (.bop false .Add (.lst false (.cons (.idx (.var 2) (.var 4)) (.nil))) (.idx (.var 1) (.var 4))) (.nil)))) (.nil))) (.seq (.ret (.frz (.var 3))) (.nil))))) }
def f_bracketed : Fn := { name := ("bracketed" : Str), ps := [("tree" : Str), ("most" : Str)], N := [("tree" : Str), ("most" : Str)], body := .seq (.ife (.cmp .Gt (.call 12 (.cons (.var 0) (.nil))) (.var 1)) (.seq (.ret (.bop false .Add (.bop false .Add (.lst false (.cons (.cS ("(" : Str)) (.nil))) (.call 16 (.cons (.var 0) (.nil)))) (.lst false (.cons (.cS (")" : Str)) (.nil))))) (.nil)) (.nil)) (.seq (.ret (.call 16 (.cons (.var 0) (.nil)))) (.nil)) }
def f_body_words : Fn := { name := ("body_words" : Str), ps := [("temps" : Str), ("body" : Str)], N := [("temps" : Str), ("body" : Str), ("found" : Str), ("k" : Str)], body := .seq (.asg 2 (.ite (.tru (.var 0)) (.bop true .Add (.bop false .Add (.lst false (.cons (.cS ("|" : Str)) (.nil))) (.blt false .list (.cons (.var 0) (.nil)))) (.lst false (.cons (.cS ("|" : Str)) (.nil)))) (.lst true (.nil)))) (.seq (.fr 3 (.rng (.blt false .len (.cons (.var 1) (.nil)))) (.seq (.ife (.cmp .Gt (.var 3) (.cI 0)) (.seq (.exp (.met false .append (.var 2) (.cons (.cS ("." : Str)) (.nil)))) (.nil)) (.nil)) (.seq (.exp (.met false .extend (.var 2) (.cons (.call 16 (.cons (.idx (.var 1) (.var 3)) (.nil))) (.nil)))) (.nil)))) (.seq (.ret (.frz (.var 2))) (.nil))) }
def f_tree_words : Fn := { name := ("tree_words" : Str), ps := [("tree" : Str)], N := [("tree" : Str), ("word" : Str), ("params" : Str), ("name" : Str), ("rank" : Str), ("to" : Str), ("one" : Str)], body := .seq (.asg 1 (.idx (.var 0) (.cI 0))) (.seq (.ife (.cmp .In (.var 1) (.tup (.cons (.cS ("number" : Str)) (.cons (.cS ("name" : Str)) (.nil))))) (.seq (.ret (.lst false (.cons (.blt false .str (.cons (.idx (.var 0) (.cI 1)) (.nil))) (.nil)))) (.nil)) (.nil)) (.seq (.ife (.cmp .Eq (.var 1) (.cS ("word" : Str))) (.seq (.ret (.lst false (.cons (.bop false .Add (.cS ("#" : Str)) (.idx (.var 0) (.cI 1))) (.nil)))) (.nil)) (.nil)) (.seq (.ife (.cmp .Eq (.var 1) (.cS ("set" : Str))) (.seq (.ret (.bop false .Add (.lst false (.cons (.idx (.var 0) (.cI 1)) (.cons (.cS (":=" : Str)) (.nil)))) (.call 16 (.cons (.idx (.var 0) (.cI 2)) (.nil))))) (.nil)) (.nil)) (.seq (.ife (.cmp .Eq (.var 1) (.cS ("back" : Str))) (.seq (.ret (.bop false .Add (.lst false (.cons (.cS ("^" : Str)) (.nil))) (.call 16 (.cons (.idx (.var 0) (.cI 1)) (.nil))))) (.nil)) (.nil)) (.seq (.ife (.cmp .Eq (.var 1) (.cS ("block" : Str))) (.seq (.asgC 2 (.lc false [(("name" : Str), 3)] 3 (.itr (.idx (.var 0) (.cI 1))) (.off) (.bop false .Add (.cS (":" : Str)) (.var 3)))) (.seq (.ret (.bop false .Add (.bop false .Add (.bop false .Add (.bop false .Add (.lst false (.cons (.cS ("[" : Str)) (.nil))) (.var 2)) (.ite (.tru (.var 2)) (.lst false (.cons (.cS ("|" : Str)) (.nil))) (.lst false (.nil)))) (.call 15 (.cons (.idx (.var 0) (.cI 2)) (.cons (.idx (.var 0) (.cI 3)) (.nil))))) (.lst false (.cons (.cS ("]" : Str)) (.nil))))) (.nil))) (.nil)) (.seq (.asg 4 (.call 11 (.cons (.idx (.var 0) (.neg (.cI 2))) (.nil)))) (.seq (.asg 5 (.ite (.cmp .Eq (.var 1) (.cS ("super" : Str))) (.lst false (.cons (.cS ("super" : Str)) (.nil))) (.call 14 (.cons (.idx (.var 0) (.cI 1)) (.cons (.blt false .min (.cons (.var 4) (.cons (.cI 2) (.nil)))) (.nil)))))) (.seq (.ret (.bop false .Add (.var 5) (.call 13 (.cons (.idx (.var 0) (.neg (.cI 2))) (.cons (.lc false [(("one" : Str), 6)] 6 (.itr (.idx (.var 0) (.neg (.cI 1)))) (.off) (.call 14 (.cons (.var 6) (.cons (.bop false .Sub (.var 4) (.cI 1)) (.nil))))) (.nil)))))) (.nil))))))))) }
def f_written_method : Fn := { name := ("written_method" : Str), ps := [("method" : Str)], N := [("method" : Str), ("words" : Str), ("name" : Str)], body := .seq (.exp (.call 10 (.cons (.var 0) (.nil)))) (.seq (.asg 1 (.call 13 (.cons (.idx (.var 0) (.cI 0)) (.cons (.lc false [(("name" : Str), 2)] 2 (.itr (.idx (.var 0) (.cI 1))) (.off) (.lst false (.cons (.var 2) (.nil)))) (.nil))))) (.seq (.ret (.met false .join (.cS (" " : Str)) (.cons (.bop false .Add (.var 1) (.call 15 (.cons (.idx (.var 0) (.cI 2)) (.cons (.idx (.var 0) (.cI 3)) (.nil))))) (.nil)))) (.nil))) }
def f_law_cell : Fn := { name := ("_law_cell" : Str), ps := [("script" : Str), ("k" : Str)], N := [("script" : Str), ("k" : Str)], body := .seq (.ife (.tru (.var 0)) (.seq (.ret (.idx (.var 0) (.bop false .Mod (.var 1) (.blt false .len (.cons (.var 0) (.nil)))))) (.nil)) (.nil)) (.seq (.ret (.cI 0)) (.nil)) }
def f_law_mix : Fn := { name := ("_law_mix" : Str), ps := [("script" : Str), ("k" : Str)], N := [("script" : Str), ("k" : Str), ("number" : Str)], body := .seq (.asg 2 (.bop false .Mod (.bop false .Add (.call 18 (.cons (.var 0) (.cons (.var 1) (.nil)))) (.bop false .Mult (.cI 104729) (.bop false .Add (.var 1) (.cI 1)))) (.cI 4294967291))) (.seq (.asg 2 (.bop false .Mod (.bop false .Pow (.var 2) (.cI 5)) (.cI 4294967279))) (.seq (.ret (.bop false .Mod (.bop false .Add (.bop false .Mult (.bop false .FloorDiv (.var 2) (.cI 64)) (.cI 69621)) (.var 2)) (.cI 4294967231))) (.nil))) }
def f_law_draw : Fn := { name := ("_law_draw" : Str), ps := [("script" : Str), ("town" : Str), ("many" : Str)], N := [("script" : Str), ("town" : Str), ("many" : Str)], body := .seq (.exp (.met false .append (.var 1) (.cons (.cI 0) (.nil)))) (.seq (.ret (.bop false .Mod (.bop false .FloorDiv (.call 19 (.cons (.var 0) (.cons (.blt false .len (.cons (.var 1) (.nil))) (.nil)))) (.cI 8)) (.var 2))) (.nil)) }
def f_law_pick : Fn := { name := ("_law_pick" : Str), ps := [("script" : Str), ("town" : Str), ("some" : Str)], N := [("script" : Str), ("town" : Str), ("some" : Str)], body := .seq (.ret (.idx (.var 2) (.call 20 (.cons (.var 0) (.cons (.var 1) (.cons (.blt false .len (.cons (.var 2) (.nil))) (.nil))))))) (.nil) }
def f_law_refusal : Fn := { name := ("_law_refusal" : Str), ps := [("held" : Str)], N := [("held" : Str), ("kinds" : Str)], body := .seq (.ife (.cmp .Is (.var 0) (.cN)) (.seq (.ret (.tup (.cons (.cS ("ok" : Str)) (.nil)))) (.nil)) (.nil)) (.seq (.asg 1 (.lst false (.cons (.isE (.var 0) ("BadTree" : Str) [(("BadTree" : Str), true)]) (.cons (.isE (.var 0) ("BadText" : Str) [(("BadTree" : Str), false)]) (.cons (.isE (.var 0) ("BadName" : Str) [(("BadTree" : Str), false)]) (.nil)))))) (.seq (.asg 1 (.bop false .Add (.var 1) (.lst false (.cons (.isE (.var 0) ("BadClass" : Str) [(("BadTree" : Str), false)]) (.cons (.isE (.var 0) ("BadRun" : Str) [(("BadTree" : Str), false)]) (.cons (.isE (.var 0) ("BadCodes" : Str) [(("BadTree" : Str), false)]) (.nil))))))) (.seq (.ife (.con .Or (.cmp .NotEq (.met false .count (.var 1) (.cons (.cB true) (.nil))) (.cI 1)) (.one (.nt (.tru (.isE (.var 0) ("ValueError" : Str) [(("BadTree" : Str), true)]))))) (.seq (.ret (.tup (.cons (.cS ("wrong" : Str)) (.nil)))) (.nil)) (.nil)) (.seq (.ret (.tup (.cons (.cS ("refused" : Str)) (.cons (.idx (.lst false (.cons (.cS ("tree" : Str)) (.cons (.cS ("text" : Str)) (.cons (.cS ("name" : Str)) (.cons (.cS ("class" : Str)) (.cons (.cS ("run" : Str)) (.cons (.cS ("codes" : Str)) (.nil)))))))) (.met false .index (.var 1) (.cons (.cB true) (.nil)))) (.nil))))) (.nil))))) }
def f_law_word : Fn := { name := ("_law_word" : Str), ps := [("script" : Str), ("town" : Str), ("firsts" : Str)], N := [("script" : Str), ("town" : Str), ("firsts" : Str), ("signs" : Str), ("found" : Str), ("k" : Str)], body := .seq (.asg 3 (.cS ("abcdefghijklmnopqrstuvwxyzABCDEFGHIJKLMNOPQRSTUVWXYZ0123456789" : Str))) (.seq (.asg 4 (.call 21 (.cons (.var 0) (.cons (.var 1) (.cons (.var 2) (.nil)))))) (.seq (.fr 5 (.rng (.call 20 (.cons (.var 0) (.cons (.var 1) (.cons (.call 21 (.cons (.var 0) (.cons (.var 1) (.cons (.lst false (.cons (.cI 1) (.cons (.cI 3) (.cons (.cI 12) (.nil))))) (.nil))))) (.nil)))))) (.seq (.asg 4 (.bop false .Add (.var 4) (.idx (.var 3) (.call 20 (.cons (.var 0) (.cons (.var 1) (.cons (.cI 62) (.nil)))))))) (.nil))) (.seq (.ret (.var 4)) (.nil)))) }
def f_law_name : Fn := { name := ("_law_name" : Str), ps := [("script" : Str), ("town" : Str)], N := [("script" : Str), ("town" : Str), ("found" : Str)], body := .seq (.asg 2 (.call 23 (.cons (.var 0) (.cons (.var 1) (.cons (.cS ("abcdefghijklmnopqrstuvwxyz" : Str)) (.nil)))))) (.seq (.ret (.ite (.cmp .In (.var 2) (.lst false (.cons (.cS ("self" : Str)) (.cons (.cS ("super" : Str)) (.cons (.cS ("nil" : Str)) (.cons (.cS ("yes" : Str)) (.cons (.cS ("no" : Str)) (.nil)))))))) (.bop false .Add (.var 2) (.cS ("1" : Str))) (.var 2))) (.nil)) }
def f_law_names : Fn := { name := ("_law_names" : Str), ps := [("script" : Str), ("town" : Str), ("many" : Str), ("others" : Str)], N := [("script" : Str), ("town" : Str), ("many" : Str), ("others" : Str), ("found" : Str), ("k" : Str), ("name" : Str), ("one" : Str)], body := .seq (.asg 4 (.lst true (.nil))) (.seq (.fr 5 (.rng (.var 2)) (.seq (.asg 6 (.call 24 (.cons (.var 0) (.cons (.var 1) (.nil))))) (.seq (.ife (.cmp .In (.var 6) (.bop false .Add (.var 4) (.var 3))) (.seq (.asg 6 (.idx (.lc false [(("one" : Str), 7)] 7 (.itr (.lst false (.cons (.cS ("a0" : Str)) (.cons (.cS ("b0" : Str)) (.cons (.cS ("c0" : Str)) (.cons (.cS ("d0" : Str)) (.cons (.cS ("e0" : Str)) (.cons (.cS ("f0" : Str)) (.cons (.cS ("g0" : Str)) (.cons (.cS ("h0" : Str)) (.nil))))))))))) (.cmp .NotIn (.var 7) (.bop false .Add (.var 4) (.var 3))) (.var 7)) (.cI 0))) (.nil)) (.nil)) (.seq (.exp (.met false .append (.var 4) (.cons (.var 6) (.nil)))) (.nil))))) (.seq (.ret (.blt false .tuple (.cons (.var 4) (.nil)))) (.nil))) }
def f_law_message : Fn := { name := ("_law_message" : Str), ps := [("script" : Str), ("town" : Str), ("many" : Str)], N := [("script" : Str), ("town" : Str), ("many" : Str), ("k" : Str)], body := .seq (.ife (.cmp .Eq (.var 2) (.cI 0)) (.seq (.ret (.call 24 (.cons (.var 0) (.cons (.var 1) (.nil))))) (.nil)) (.nil)) (.seq (.ife (.con .And (.cmp .Eq (.var 2) (.cI 1)) (.one (.cmp .Eq (.call 20 (.cons (.var 0) (.cons (.var 1) (.cons (.cI 2) (.nil))))) (.cI 0)))) (.seq (.ret (.call 21 (.cons (.var 0) (.cons (.var 1) (.cons (.lst false (.cons (.cS ("+" : Str)) (.cons (.cS ("-" : Str)) (.cons (.cS ("*" : Str)) (.cons (.cS ("<" : Str)) (.cons (.cS ("=" : Str)) (.nil))))))) (.nil)))))) (.nil)) (.nil)) (.seq (.ret (.met false .join (.cS ("" : Str)) (.cons (.lc false [(("k" : Str), 3)] 3 (.rng (.var 2)) (.off) (.bop false .Add (.call 24 (.cons (.var 0) (.cons (.var 1) (.nil)))) (.cS (":" : Str)))) (.nil)))) (.nil))) }
def f_law_leaf : Fn := { name := ("_law_leaf" : Str), ps := [("script" : Str), ("town" : Str)], N := [("script" : Str), ("town" : Str), ("way" : Str)], body := .seq (.asg 2 (.call 20 (.cons (.var 0) (.cons (.var 1) (.cons (.cI 6) (.nil)))))) (.seq (.ife (.cmp .Eq (.var 2) (.cI 0)) (.seq (.ret (.tup (.cons (.cS ("number" : Str)) (.cons (.call 20 (.cons (.var 0) (.cons (.var 1) (.cons (.call 21 (.cons (.var 0) (.cons (.var 1) (.cons (.lst false (.cons (.cI 10) (.cons (.cI 1000) (.cons (.cI 1000000) (.nil))))) (.nil))))) (.nil))))) (.nil))))) (.nil)) (.nil)) (.seq (.ife (.cmp .Eq (.var 2) (.cI 1)) (.seq (.ret (.tup (.cons (.cS ("word" : Str)) (.cons (.call 26 (.cons (.var 0) (.cons (.var 1) (.cons (.call 20 (.cons (.var 0) (.cons (.var 1) (.cons (.cI 4) (.nil))))) (.nil))))) (.nil))))) (.nil)) (.nil)) (.seq (.ife (.cmp .Eq (.var 2) (.cI 2)) (.seq (.ret (.tup (.cons (.cS ("name" : Str)) (.cons (.call 21 (.cons (.var 0) (.cons (.var 1) (.cons (.lst false (.cons (.cS ("self" : Str)) (.cons (.cS ("nil" : Str)) (.cons (.cS ("yes" : Str)) (.cons (.cS ("no" : Str)) (.nil)))))) (.nil))))) (.nil))))) (.nil)) (.nil)) (.seq (.ife (.cmp .Eq (.var 2) (.cI 3)) (.seq (.ret (.tup (.cons (.cS ("name" : Str)) (.cons (.call 23 (.cons (.var 0) (.cons (.var 1) (.cons (.cS ("ABCDEFGHIJKLMNOPQRSTUVWXYZ" : Str)) (.nil))))) (.nil))))) (.nil)) (.nil)) (.seq (.ret (.tup (.cons (.cS ("name" : Str)) (.cons (.call 24 (.cons (.var 0) (.cons (.var 1) (.nil)))) (.nil))))) (.nil)))))) }
def f_law_tree : Fn := { name := ("_law_tree" : Str), ps := [("script" : Str), ("town" : Str), ("deep" : Str)], N := [("script" : Str), ("town" : Str), ("deep" : Str), ("way" : Str), ("names" : Str), ("more" : Str), ("some" : Str), ("k" : Str), ("message" : Str)], body := .seq (.asg 3 (.ite (.cmp .Gt (.var 2) (.cI 1)) (.call 20 (.cons (.var 0) (.cons (.var 1) (.cons (.cI 10) (.nil))))) (.cI 0))) (.seq (.ife (.cmp .Lt (.var 3) (.cI 2)) (.seq (.ret (.call 27 (.cons (.var 0) (.cons (.var 1) (.nil))))) (.nil)) (.nil)) (.seq (.ife (.cmp .Eq (.var 3) (.cI 2)) (.seq (.ret (.tup (.cons (.cS ("set" : Str)) (.cons (.call 24 (.cons (.var 0) (.cons (.var 1) (.nil)))) (.cons (.call 28 (.cons (.var 0) (.cons (.var 1) (.cons (.bop false .Sub (.var 2) (.cI 1)) (.nil))))) (.nil)))))) (.nil)) (.nil)) (.seq (.ife (.cmp .Eq (.var 3) (.cI 3)) (.seq (.asg 4 (.call 25 (.cons (.var 0) (.cons (.var 1) (.cons (.call 20 (.cons (.var 0) (.cons (.var 1) (.cons (.cI 3) (.nil))))) (.cons (.lst false (.nil)) (.nil))))))) (.seq (.asg 5 (.call 25 (.cons (.var 0) (.cons (.var 1) (.cons (.call 21 (.cons (.var 0) (.cons (.var 1) (.cons (.lst false (.cons (.cI 0) (.cons (.cI 0) (.cons (.cI 1) (.cons (.cI 2) (.nil)))))) (.nil))))) (.cons (.blt false .list (.cons (.var 4) (.nil))) (.nil))))))) (.seq (.ret (.tup (.cons (.cS ("block" : Str)) (.cons (.var 4) (.cons (.var 5) (.cons (.call 30 (.cons (.var 0) (.cons (.var 1) (.cons (.bop false .Sub (.var 2) (.cI 1)) (.cons (.cI 3) (.nil)))))) (.nil))))))) (.nil)))) (.nil)) (.seq (.ife (.cmp .Eq (.var 3) (.cI 4)) (.seq (.ret (.call 29 (.cons (.var 0) (.cons (.var 1) (.cons (.var 2) (.nil)))))) (.nil)) (.nil)) (.seq (.asgC 6 (.lc false [(("k" : Str), 7)] 7 (.rng (.call 21 (.cons (.var 0) (.cons (.var 1) (.cons (.lst false (.cons (.cI 0) (.cons (.cI 0) (.cons (.cI 1) (.cons (.cI 1) (.cons (.cI 1) (.cons (.cI 2) (.cons (.cI 3) (.nil))))))))) (.nil)))))) (.off) (.call 28 (.cons (.var 0) (.cons (.var 1) (.cons (.bop false .Sub (.var 2) (.cI 1)) (.nil))))))) (.seq (.asg 8 (.call 26 (.cons (.var 0) (.cons (.var 1) (.cons (.blt false .len (.cons (.var 6) (.nil))) (.nil)))))) (.seq (.ife (.cmp .Eq (.var 3) (.cI 5)) (.seq (.ret (.tup (.cons (.cS ("super" : Str)) (.cons (.var 8) (.cons (.blt false .tuple (.cons (.var 6) (.nil))) (.nil)))))) (.nil)) (.nil)) (.seq (.ret (.tup (.cons (.cS ("send" : Str)) (.cons (.call 28 (.cons (.var 0) (.cons (.var 1) (.cons (.bop false .Sub (.var 2) (.cI 1)) (.nil))))) (.cons (.var 8) (.cons (.blt false .tuple (.cons (.var 6) (.nil))) (.nil))))))) (.nil))))))))) }
def f_law_placed : Fn := { name := ("_law_placed" : Str), ps := [("script" : Str), ("town" : Str), ("deep" : Str)], N := [("script" : Str), ("town" : Str), ("deep" : Str), ("some" : Str), ("k" : Str), ("way" : Str), ("to" : Str)], body := .seq (.asgC 3 (.lc true [(("k" : Str), 4)] 4 (.rng (.cI 2)) (.off) (.tup (.cons (.cS ("block" : Str)) (.cons (.tup (.nil)) (.cons (.tup (.nil)) (.cons (.call 30 (.cons (.var 0) (.cons (.var 1) (.cons (.bop false .Sub (.var 2) (.cI 1)) (.cons (.cI 2) (.nil)))))) (.nil)))))))) (.seq (.ife (.cmp .Eq (.call 20 (.cons (.var 0) (.cons (.var 1) (.cons (.cI 3) (.nil))))) (.cI 0)) (.seq (.stI (.var 3) (.cI 1) (.call 27 (.cons (.var 0) (.cons (.var 1) (.nil))))) (.nil)) (.nil)) (.seq (.ife (.cmp .Eq (.call 20 (.cons (.var 0) (.cons (.var 1) (.cons (.cI 4) (.nil))))) (.cI 0)) (.seq (.stI (.var 3) (.cI 0) (.tup (.cons (.cS ("block" : Str)) (.cons (.call 25 (.cons (.var 0) (.cons (.var 1) (.cons (.cI 1) (.cons (.lst false (.nil)) (.nil)))))) (.cons (.tup (.nil)) (.cons (.idx (.idx (.var 3) (.cI 0)) (.cI 3)) (.nil))))))) (.nil)) (.nil)) (.seq (.asg 5 (.call 20 (.cons (.var 0) (.cons (.var 1) (.cons (.cI 3) (.nil)))))) (.seq (.ife (.cmp .Eq (.var 5) (.cI 0)) (.seq (.ret (.tup (.cons (.cS ("send" : Str)) (.cons (.idx (.var 3) (.cI 0)) (.cons (.cS ("while:" : Str)) (.cons (.tup (.cons (.idx (.var 3) (.cI 1)) (.nil))) (.nil))))))) (.nil)) (.nil)) (.seq (.asg 6 (.call 27 (.cons (.var 0) (.cons (.var 1) (.nil))))) (.seq (.ret (.ite (.cmp .Eq (.var 5) (.cI 1)) (.tup (.cons (.cS ("send" : Str)) (.cons (.var 6) (.cons (.cS ("then:" : Str)) (.cons (.tup (.cons (.idx (.var 3) (.cI 1)) (.nil))) (.nil)))))) (.tup (.cons (.cS ("send" : Str)) (.cons (.var 6) (.cons (.cS ("then:else:" : Str)) (.cons (.blt false .tuple (.cons (.var 3) (.nil))) (.nil)))))))) (.nil))))))) }
def f_law_body : Fn := { name := ("_law_body" : Str), ps := [("script" : Str), ("town" : Str), ("deep" : Str), ("most" : Str)], N := [("script" : Str), ("town" : Str), ("deep" : Str), ("most" : Str), ("many" : Str), ("found" : Str), ("k" : Str)], body := .seq (.asg 4 (.call 20 (.cons (.var 0) (.cons (.var 1) (.cons (.var 3) (.nil)))))) (.seq (.asgC 5 (.lc true [(("k" : Str), 6)] 6 (.rng (.var 4)) (.off) (.call 28 (.cons (.var 0) (.cons (.var 1) (.cons (.var 2) (.nil))))))) (.seq (.ife (.con .And (.cmp .Eq (.call 20 (.cons (.var 0) (.cons (.var 1) (.cons (.cI 4) (.nil))))) (.cI 0)) (.one (.cmp .Gt (.var 2) (.cI 1)))) (.seq (.exp (.met false .append (.var 5) (.cons (.tup (.cons (.cS ("back" : Str)) (.cons (.call 28 (.cons (.var 0) (.cons (.var 1) (.cons (.bop false .Sub (.var 2) (.cI 1)) (.nil))))) (.nil)))) (.nil)))) (.nil)) (.nil)) (.seq (.ret (.blt false .tuple (.cons (.var 5) (.nil)))) (.nil)))) }
def f_law_method : Fn := { name := ("_law_method" : Str), ps := [("script" : Str), ("town" : Str), ("deep" : Str)], N := [("script" : Str), ("town" : Str), ("deep" : Str), ("many" : Str), ("names" : Str), ("more" : Str)], body := .seq (.asg 3 (.call 20 (.cons (.var 0) (.cons (.var 1) (.cons (.cI 4) (.nil)))))) (.seq (.asg 4 (.call 25 (.cons (.var 0) (.cons (.var 1) (.cons (.var 3) (.cons (.lst false (.nil)) (.nil))))))) (.seq (.asg 5 (.call 25 (.cons (.var 0) (.cons (.var 1) (.cons (.call 21 (.cons (.var 0) (.cons (.var 1) (.cons (.lst false (.cons (.cI 0) (.cons (.cI 0) (.cons (.cI 1) (.cons (.cI 2) (.nil)))))) (.nil))))) (.cons (.blt false .list (.cons (.var 4) (.nil))) (.nil))))))) (.seq (.ret (.tup (.cons (.call 26 (.cons (.var 0) (.cons (.var 1) (.cons (.var 3) (.nil))))) (.cons (.var 4) (.cons (.var 5) (.cons (.call 30 (.cons (.var 0) (.cons (.var 1) (.cons (.var 2) (.cons (.cI 4) (.nil)))))) (.nil))))))) (.nil)))) }
def f_law_rank : Fn := { name := ("_law_rank" : Str), ps := [("tree" : Str)], N := [("tree" : Str)], body := .seq (.ife (.cmp .NotIn (.idx (.var 0) (.cI 0)) (.tup (.cons (.cS ("send" : Str)) (.cons (.cS ("super" : Str)) (.nil))))) (.seq (.ret (.ite (.cmp .Eq (.idx (.var 0) (.cI 0)) (.cS ("set" : Str))) (.cI 4) (.cI 0))) (.nil)) (.nil)) (.seq (.ife (.cmp .In (.idx (.var 0) (.neg (.cI 2))) (.lst false (.cons (.cS ("+" : Str)) (.cons (.cS ("-" : Str)) (.cons (.cS ("*" : Str)) (.cons (.cS ("<" : Str)) (.cons (.cS ("=" : Str)) (.nil)))))))) (.seq (.ret (.cI 2)) (.nil)) (.nil)) (.seq (.ret (.ite (.cmp .In (.cS (":" : Str)) (.idx (.var 0) (.neg (.cI 2)))) (.cI 3) (.cI 1))) (.nil))) }
def f_law_laid : Fn := { name := ("_law_laid" : Str), ps := [("message" : Str), ("parts" : Str)], N := [("message" : Str), ("parts" : Str), ("found" : Str), ("k" : Str)], body := .seq (.ife (.cmp .NotIn (.cS (":" : Str)) (.var 0)) (.seq (.ret (.bop false .Add (.lst false (.cons (.var 0) (.nil))) (.ite (.tru (.var 1)) (.idx (.var 1) (.cI 0)) (.lst false (.nil))))) (.nil)) (.nil)) (.seq (.asg 2 (.lst false (.nil))) (.seq (.fr 3 (.rng (.blt false .len (.cons (.var 1) (.nil)))) (.seq (.asg 2 (.bop false .Add (.bop false .Add (.var 2) (.lst false (.cons (.bop false .Add (.idx (.met false .split (.var 0) (.cons (.cS (":" : Str)) (.nil))) (.var 3)) (.cS (":" : Str))) (.nil)))) (.idx (.var 1) (.var 3)))) (.nil))) (.seq (.ret (.var 2)) (.nil)))) }
def f_law_in : Fn := { name := ("_law_in" : Str), ps := [("script" : Str), ("town" : Str), ("tree" : Str), ("most" : Str), ("free" : Str)], N := [("script" : Str), ("town" : Str), ("tree" : Str), ("most" : Str), ("free" : Str)], body := .seq (.ife (.cmp .Gt (.call 32 (.cons (.var 2) (.nil))) (.var 3)) (.seq (.ret (.bop false .Add (.bop false .Add (.lst false (.cons (.cS ("(" : Str)) (.nil))) (.call 36 (.cons (.var 0) (.cons (.var 1) (.cons (.var 2) (.cons (.var 4) (.nil))))))) (.lst false (.cons (.cS (")" : Str)) (.nil))))) (.nil)) (.nil)) (.seq (.ife (.con .And (.cmp .Gt (.var 4) (.cI 0)) (.one (.cmp .Eq (.call 20 (.cons (.var 0) (.cons (.var 1) (.cons (.cI 6) (.nil))))) (.cI 0)))) (.seq (.ret (.bop false .Add (.bop false .Add (.lst false (.cons (.cS ("(" : Str)) (.nil))) (.call 34 (.cons (.var 0) (.cons (.var 1) (.cons (.var 2) (.cons (.cI 4) (.cons (.bop false .Sub (.var 4) (.cI 1)) (.nil)))))))) (.lst false (.cons (.cS (")" : Str)) (.nil))))) (.nil)) (.nil)) (.seq (.ret (.call 36 (.cons (.var 0) (.cons (.var 1) (.cons (.var 2) (.cons (.var 4) (.nil))))))) (.nil))) }
def f_law_row : Fn := { name := ("_law_row" : Str), ps := [("script" : Str), ("town" : Str), ("more" : Str), ("body" : Str), ("free" : Str)], N := [("script" : Str), ("town" : Str), ("more" : Str), ("body" : Str), ("free" : Str), ("found" : Str), ("k" : Str)], body := .seq (.asg 5 (.ite (.cmp .NotEq (.var 2) (.tup (.nil))) (.bop false .Add (.bop false .Add (.lst false (.cons (.cS ("|" : Str)) (.nil))) (.blt false .list (.cons (.var 2) (.nil)))) (.lst false (.cons (.cS ("|" : Str)) (.nil)))) (.lst false (.nil)))) (.seq (.fr 6 (.rng (.blt false .len (.cons (.var 3) (.nil)))) (.seq (.asg 5 (.bop false .Add (.var 5) (.ite (.cmp .Gt (.var 6) (.cI 0)) (.lst false (.cons (.cS ("." : Str)) (.nil))) (.lst false (.nil))))) (.seq (.ife (.cmp .Eq (.idx (.idx (.var 3) (.var 6)) (.cI 0)) (.cS ("back" : Str))) (.seq (.asg 5 (.bop false .Add (.bop false .Add (.var 5) (.lst false (.cons (.cS ("^" : Str)) (.nil)))) (.call 34 (.cons (.var 0) (.cons (.var 1) (.cons (.idx (.idx (.var 3) (.var 6)) (.cI 1)) (.cons (.cI 4) (.cons (.var 4) (.nil))))))))) (.nil)) (.seq (.asg 5 (.bop false .Add (.var 5) (.call 34 (.cons (.var 0) (.cons (.var 1) (.cons (.idx (.var 3) (.var 6)) (.cons (.cI 4) (.cons (.var 4) (.nil))))))))) (.nil))) (.nil)))) (.seq (.ret (.var 5)) (.nil))) }
def f_law_words : Fn := { name := ("_law_words" : Str), ps := [("script" : Str), ("town" : Str), ("tree" : Str), ("free" : Str)], N := [("script" : Str), ("town" : Str), ("tree" : Str), ("free" : Str), ("names" : Str), ("name" : Str), ("rank" : Str), ("first" : Str), ("parts" : Str), ("one" : Str)], body := .seq (.ife (.cmp .In (.idx (.var 2) (.cI 0)) (.tup (.cons (.cS ("number" : Str)) (.cons (.cS ("name" : Str)) (.nil))))) (.seq (.ret (.lst false (.cons (.blt false .str (.cons (.idx (.var 2) (.cI 1)) (.nil))) (.nil)))) (.nil)) (.nil)) (.seq (.ife (.cmp .Eq (.idx (.var 2) (.cI 0)) (.cS ("word" : Str))) (.seq (.ret (.lst false (.cons (.bop false .Add (.cS ("#" : Str)) (.idx (.var 2) (.cI 1))) (.nil)))) (.nil)) (.nil)) (.seq (.ife (.cmp .Eq (.idx (.var 2) (.cI 0)) (.cS ("set" : Str))) (.seq (.ret (.bop false .Add (.lst false (.cons (.idx (.var 2) (.cI 1)) (.cons (.cS (":=" : Str)) (.nil)))) (.call 34 (.cons (.var 0) (.cons (.var 1) (.cons (.idx (.var 2) (.cI 2)) (.cons (.cI 4) (.cons (.var 3) (.nil))))))))) (.nil)) (.nil)) (.seq (.ife (.cmp .Eq (.idx (.var 2) (.cI 0)) (.cS ("block" : Str))) (.seq (.asgC 4 (.lc false [(("name" : Str), 5)] 5 (.itr (.idx (.var 2) (.cI 1))) (.off) (.bop false .Add (.cS (":" : Str)) (.var 5)))) (.seq (.asg 4 (.ite (.cmp .NotEq (.var 4) (.lst false (.nil))) (.bop false .Add (.var 4) (.lst false (.cons (.cS ("|" : Str)) (.nil)))) (.lst false (.nil)))) (.seq (.ret (.bop false .Add (.bop false .Add (.bop false .Add (.lst false (.cons (.cS ("[" : Str)) (.nil))) (.var 4)) (.call 35 (.cons (.var 0) (.cons (.var 1) (.cons (.idx (.var 2) (.cI 2)) (.cons (.idx (.var 2) (.cI 3)) (.cons (.var 3) (.nil)))))))) (.lst false (.cons (.cS ("]" : Str)) (.nil))))) (.nil)))) (.nil)) (.seq (.asg 6 (.call 32 (.cons (.var 2) (.nil)))) (.seq (.asg 7 (.lst false (.cons (.cS ("super" : Str)) (.nil)))) (.seq (.ife (.cmp .Eq (.idx (.var 2) (.cI 0)) (.cS ("send" : Str))) (.seq (.asg 7 (.call 34 (.cons (.var 0) (.cons (.var 1) (.cons (.idx (.var 2) (.cI 1)) (.cons (.idx (.lst false (.cons (.cI 0) (.cons (.cI 1) (.cons (.cI 2) (.cons (.cI 2) (.nil)))))) (.var 6)) (.cons (.var 3) (.nil)))))))) (.nil)) (.nil)) (.seq (.asgC 8 (.lc false [(("one" : Str), 9)] 9 (.itr (.idx (.var 2) (.neg (.cI 1)))) (.off) (.call 34 (.cons (.var 0) (.cons (.var 1) (.cons (.var 9) (.cons (.bop false .Sub (.var 6) (.cI 1)) (.cons (.var 3) (.nil))))))))) (.seq (.ret (.bop false .Add (.var 7) (.call 33 (.cons (.idx (.var 2) (.neg (.cI 2))) (.cons (.var 8) (.nil)))))) (.nil))))))))) }
def f_law_text : Fn := { name := ("_law_text" : Str), ps := [("script" : Str), ("town" : Str), ("method" : Str), ("free" : Str)], N := [("script" : Str), ("town" : Str), ("method" : Str), ("free" : Str), ("words" : Str), ("name" : Str)], body := .seq (.asg 4 (.call 33 (.cons (.idx (.var 2) (.cI 0)) (.cons (.lc false [(("name" : Str), 5)] 5 (.itr (.idx (.var 2) (.cI 1))) (.off) (.lst false (.cons (.var 5) (.nil)))) (.nil))))) (.seq (.ret (.bop false .Add (.var 4) (.call 35 (.cons (.var 0) (.cons (.var 1) (.cons (.idx (.var 2) (.cI 2)) (.cons (.idx (.var 2) (.cI 3)) (.cons (.var 3) (.nil))))))))) (.nil)) }
def f_law_told : Fn := { name := ("_law_told" : Str), ps := [("method" : Str)], N := [("method" : Str), ("held" : Str), ("found" : Str), ("e" : Str)], body := .seq (.asg 1 (.cN)) (.seq (.asg 2 (.cN)) (.seq (.tryK (.seq (.asg 2 (.call 17 (.cons (.var 0) (.nil)))) (.nil)) ("HouseError" : Str) [(("BadTree" : Str), true)] 3 1) (.seq (.ret (.ite (.cmp .Is (.var 1) (.cN)) (.var 2) (.call 22 (.cons (.var 1) (.nil))))) (.nil)))) }
def f_law : Fn := { name := ("law" : Str), ps := [("script" : Str)], N := [("script" : Str), ("town" : Str), ("method" : Str), ("bad" : Str)], body := .seq (.asg 1 (.lst true (.nil))) (.seq (.asg 2 (.call 31 (.cons (.var 0) (.cons (.var 1) (.cons (.cI 4) (.nil)))))) (.seq (.ife (.cmp .NotEq (.call 38 (.cons (.var 2) (.nil))) (.met false .join (.cS (" " : Str)) (.cons (.call 37 (.cons (.var 0) (.cons (.var 1) (.cons (.var 2) (.cons (.cI 0) (.nil)))))) (.nil)))) (.seq (.ret (.cB false)) (.nil)) (.nil)) (.seq (.asg 3 (.idx (.lst false (.cons (.tup (.cons (.cS ("a" : Str)) (.cons (.tup (.cons (.cS ("a" : Str)) (.nil))) (.cons (.tup (.nil)) (.cons (.tup (.nil)) (.nil)))))) (.cons (.tup (.cons (.cS ("a" : Str)) (.cons (.tup (.nil)) (.cons (.tup (.nil)) (.cons (.tup (.cons (.tup (.cons (.cS ("number" : Str)) (.cons (.neg (.cI 1)) (.nil)))) (.nil))) (.nil)))))) (.cons (.tup (.cons (.cS ("a" : Str)) (.nil))) (.nil))))) (.call 20 (.cons (.var 0) (.cons (.var 1) (.cons (.cI 3) (.nil))))))) (.seq (.ret (.cmp .Eq (.call 38 (.cons (.var 3) (.nil))) (.tup (.cons (.cS ("refused" : Str)) (.cons (.cS ("tree" : Str)) (.nil)))))) (.nil))))) }
def T : Tab := { fns := [f_is_worded, f_is_name, f_is_class_name, f_words_of, f_arity_of, f_must, f_inner_trees, f_look_names, f_look_body, f_look_tree, f_look_method, f_rank_of, f_tree_rank, f_laid_words, f_bracketed, f_body_words, f_tree_words, f_written_method, f_law_cell, f_law_mix, f_law_draw, f_law_pick, f_law_refusal, f_law_word, f_law_name, f_law_names, f_law_message, f_law_leaf, f_law_tree, f_law_placed, f_law_body, f_law_method, f_law_rank, f_law_laid, f_law_in, f_law_row, f_law_words, f_law_text, f_law_told, f_law], cst := [(("SMALL" : Str), .str ("abcdefghijklmnopqrstuvwxyz" : Str)), (("GREAT" : Str), .str ("ABCDEFGHIJKLMNOPQRSTUVWXYZ" : Str)), (("FIGURES" : Str), .str ("0123456789" : Str)), (("SIGNS" : Str), .str ("+-*<=" : Str)), (("KEPT" : Str), .cst [.str ("self" : Str), .str ("super" : Str), .str ("nil" : Str), .str ("yes" : Str), .str ("no" : Str)]), (("MOST_SIGNS" : Str), .int 12), (("MOST_WORDS" : Str), .int 3), (("PLAIN" : Str), .cst [.str ("self" : Str), .str ("nil" : Str), .str ("yes" : Str), .str ("no" : Str)]), (("MOST_NUMBER" : Str), .int 999999), (("MOST_DEEP" : Str), .int 12), (("MOST_PARAMS" : Str), .int 2)], blt := [("ValueError" : Str), ("all" : Str), ("isinstance" : Str), ("len" : Str), ("list" : Str), ("min" : Str), ("range" : Str), ("set" : Str), ("str" : Str), ("tuple" : Str)], exc := [("BadTree" : Str)], dct := [(("LENGTHS" : Str), [(("number" : Str), .inl 2), (("word" : Str), .inl 2), (("name" : Str), .inl 2), (("set" : Str), .inl 3), (("send" : Str), .inl 4), (("super" : Str), .inl 3), (("block" : Str), .inl 4), (("back" : Str), .inl 2)])], cls := [("ValueError" : Str), ("BadCodes" : Str), ("BadRun" : Str), ("BadClass" : Str), ("BadName" : Str), ("BadText" : Str), ("BadTree" : Str), ("HouseError" : Str)], sub := [((("BadTree" : Str), ("ValueError" : Str)), true), ((("BadTree" : Str), ("BadCodes" : Str)), false), ((("BadTree" : Str), ("BadRun" : Str)), false), ((("BadTree" : Str), ("BadClass" : Str)), false), ((("BadTree" : Str), ("BadName" : Str)), false), ((("BadTree" : Str), ("BadText" : Str)), false), ((("BadTree" : Str), ("BadTree" : Str)), true), ((("BadTree" : Str), ("HouseError" : Str)), true)] }
/-- the text by places -/
def top (i : Nat) : Stmt := PySem.Challenge.pw_thinghall_k10_whole_written.main.body.getD i (.Pass ⟨0, 0, 0, 0⟩)
abbrev s_is_worded : Stmt := top 8
abbrev s_is_name : Stmt := top 9
abbrev s_is_class_name : Stmt := top 10
abbrev s_words_of : Stmt := top 11
abbrev s_arity_of : Stmt := top 12
abbrev s_must : Stmt := top 27
abbrev s_inner_trees : Stmt := top 28
abbrev s_look_names : Stmt := top 29
abbrev s_look_body : Stmt := top 30
abbrev s_look_tree : Stmt := top 31
abbrev s_look_method : Stmt := top 32
abbrev s_rank_of : Stmt := top 34
abbrev s_tree_rank : Stmt := top 35
abbrev s_laid_words : Stmt := top 36
abbrev s_bracketed : Stmt := top 37
abbrev s_body_words : Stmt := top 38
abbrev s_tree_words : Stmt := top 39
abbrev s_written_method : Stmt := top 40
abbrev s_law_cell : Stmt := top 42
abbrev s_law_mix : Stmt := top 43
abbrev s_law_draw : Stmt := top 44
abbrev s_law_pick : Stmt := top 45
abbrev s_law_refusal : Stmt := top 46
abbrev s_law_word : Stmt := top 47
abbrev s_law_name : Stmt := top 48
abbrev s_law_names : Stmt := top 49
abbrev s_law_message : Stmt := top 50
abbrev s_law_leaf : Stmt := top 51
abbrev s_law_tree : Stmt := top 52
abbrev s_law_placed : Stmt := top 53
abbrev s_law_body : Stmt := top 54
abbrev s_law_method : Stmt := top 55
abbrev s_law_rank : Stmt := top 56
abbrev s_law_laid : Stmt := top 57
abbrev s_law_in : Stmt := top 58
abbrev s_law_row : Stmt := top 59
abbrev s_law_words : Stmt := top 60
abbrev s_law_text : Stmt := top 61
abbrev s_law_told : Stmt := top 62
abbrev s_law : Stmt := top 63
theorem ck_is_worded : chkS T f_is_worded.N (defScope s_is_worded) f_is_worded.body (defBody s_is_worded) = true := by decide +kernel
theorem sc_is_worded : FnScope f_is_worded.N f_is_worded.ps (defScope s_is_worded) := ⟨rfl, rfl, rfl, by decide +kernel, rfl, by decide +kernel, by decide +kernel⟩
theorem ck_is_name : chkS T f_is_name.N (defScope s_is_name) f_is_name.body (defBody s_is_name) = true := by decide +kernel
theorem sc_is_name : FnScope f_is_name.N f_is_name.ps (defScope s_is_name) := ⟨rfl, rfl, rfl, by decide +kernel, rfl, by decide +kernel, by decide +kernel⟩
theorem ck_is_class_name : chkS T f_is_class_name.N (defScope s_is_class_name) f_is_class_name.body (defBody s_is_class_name) = true := by decide +kernel
theorem sc_is_class_name : FnScope f_is_class_name.N f_is_class_name.ps (defScope s_is_class_name) := ⟨rfl, rfl, rfl, by decide +kernel, rfl, by decide +kernel, by decide +kernel⟩
theorem ck_words_of : chkS T f_words_of.N (defScope s_words_of) f_words_of.body (defBody s_words_of) = true := by decide +kernel
theorem sc_words_of : FnScope f_words_of.N f_words_of.ps (defScope s_words_of) := ⟨rfl, rfl, rfl, by decide +kernel, rfl, by decide +kernel, by decide +kernel⟩
theorem ck_arity_of : chkS T f_arity_of.N (defScope s_arity_of) f_arity_of.body (defBody s_arity_of) = true := by decide +kernel
theorem sc_arity_of : FnScope f_arity_of.N f_arity_of.ps (defScope s_arity_of) := ⟨rfl, rfl, rfl, by decide +kernel, rfl, by decide +kernel, by decide +kernel⟩
theorem ck_must : chkS T f_must.N (defScope s_must) f_must.body (defBody s_must) = true := by decide +kernel
theorem sc_must : FnScope f_must.N f_must.ps (defScope s_must) := ⟨rfl, rfl, rfl, by decide +kernel, rfl, by decide +kernel, by decide +kernel⟩
theorem ck_inner_trees : chkS T f_inner_trees.N (defScope s_inner_trees) f_inner_trees.body (defBody s_inner_trees) = true := by decide +kernel
theorem sc_inner_trees : FnScope f_inner_trees.N f_inner_trees.ps (defScope s_inner_trees) := ⟨rfl, rfl, rfl, by decide +kernel, rfl, by decide +kernel, by decide +kernel⟩
theorem ck_look_names : chkS T f_look_names.N (defScope s_look_names) f_look_names.body (defBody s_look_names) = true := by decide +kernel
theorem sc_look_names : FnScope f_look_names.N f_look_names.ps (defScope s_look_names) := ⟨rfl, rfl, rfl, by decide +kernel, rfl, by decide +kernel, by decide +kernel⟩
theorem ck_look_body : chkS T f_look_body.N (defScope s_look_body) f_look_body.body (defBody s_look_body) = true := by decide +kernel
theorem sc_look_body : FnScope f_look_body.N f_look_body.ps (defScope s_look_body) := ⟨rfl, rfl, rfl, by decide +kernel, rfl, by decide +kernel, by decide +kernel⟩
theorem ck_look_tree : chkS T f_look_tree.N (defScope s_look_tree) f_look_tree.body (defBody s_look_tree) = true := by decide +kernel
theorem sc_look_tree : FnScope f_look_tree.N f_look_tree.ps (defScope s_look_tree) := ⟨rfl, rfl, rfl, by decide +kernel, rfl, by decide +kernel, by decide +kernel⟩
theorem ck_look_method : chkS T f_look_method.N (defScope s_look_method) f_look_method.body (defBody s_look_method) = true := by decide +kernel
theorem sc_look_method : FnScope f_look_method.N f_look_method.ps (defScope s_look_method) := ⟨rfl, rfl, rfl, by decide +kernel, rfl, by decide +kernel, by decide +kernel⟩
theorem ck_rank_of : chkS T f_rank_of.N (defScope s_rank_of) f_rank_of.body (defBody s_rank_of) = true := by decide +kernel
theorem sc_rank_of : FnScope f_rank_of.N f_rank_of.ps (defScope s_rank_of) := ⟨rfl, rfl, rfl, by decide +kernel, rfl, by decide +kernel, by decide +kernel⟩
theorem ck_tree_rank : chkS T f_tree_rank.N (defScope s_tree_rank) f_tree_rank.body (defBody s_tree_rank) = true := by decide +kernel
theorem sc_tree_rank : FnScope f_tree_rank.N f_tree_rank.ps (defScope s_tree_rank) := ⟨rfl, rfl, rfl, by decide +kernel, rfl, by decide +kernel, by decide +kernel⟩
theorem ck_laid_words : chkS T f_laid_words.N (defScope s_laid_words) f_laid_words.body (defBody s_laid_words) = true := by decide +kernel
theorem sc_laid_words : FnScope f_laid_words.N f_laid_words.ps (defScope s_laid_words) := ⟨rfl, rfl, rfl, by decide +kernel, rfl, by decide +kernel, by decide +kernel⟩
theorem ck_bracketed : chkS T f_bracketed.N (defScope s_bracketed) f_bracketed.body (defBody s_bracketed) = true := by decide +kernel
theorem sc_bracketed : FnScope f_bracketed.N f_bracketed.ps (defScope s_bracketed) := ⟨rfl, rfl, rfl, by decide +kernel, rfl, by decide +kernel, by decide +kernel⟩
theorem ck_body_words : chkS T f_body_words.N (defScope s_body_words) f_body_words.body (defBody s_body_words) = true := by decide +kernel
theorem sc_body_words : FnScope f_body_words.N f_body_words.ps (defScope s_body_words) := ⟨rfl, rfl, rfl, by decide +kernel, rfl, by decide +kernel, by decide +kernel⟩
theorem ck_tree_words : chkS T f_tree_words.N (defScope s_tree_words) f_tree_words.body (defBody s_tree_words) = true := by decide +kernel
theorem sc_tree_words : FnScope f_tree_words.N f_tree_words.ps (defScope s_tree_words) := ⟨rfl, rfl, rfl, by decide +kernel, rfl, by decide +kernel, by decide +kernel⟩
theorem ck_written_method : chkS T f_written_method.N (defScope s_written_method) f_written_method.body (defBody s_written_method) = true := by decide +kernel
theorem sc_written_method : FnScope f_written_method.N f_written_method.ps (defScope s_written_method) := ⟨rfl, rfl, rfl, by decide +kernel, rfl, by decide +kernel, by decide +kernel⟩
theorem ck_law_cell : chkS T f_law_cell.N (defScope s_law_cell) f_law_cell.body (defBody s_law_cell) = true := by decide +kernel
theorem sc_law_cell : FnScope f_law_cell.N f_law_cell.ps (defScope s_law_cell) := ⟨rfl, rfl, rfl, by decide +kernel, rfl, by decide +kernel, by decide +kernel⟩
theorem ck_law_mix : chkS T f_law_mix.N (defScope s_law_mix) f_law_mix.body (defBody s_law_mix) = true := by decide +kernel
theorem sc_law_mix : FnScope f_law_mix.N f_law_mix.ps (defScope s_law_mix) := ⟨rfl, rfl, rfl, by decide +kernel, rfl, by decide +kernel, by decide +kernel⟩
theorem ck_law_draw : chkS T f_law_draw.N (defScope s_law_draw) f_law_draw.body (defBody s_law_draw) = true := by decide +kernel
theorem sc_law_draw : FnScope f_law_draw.N f_law_draw.ps (defScope s_law_draw) := ⟨rfl, rfl, rfl, by decide +kernel, rfl, by decide +kernel, by decide +kernel⟩
theorem ck_law_pick : chkS T f_law_pick.N (defScope s_law_pick) f_law_pick.body (defBody s_law_pick) = true := by decide +kernel
theorem sc_law_pick : FnScope f_law_pick.N f_law_pick.ps (defScope s_law_pick) := ⟨rfl, rfl, rfl, by decide +kernel, rfl, by decide +kernel, by decide +kernel⟩
theorem ck_law_refusal : chkS T f_law_refusal.N (defScope s_law_refusal) f_law_refusal.body (defBody s_law_refusal) = true := by decide +kernel
theorem sc_law_refusal : FnScope f_law_refusal.N f_law_refusal.ps (defScope s_law_refusal) := ⟨rfl, rfl, rfl, by decide +kernel, rfl, by decide +kernel, by decide +kernel⟩
theorem ck_law_word : chkS T f_law_word.N (defScope s_law_word) f_law_word.body (defBody s_law_word) = true := by decide +kernel
theorem sc_law_word : FnScope f_law_word.N f_law_word.ps (defScope s_law_word) := ⟨rfl, rfl, rfl, by decide +kernel, rfl, by decide +kernel, by decide +kernel⟩
theorem ck_law_name : chkS T f_law_name.N (defScope s_law_name) f_law_name.body (defBody s_law_name) = true := by decide +kernel
theorem sc_law_name : FnScope f_law_name.N f_law_name.ps (defScope s_law_name) := ⟨rfl, rfl, rfl, by decide +kernel, rfl, by decide +kernel, by decide +kernel⟩
theorem ck_law_names : chkS T f_law_names.N (defScope s_law_names) f_law_names.body (defBody s_law_names) = true := by decide +kernel
theorem sc_law_names : FnScope f_law_names.N f_law_names.ps (defScope s_law_names) := ⟨rfl, rfl, rfl, by decide +kernel, rfl, by decide +kernel, by decide +kernel⟩
theorem ck_law_message : chkS T f_law_message.N (defScope s_law_message) f_law_message.body (defBody s_law_message) = true := by decide +kernel
theorem sc_law_message : FnScope f_law_message.N f_law_message.ps (defScope s_law_message) := ⟨rfl, rfl, rfl, by decide +kernel, rfl, by decide +kernel, by decide +kernel⟩
theorem ck_law_leaf : chkS T f_law_leaf.N (defScope s_law_leaf) f_law_leaf.body (defBody s_law_leaf) = true := by decide +kernel
theorem sc_law_leaf : FnScope f_law_leaf.N f_law_leaf.ps (defScope s_law_leaf) := ⟨rfl, rfl, rfl, by decide +kernel, rfl, by decide +kernel, by decide +kernel⟩
theorem ck_law_tree : chkS T f_law_tree.N (defScope s_law_tree) f_law_tree.body (defBody s_law_tree) = true := by decide +kernel
theorem sc_law_tree : FnScope f_law_tree.N f_law_tree.ps (defScope s_law_tree) := ⟨rfl, rfl, rfl, by decide +kernel, rfl, by decide +kernel, by decide +kernel⟩
theorem ck_law_placed : chkS T f_law_placed.N (defScope s_law_placed) f_law_placed.body (defBody s_law_placed) = true := by decide +kernel
theorem sc_law_placed : FnScope f_law_placed.N f_law_placed.ps (defScope s_law_placed) := ⟨rfl, rfl, rfl, by decide +kernel, rfl, by decide +kernel, by decide +kernel⟩
theorem ck_law_body : chkS T f_law_body.N (defScope s_law_body) f_law_body.body (defBody s_law_body) = true := by decide +kernel
theorem sc_law_body : FnScope f_law_body.N f_law_body.ps (defScope s_law_body) := ⟨rfl, rfl, rfl, by decide +kernel, rfl, by decide +kernel, by decide +kernel⟩
theorem ck_law_method : chkS T f_law_method.N (defScope s_law_method) f_law_method.body (defBody s_law_method) = true := by decide +kernel
theorem sc_law_method : FnScope f_law_method.N f_law_method.ps (defScope s_law_method) := ⟨rfl, rfl, rfl, by decide +kernel, rfl, by decide +kernel, by decide +kernel⟩
theorem ck_law_rank : chkS T f_law_rank.N (defScope s_law_rank) f_law_rank.body (defBody s_law_rank) = true := by decide +kernel
theorem sc_law_rank : FnScope f_law_rank.N f_law_rank.ps (defScope s_law_rank) := ⟨rfl, rfl, rfl, by decide +kernel, rfl, by decide +kernel, by decide +kernel⟩
theorem ck_law_laid : chkS T f_law_laid.N (defScope s_law_laid) f_law_laid.body (defBody s_law_laid) = true := by decide +kernel
theorem sc_law_laid : FnScope f_law_laid.N f_law_laid.ps (defScope s_law_laid) := ⟨rfl, rfl, rfl, by decide +kernel, rfl, by decide +kernel, by decide +kernel⟩
theorem ck_law_in : chkS T f_law_in.N (defScope s_law_in) f_law_in.body (defBody s_law_in) = true := by decide +kernel
theorem sc_law_in : FnScope f_law_in.N f_law_in.ps (defScope s_law_in) := ⟨rfl, rfl, rfl, by decide +kernel, rfl, by decide +kernel, by decide +kernel⟩
theorem ck_law_row : chkS T f_law_row.N (defScope s_law_row) f_law_row.body (defBody s_law_row) = true := by decide +kernel
theorem sc_law_row : FnScope f_law_row.N f_law_row.ps (defScope s_law_row) := ⟨rfl, rfl, rfl, by decide +kernel, rfl, by decide +kernel, by decide +kernel⟩
theorem ck_law_words : chkS T f_law_words.N (defScope s_law_words) f_law_words.body (defBody s_law_words) = true := by decide +kernel
theorem sc_law_words : FnScope f_law_words.N f_law_words.ps (defScope s_law_words) := ⟨rfl, rfl, rfl, by decide +kernel, rfl, by decide +kernel, by decide +kernel⟩
theorem ck_law_text : chkS T f_law_text.N (defScope s_law_text) f_law_text.body (defBody s_law_text) = true := by decide +kernel
theorem sc_law_text : FnScope f_law_text.N f_law_text.ps (defScope s_law_text) := ⟨rfl, rfl, rfl, by decide +kernel, rfl, by decide +kernel, by decide +kernel⟩
theorem ck_law_told : chkS T f_law_told.N (defScope s_law_told) f_law_told.body (defBody s_law_told) = true := by decide +kernel
theorem sc_law_told : FnScope f_law_told.N f_law_told.ps (defScope s_law_told) := ⟨rfl, rfl, rfl, by decide +kernel, rfl, by decide +kernel, by decide +kernel⟩
theorem ck_law : chkS T f_law.N (defScope s_law) f_law.body (defBody s_law) = true := by decide +kernel
theorem sc_law : FnScope f_law.N f_law.ps (defScope s_law) := ⟨rfl, rfl, rfl, by decide +kernel, rfl, by decide +kernel, by decide +kernel⟩
end K10

namespace K10
open PySem L2 ML
def smallS : Str := "abcdefghijklmnopqrstuvwxyz"
def greatS : Str := "ABCDEFGHIJKLMNOPQRSTUVWXYZ"
def figS : Str := "0123456789"
def signS : Str := "+-*<="
def kept : List Str := ["self", "super", "nil", "yes", "no"]
theorem g0 : (gvs T)[0]? = some (.str smallS) := rfl
theorem g1 : (gvs T)[1]? = some (.str greatS) := rfl
theorem g2 : (gvs T)[2]? = some (.str figS) := rfl
theorem g3 : (gvs T)[3]? = some (.str signS) := rfl
theorem g4 : (gvs T)[4]? = some (.cst (kept.map D.str)) := rfl
theorem g5 : (gvs T)[5]? = some (.int 12) := rfl
theorem g6 : (gvs T)[6]? = some (.int 3) := rfl
/-! ### is_worded -/
def inAll (s : Str) : Bool := s.cps.toList.all fun c => subIn (oneStr c) (smallS ++ greatS ++ figS)
def isWorded (s f : Str) : Bool := decide (1 ≤ s.length) && decide (s.length ≤ 12) && subIn (oneStr (s.cps.toList.headD 0)) f && inAll s
theorem len_all : (smallS ++ greatS).length + figS.length ≤ 1000 ∧ smallS.length + greatS.length ≤ 1000 := by decide +kernel
theorem turn_ups {env : ML.Env} {vs : List Nat} {i : Nat} {ft : ML.Env → M Bool} {fe : ML.Env → M D} {x : D} {S : Store} {d : D} (h1 : ft ((wipeE env vs).set i (some x)) S = .ok true S) (h2 : Ups (fe ((wipeE env vs).set i (some x)) S) S d) : Ups (turnC env vs i ft fe x S) S (some d) := by
  obtain ⟨u, e, G⟩ := h2
  refine ⟨u, ?_, G⟩
  unfold turnC M.bind
  rw [h1]
  show ((fe _ S).andThen _) = _
  rw [e]
  rfl
theorem first_ix {s : Str} (h : 1 ≤ s.length) : atI s.cps.toList 0 = some (s.cps.toList.headD 0) := by
  have hl := len_cps s
  cases e : s.cps.toList with
  | nil => rw [e] at hl; simp at hl; omega
  | cons a r => exact atI_nat' (k := 0) rfl
theorem dle1 {s : Str} : decide ((1 : Int) ≤ (s.length : Int)) = decide (1 ≤ s.length) := by congr 1; exact propext (by omega)
theorem dle12 {s : Str} : decide ((s.length : Int) ≤ 12) = decide (s.length ≤ 12) := by congr 1; exact propext (by omega)
theorem signs_len {s : Str} (hl : s.length ≤ 1000) : (signs s).length < nMax := by unfold signs; rw [List.length_map, len_cps]; exact Nat.lt_of_le_of_lt hl (by decide)
theorem src_str {S : Store} {s : Str} (hl : s.length ≤ 1000) : srcOf S (.str s) = some (.vals (signs s)) := if_pos (Nat.le_trans hl (by decide))
def asStr (f : Str → Bool) : D → D
  | .str z => .bl (f z)
  | _ => .non
theorem signs_map {f : Str → Bool} {s : Str} : (signs s).map (asStr f) = s.cps.toList.map fun c => .bl (f (oneStr c)) := by
  unfold signs
  rw [List.map_map]
  rfl
theorem ok_is_worded {n : Nat} {s f : Str} {S : Store} (hS : S.WF) (hl : s.length ≤ 1000) : Ups (sem T (n + 1) 0 [.str s, .str f] S) S (.bl (isWorded s f)) := by
  refine .of ?_
  show wpr (endF (evS (sem T n) (gvs T) f_is_worded.body [some (.str s), some (.str f), none] S)) _ _
  rw [wrs_end]
  simp only [f_is_worded, wrs_seq, wS_ife, wS_ret, wS_nil, wT_or, wT_nt, wT_chn, wT_one, wT_cmp, wE_cI, wE_cB, wE_blt, wE_var, wE_glb, wE_idx, wA_cons, wA_nil, b_len_str hl, c_le, ix_str hl, c_notin_str, wpO, wpF, wE_lc, wI_itr, g5,
    List.getElem?_cons_zero, List.getElem?_cons_succ, Option.join_some, dle1, dle12, src_str hl]
  by_cases h1 : 1 ≤ s.length
  · rw [decide_eq_true h1, first_ix h1]
    by_cases h2 : s.length ≤ 12
    · rw [decide_eq_true h2]
      simp only [Bool.not_true, Bool.false_eq_true, if_false, if_true, Option.map_some, c_notin_str]
      cases h3 : subIn (oneStr (s.cps.toList.headD 0)) f with
      | false =>
        simp only [Bool.not_false, if_true]
        exact ⟨congrArg D.bl (by unfold isWorded; rw [h3, Bool.and_false, Bool.false_and]), .refl hS⟩
      | true =>
        simp only [Bool.not_true, Bool.false_eq_true, if_false]
        refine (compM_map (asStr fun z => subIn z (smallS ++ greatS ++ figS)) hS (signs_len hl) fun x hx S' hS' => ?_).wpr fun S1 G1 => ?_
        · unfold signs at hx
          obtain ⟨c, _, rfl⟩ := List.mem_map.mp hx
          refine turn_ups rfl (.of ?_)
          simp only [wE_cmp, wE_var, wE_bop, wE_glb, List.map, wipeE, List.set, List.getElem?_cons_zero, List.getElem?_cons_succ, Option.join_some, wpO, wpF, g0, g1, g2, add_str len_all.1, add_str len_all.2, c_in_str]
          exact ⟨rfl, .refl hS'⟩
        · rw [signs_map, b_all]
          exact ⟨congrArg D.bl (by unfold isWorded; rw [decide_eq_true h1, decide_eq_true h2, h3]; rfl), G1⟩
    · rw [decide_eq_false h2]
      simp only [Bool.not_false, if_true]
      exact ⟨by simp [isWorded, h1, h2], .refl hS⟩
  · rw [decide_eq_false h1]
    simp only [Bool.false_eq_true, if_false, Bool.not_false, if_true]
    exact ⟨by simp [isWorded, h1], .refl hS⟩
/-! ### is_name, is_class_name -/
def isName (s : Str) : Bool := isWorded s smallS && !decide (s ∈ kept)
theorem ok_is_name {n : Nat} {s : Str} {S : Store} (hS : S.WF) (hl : s.length ≤ 1000) : Ups (sem T (n + 2) 1 [.str s] S) S (.bl (isName s)) := by
  refine .of ?_
  show wpr (endF (evS (sem T (n + 1)) (gvs T) f_is_name.body [some (.str s)] S)) _ _
  rw [wrs_end]
  simp only [f_is_name, wrs_seq, wS_ret, wS_nil, wE_and, wE_one, wE_call, wE_var, wE_glb, wE_cmp, wA_cons, wA_nil, wpO, g0, g4, List.getElem?_cons_zero, List.getElem?_cons_succ, Option.join_some]
  refine (ok_is_worded hS hl).wpr fun S1 G1 => ?_
  rw [t_bl]
  simp only [c_notin_txt (show seqOf _ (D.cst (kept.map D.str)) = some (kept.map D.str) from rfl)]
  cases h : isWorded s smallS with
  | true => exact ⟨by simp [isName, h], G1⟩
  | false => exact ⟨by simp [isName, h], G1⟩
theorem ok_is_class_name {n : Nat} {s : Str} {S : Store} (hS : S.WF) (hl : s.length ≤ 1000) : Ups (sem T (n + 2) 2 [.str s] S) S (.bl (isWorded s greatS)) := by
  refine .of ?_
  show wpr (endF (evS (sem T (n + 1)) (gvs T) f_is_class_name.body [some (.str s)] S)) _ _
  rw [wrs_end]
  simp only [f_is_class_name, wrs_seq, wS_ret, wS_nil, wE_call, wE_var, wE_glb, wA_cons, wA_nil, wpO, g1, List.getElem?_cons_zero, List.getElem?_cons_succ, Option.join_some]
  exact (ok_is_worded hS hl).wpr fun S1 G1 => ⟨rfl, G1⟩
end K10
namespace K10
open PySem L2 ML
/-! ### words_of -/
/-- the pieces between colons -/
def pcs (l : List Nat) : List (List Nat) := TL.spl [58] 0 [] l
theorem pcs_none {l : List Nat} (h : 58 ∉ l) : pcs l = [l] := TL.spl_last1 h
theorem pcs_cons {p r : List Nat} (h : 58 ∉ p) : pcs (p ++ 58 :: r) = p :: pcs r := TL.spl_part1 h
theorem first_of {l : List Nat} (h : 58 ∈ l) : ∃ p r, l = p ++ 58 :: r ∧ 58 ∉ p := by
  induction l with
  | nil => cases h
  | cons a l ih =>
    by_cases c : a = 58
    · subst c; exact ⟨[], l, rfl, by simp⟩
    · have h' : 58 ∈ l := by
        rcases List.mem_cons.mp h with h | h
        · exact absurd h.symm c
        · exact h
      obtain ⟨p, r, e, hp⟩ := ih h'
      refine ⟨a :: p, r, by rw [e]; rfl, ?_⟩
      intro z
      rcases List.mem_cons.mp z with z | z
      · exact c z.symm
      · exact hp z
def mk (l : List Nat) : Str := ⟨l.toArray⟩
theorem tl_mk (l : List Nat) : (mk l).cps.toList = l := rfl
theorem mk_tl (s : Str) : mk s.cps.toList = s := TL.ext_tl rfl
theorem mk_len (l : List Nat) : (mk l).length = l.length := by rw [← len_cps, tl_mk]
def colS : Str := ":"
theorem col_tl : colS.cps.toList = [58] := by decide +kernel
theorem col_one : colS = oneStr 58 := by decide +kernel
theorem in_col {s : Str} : subIn colS s = decide (58 ∈ s.cps.toList) := by rw [col_one]; exact PySem.StrLaws.found_one s 58
theorem in_colm {r : List Nat} : subIn colS (mk r) = decide (58 ∈ r) := in_col.trans (by congr 1)
theorem part_col {p r : List Nat} (h : 58 ∉ p) : Txt.partition (mk (p ++ 58 :: r)) colS = (mk p, colS, mk r) := by
  rw [TL.partition_par _ _ (by show colS.cps.toList ≠ []; rw [col_tl]; simp)]
  have e : TL.par (TL.tl colS) [] (TL.tl (mk (p ++ 58 :: r))) = some (p, r) := by
    show TL.par colS.cps.toList [] (p ++ 58 :: r) = some (p, r)
    rw [col_tl]
    exact TL.par_part1 h
  rw [e]
  rfl
theorem ap_col {p : List Nat} : mk p ++ colS = mk (p ++ [58]) := TL.ext_tl (by rw [TL.tl_append]; show p ++ colS.cps.toList = p ++ [58]; rw [col_tl])
theorem col_len : colS.length = 1 := by decide +kernel
def wordD (p : List Nat) : D := .str (mk (p ++ [58]))
theorem obl {xs : List D} : obLst (some (.lst xs)) = some xs := rfl
theorem ok_words_of {n : Nat} {s : Str} {S : Store} (hS : S.WF) (hl : s.length ≤ 500) : ∃ ps r, pcs s.cps.toList = ps ++ [r] ∧ ps.length ≤ 500 ∧ (∀ p ∈ ps, p.length ≤ 500) ∧ Ups (sem T (n + 1) 3 [.str s] S) S (.lst (if r = [] then ps.map wordD else [])) := by
  have main : wpr (sem T (n + 1) 3 [.str s] S) (fun d S' => ∃ ps r, pcs s.cps.toList = ps ++ [r] ∧ ps.length ≤ 500 ∧ (∀ p ∈ ps, p.length ≤ 500) ∧ d = .lst (if r = [] then ps.map wordD else []) ∧ Gr S S') fun _ _ => False := by
    show wpr (endF (evS (sem T n) (gvs T) f_words_of.body [some (.str s), none, none, none, none] S)) _ _
    rw [wrs_end]
    simp only [f_words_of, wrs_seq, wS_asg, wS_whl, wE_lst, wA_nil, wpF, if_true, wE_var, List.set, List.getElem?_cons_zero, Option.join_some, wpO]
    refine ⟨by decide, ?_⟩
    refine wrs_while (fun k env S' => ∃ ps r w c, env = [some (.str s), some (.loc S.nx), some (.str (mk r)), w, c] ∧ pcs s.cps.toList = ps ++ pcs r ∧ ps.length + r.length ≤ 500 ∧ (∀ p ∈ ps, p.length ≤ 500) ∧ k = r.length ∧ Gr S S' ∧ S.nx < S'.nx ∧ S'.ob S.nx = some (.lst (ps.map wordD))) (m := s.length) (by show s.length < 1000; omega) ?_ ?_
    · refine ⟨[], s.cps.toList, none, none, by rw [mk_tl], rfl, by rw [len_cps]; simpa using hl, fun p hp => (by cases hp), by rw [len_cps], Gr.new hS, Nat.lt_succ_self _, Store.new_ob⟩
    · rintro k env S' ⟨ps, r, w, c, rfl, h1, h2, h2b, rfl, h3, h3n, h3o⟩
      have hr : (mk r).length ≤ 1000 := by rw [mk_len]; omega
      have e0 : (Str.ofString ":" : Str) = colS := rfl
      simp only [wT_cmp, wE_cS, wE_var, List.getElem?_cons_zero, List.getElem?_cons_succ, Option.join_some, wpO, c_in_str, e0, in_colm]
      by_cases hc : 58 ∈ r
      · rw [decide_eq_true hc, if_pos rfl]
        obtain ⟨p, r2, rfl, hp⟩ := first_of hc
        simp only [wrs_seq, wS_unp, wE_met, wE_var, wE_cS, wA_cons, wA_nil, List.getElem?_cons_zero, List.getElem?_cons_succ, Option.join_some, wpO, e0]
        refine ⟨rfl, ?_⟩
        have em : mfM false .partition (.str (mk (p ++ 58 :: r2))) [.str colS] S' = .ok (.tup [.str (mk p), .str colS, .str (mk r2)]) S' := by
          show finO false (if (colS.length == 0) = false ∧ (mk (p ++ 58 :: r2)).length ≤ nMax then some (PR.newt _) else none) S' = _
          rw [if_pos ⟨by rw [col_len]; rfl, Nat.le_trans hr (by decide)⟩, part_col hp]
          rfl
        rw [em, wpr_ok]
        simp only [tupOf]
        refine ⟨rfl, ?_⟩
        have hpl : (mk p).length + colS.length ≤ 1000 := by
          rw [mk_len, col_len]
          rw [List.length_append, List.length_cons] at h2
          omega
        simp only [setAll, List.set, wS_exp, wE_met, wE_var, wE_bop, wE_cS, wA_cons, wA_nil, List.getElem?_cons_zero, List.getElem?_cons_succ, Option.join_some, wpO, e0, add_str hpl, wpF, wS_nil]
        have ety : isTy S' Mf.append.ty (.loc S.nx) = true := by
          show (("list" : String) == "list" && (obLst (S'.ob S.nx)).isSome) = true
          rw [h3o]
          rfl
        refine ⟨ety, ?_⟩
        have ea : mfM false .append (.loc S.nx) [.str (mk p ++ colS)] S' = .ok .non (S'.set S.nx (.lst (ps.map wordD ++ [wordD p]))) := by
          show (match S'.ob S.nx with
            | some (.lst xs) => if xs.length < nMax then Rs.ok D.non (S'.set S.nx (.lst (xs ++ [D.str (mk p ++ colS)]))) else .bad
            | _ => .bad) = _
          rw [h3o]
          simp only
          rw [if_pos (by rw [List.length_map]; exact Nat.lt_of_le_of_lt (by omega) (by decide : 500 < nMax)), ap_col]
          rfl
        rw [ea, wpr_ok]
        rw [List.length_append, List.length_cons] at h2
        refine ⟨r2.length, by rw [List.length_append, List.length_cons]; omega, ps ++ [p], r2, _, _, rfl, by rw [h1, pcs_cons hp]; simp, by simp; omega, fun q hq => ?_, rfl, h3.set (Nat.le_refl _) h3n, h3n, ?_⟩
        · rcases List.mem_append.mp hq with hq | hq
          · exact h2b q hq
          · have : q = p := by simpa using hq
            rw [this]; omega
        · rw [Store.set_ob, List.map_append]
          rfl
      · rw [decide_eq_false hc, if_neg Bool.false_ne_true]
        have e1 : (Str.ofString "" : Str) = mk [] := by decide +kernel
        simp only [wS_ret, wS_nil, wE_ite, wT_cmp, wE_var, wE_cS, wE_frz, wE_lst, wA_nil, List.getElem?_cons_zero, List.getElem?_cons_succ, Option.join_some, wpO, c_eq_str, e1, h3o, obl, wpF, Bool.false_eq_true, if_false]
        rw [pcs_none hc] at h1
        by_cases hr0 : r = []
        · subst hr0
          rw [decide_eq_true rfl]
          simp only [if_true]
          exact ⟨ps, [], h1, by omega, h2b, rfl, h3.del (Nat.le_refl _)⟩
        · have hne : ¬ mk r = mk [] := fun z => hr0 (by have := congrArg (fun (x : Str) => x.cps.toList) z; exact this)
          rw [decide_eq_false hne]
          simp only [Bool.false_eq_true, if_false]
          exact ⟨by decide, ps, r, h1, by omega, h2b, by rw [if_neg hr0], h3⟩
  obtain ⟨d, S', e, ps, r, a1, a2, a3, rfl, G⟩ := wpr_elim main
  exact ⟨ps, r, a1, a2, a3, S', e, G⟩
end K10
namespace K10
open PySem L2 ML
theorem sIx_m1 {n : Nat} : HT.sIx n n (some (-1)) = n - 1 := by
  show (if (-1 : Int) < 0 then ((-1 : Int) + (n : Int)).toNat else min (-1 : Int).toNat n) = _
  rw [if_pos (by decide)]
  omega
theorem cut_word {p : List Nat} : cutS (mk (p ++ [58])) none (some (-1)) = mk p := by
  unfold cutS
  rw [sIx_m1, HT.sIx_none, tl_mk, mk_len]
  simp [mk]
theorem cutD_m1 {xs : List D} {x : D} : cutD (xs ++ [x]) none (some (-1)) = xs := by
  unfold cutD
  rw [sIx_m1, HT.sIx_none]
  simp
def arityD (s : Str) (ps : List (List Nat)) (r : List Nat) : D :=
  if isName s = true then .int 0 else
  if s.length = 1 ∧ subIn s signS = true then .int 1 else
  if r = [] ∧ 1 ≤ ps.length ∧ ps.length ≤ 3 ∧ (ps.all fun p => isName (mk p)) = true then .int ps.length else .non
theorem sl_str {S : Store} {s : Str} {lo hi : Option Int} (hl : s.length ≤ 1000) : slP S (.str s) lo hi = some (.val (.str (cutS s lo hi))) := if_pos (Nat.le_trans hl (by decide))
theorem sl_lst {S : Store} {xs : List D} {lo hi : Option Int} : slP S (.lst xs) lo hi = some (.newl (cutD xs lo hi)) := rfl
theorem src_lst {S : Store} {xs : List D} : srcOf S (.lst xs) = some (.vals xs) := rfl
theorem off_neg {e : ML.E} : isOff (.neg e) = false := rfl
theorem dI {a b : Nat} : decide ((a : Int) ≤ (b : Int)) = decide (a ≤ b) := by congr 1; exact propext (by omega)
theorem dIe {a b : Nat} : decide ((a : Int) = (b : Int)) = decide (a = b) := by congr 1; exact propext (by omega)
theorem word_map {f : Str → Bool} {ps : List (List Nat)} : (ps.map wordD).map (asStr fun z => f (cutS z none (some (-1)))) = ps.map fun p => .bl (f (mk p)) := by
  rw [List.map_map]
  refine List.map_congr_left fun p _ => ?_
  show D.bl (f (cutS (mk (p ++ [58])) none (some (-1)))) = _
  rw [cut_word]
theorem ite2 {a b : Bool} {P K : Prop} (h : ¬ (a = true ∧ b = true)) : (if a = true then (if b = true then P else K) else K) = K := by
  cases a <;> cases b <;> simp_all
theorem ok_arity_of {n : Nat} {s : Str} {S : Store} {ps : List (List Nat)} {r : List Nat} (hS : S.WF) (hl : s.length ≤ 500) (hp : pcs s.cps.toList = ps ++ [r]) : Ups (sem T (n + 3) 4 [.str s] S) S (arityD s ps r) := by
  have hl' : s.length ≤ 1000 := by omega
  refine .of ?_
  show wpr (endF (evS (sem T (n + 2)) (gvs T) f_arity_of.body [some (.str s), none, none] S)) _ _
  rw [wrs_end]
  simp only [f_arity_of, wrs_seq, wS_ife, wS_ret, wS_nil, wT_tru, wE_call, wE_var, wA_cons, wA_nil, wE_cI, wpO, List.getElem?_cons_zero, List.getElem?_cons_succ, Option.join_some]
  refine (ok_is_name hS hl').wpr fun S1 G1 => ?_
  simp only [t_bl, wpO]
  cases h1 : isName s with
  | true =>
    simp only [if_true]
    exact ⟨by simp [arityD, h1], G1⟩
  | false =>
    simp only [Bool.false_eq_true, if_false, wT_and, wT_one, wT_cmp, wE_blt, wE_var, wE_glb, wE_cI, wA_cons, wA_nil, wpO, wpF, g3, b_len_str hl', c_eq_int, c_in_str, List.getElem?_cons_zero, List.getElem?_cons_succ, Option.join_some]
    rw [show decide ((s.length : Int) = 1) = decide (s.length = 1) from dIe (b := 1)]
    by_cases hno : s.length = 1 ∧ subIn s signS = true
    · rw [decide_eq_true hno.1, hno.2]
      simp only [if_true]
      refine ⟨?_, G1⟩
      unfold arityD
      rw [if_neg (by rw [h1]; exact Bool.false_ne_true), if_pos hno]
    · rw [ite2 (by rw [decide_eq_true_eq]; exact hno)]
      simp only [wrs_seq, wS_asg, wE_call, wE_var, wA_cons, wA_nil, wpO, List.getElem?_cons_zero, List.getElem?_cons_succ, Option.join_some]
      obtain ⟨ps', r', e1, e2, e3, hu⟩ := ok_words_of (n := n + 1) (s := s) G1.wf hl
      obtain ⟨rfl, er⟩ := List.append_inj' (e1.symm.trans hp) rfl
      have er : r' = r := by simpa using er
      subst er
      refine hu.wpr fun S2 G2 => ?_
      simp only [List.set, wS_ife, wS_ret, wS_nil, wT_and, wT_one, wT_chn, wT_tru, wE_blt, wE_lc, wI_itr, wE_var, wE_glb, wE_cI, wE_cN, wA_cons, wA_nil, wpO, wpF, g6, b_len_lst, c_le, src_lst, List.getElem?_cons_zero, List.getElem?_cons_succ, Option.join_some]
      by_cases hr : r' = []
      · rw [if_pos hr, List.length_map, show decide ((1 : Int) ≤ (ps'.length : Int)) = decide (1 ≤ ps'.length) from dI (a := 1), show decide ((ps'.length : Int) ≤ 3) = decide (ps'.length ≤ 3) from dI (b := 3)]
        by_cases h3 : 1 ≤ ps'.length
        · by_cases h4 : ps'.length ≤ 3
          · rw [decide_eq_true h3, decide_eq_true h4]
            simp only [if_true]
            refine (compM_map (asStr fun z => isName (cutS z none (some (-1)))) G2.wf (by rw [List.length_map]; exact Nat.lt_of_le_of_lt e2 (by decide)) fun x hx S' hS' => ?_).wpr fun S3 G3 => ?_
            · obtain ⟨p, hp, rfl⟩ := List.mem_map.mp hx
              refine turn_ups rfl (.of ?_)
              have hlen : (mk (p ++ [58])).length ≤ 1000 := by rw [mk_len, List.length_append]; have := e3 p hp; simp; omega
              simp only [wE_call, wE_slc, wE_var, wL_off, wL_some off_neg, wE_neg, wE_cI, wA_cons, wA_nil, List.map, wipeE, List.set, List.getElem?_cons_zero, List.getElem?_cons_succ, Option.join_some, wpO, wpF, wordD, sl_str hlen]
              refine (ok_is_name hS' ?_).wpr fun S4 G4 => ⟨rfl, G4⟩
              exact Nat.le_trans (cutS_length _ _ _) hlen
            · rw [word_map (f := isName), b_all]
              simp only [t_bl]
              cases h5 : ps'.all fun p => isName (mk p) with
              | true =>
                simp only [if_true]
                refine ⟨?_, (G1.trans G2).trans G3⟩
                unfold arityD
                rw [if_neg (by rw [h1]; exact Bool.false_ne_true), if_neg hno, if_pos ⟨hr, h3, h4, h5⟩]
              | false =>
                simp only [Bool.false_eq_true, if_false]
                refine ⟨?_, (G1.trans G2).trans G3⟩
                unfold arityD
                rw [if_neg (by rw [h1]; exact Bool.false_ne_true), if_neg hno, if_neg (by rw [h5]; simp)]
          · rw [decide_eq_true h3, decide_eq_false h4]
            simp only [if_true, Bool.false_eq_true, if_false]
            refine ⟨?_, G1.trans G2⟩
            unfold arityD
            rw [if_neg (by rw [h1]; exact Bool.false_ne_true), if_neg hno, if_neg (fun z => h4 z.2.2.1)]
        · rw [decide_eq_false h3]
          simp only [Bool.false_eq_true, if_false]
          refine ⟨?_, G1.trans G2⟩
          unfold arityD
          rw [if_neg (by rw [h1]; exact Bool.false_ne_true), if_neg hno, if_neg (fun z => h3 z.2.1)]
      · rw [if_neg hr]
        simp only [List.length_nil, show decide ((1 : Int) ≤ ((0 : Nat) : Int)) = false from rfl, Bool.false_eq_true, if_false]
        refine ⟨?_, G1.trans G2⟩
        unfold arityD
        rw [if_neg (by rw [h1]; exact Bool.false_ne_true), if_neg hno, if_neg (fun z => hr z.1)]
end K10

namespace K10
open PySem L2 ML
theorem hc : T.fns[18]? = some cellF := rfl
theorem hm : T.fns[19]? = some (mixF 18) := rfl
theorem hd : T.fns[20]? = some (drawF 19) := rfl
theorem hp : T.fns[21]? = some (pickF 20) := rfl
theorem all62 : (Str.ofString "abcdefghijklmnopqrstuvwxyzABCDEFGHIJKLMNOPQRSTUVWXYZ0123456789" : Str) = smallS ++ greatS ++ figS := by decide +kernel
theorem one_of {s : Str} (h : s.length = 1) : ∃ c, s = oneStr c := by
  have e := len_cps s
  rw [h] at e
  match q : s.cps.toList with
  | [] => rw [q] at e; cases e
  | [c] => exact ⟨c, TL.ext_tl q⟩
  | _ :: _ :: _ => rw [q] at e; simp at e
theorem in_one {c : Nat} {s : Str} : subIn (oneStr c) s = decide (c ∈ s.cps.toList) := PySem.StrLaws.found_one s c
theorem one_len {c : Nat} : (oneStr c).length = 1 := rfl
theorem app_len {a b : Str} : (a ++ b).length = a.length + b.length := by rw [← len_cps (a ++ b), ← len_cps a, ← len_cps b, ← List.length_append]; exact congrArg List.length (TL.tl_append a b)
theorem intL_len {lo : Int} {n : Nat} : (intL lo n).length = n := by simp [intL]
theorem len62 : (smallS ++ greatS ++ figS).length = 62 := by decide +kernel

def allS : Str := smallS ++ greatS ++ figS
/-- a word so far: its first sign is one of f -/
def Wo (f : Str) (k : Nat) (s : Str) : Prop := s.length ≤ k ∧ ∃ c r, s.cps.toList = c :: r ∧ c ∈ f.cps.toList ∧ ∀ x ∈ s.cps.toList, x ∈ allS.cps.toList
theorem Wo.worded {f s : Str} (h : Wo f 12 s) : isWorded s f = true := by
  obtain ⟨h1, c, r, e, hc, ha⟩ := h
  unfold isWorded inAll
  have l1 : 1 ≤ s.length := by rw [← len_cps, e]; simp
  have e2 : s.cps.toList.headD 0 = c := by rw [e]; rfl
  rw [decide_eq_true l1, decide_eq_true h1, e2, in_one, decide_eq_true hc, Bool.true_and, Bool.true_and, Bool.true_and, List.all_eq_true]
  intro x hx
  rw [in_one, decide_eq_true_eq]
  exact ha x hx
theorem tl_app (a b : Str) : (a ++ b).cps.toList = a.cps.toList ++ b.cps.toList := TL.tl_append a b
theorem tl_one (c : Nat) : (oneStr c).cps.toList = [c] := rfl
theorem ok_word {n t m : Nat} {ns : List Int} {f : Str} {S : Store} (h : Tn t m S) (hl : m < 80000) (h1 : 0 < f.length) (h2 : f.length ≤ 1000) (hf : ∀ x ∈ f.cps.toList, x ∈ allS.cps.toList) :
    wpr (sem T (n + 5) 23 [script ns, .loc t, .str f] S) (fun d S' => (∃ s, d = .str s ∧ Wo f 12 s) ∧ Tn t (m + 20) S' ∧ Kp t S S') fun _ _ => False := by
  show wpr (endF (evS (sem T (n + 4)) (gvs T) f_law_word.body [some (script ns), some (.loc t), some (.str f), none, none, none] S)) _ _
  rw [wrs_end]
  simp only [f_law_word, wrs_seq, wS_asg, wE_cS, wE_call, wE_var, wA_cons, wA_nil, wpO, List.set, List.getElem?_cons_zero, List.getElem?_cons_succ, Option.join_some, all62]
  refine wpr_mono (ok_pickS hc hm hd hp h (by omega) h1 h2) (fun d S1 ⟨⟨c, hcf, e⟩, T1, K1⟩ => ?_) (fun _ _ z => z)
  subst e
  simp only [wS_fr, wI_rng, wE_call, wE_lst, wE_cI, wE_var, wA_cons, wA_nil, wpO, wpF, List.set, List.getElem?_cons_zero, List.getElem?_cons_succ, Option.join_some, Bool.false_eq_true, if_false]
  refine ⟨by decide, ?_⟩
  refine wpr_mono (ok_pickL hc hm hd hp T1 (by omega) (by decide)) (fun d S2 ⟨e, T2, K2⟩ => ?_) (fun _ _ z => z)
  obtain ⟨k, ek, k0, k1⟩ : ∃ k : Int, d = .int k ∧ 0 < k ∧ k ≤ 12 := by
    simp only [List.mem_cons, List.not_mem_nil, or_false] at e
    rcases e with rfl | rfl | rfl
    · exact ⟨_, rfl, by decide, by decide⟩
    · exact ⟨_, rfl, by decide, by decide⟩
    · exact ⟨_, rfl, by decide, by decide⟩
  subst ek
  refine wpr_mono (ok_draw hc hm hd T2 (by omega) k0) (fun d S3 ⟨⟨r, e, r0, r1⟩, T3, K3⟩ => ?_) (fun _ _ z => z)
  subst e
  refine ⟨⟨Int.le_trans (by omega : r ≤ 12) (by decide), Int.le_trans (by decide) r0⟩, ?_⟩
  refine wrs_for (fun j env S' => (∃ s w, env = [some (script ns), some (.loc t), some (.str f), some (.str (smallS ++ greatS ++ figS)), some (.str s), w] ∧ Wo f (1 + j) s) ∧ Tn t (m + 1 + 1 + 1 + j) S' ∧ Kp t S S') ?_ ?_ ?_
  · refine ⟨⟨_, _, rfl, by rw [one_len]; omega, c, [], rfl, hcf, fun x hx => ?_⟩, T3, (K1.trans K2).trans K3⟩
    rw [tl_one, List.mem_singleton] at hx
    rw [hx]
    exact hf c hcf
  · rintro j x env S' hj ⟨⟨s, w, rfl, hs, c, r', es, hcf', ha⟩, T4, K4⟩
    have hj' : j < 12 := by
      have := (List.getElem?_eq_some_iff.mp hj).1
      rw [intL_len] at this
      omega
    simp only [wrs_seq, wS_asg, wS_nil, wE_bop, wE_idx, wE_call, wE_cI, wE_var, wA_cons, wA_nil, wpO, List.set, List.getElem?_cons_zero, List.getElem?_cons_succ, Option.join_some]
    refine wpr_mono (ok_draw hc hm hd T4 (by omega) (by decide)) (fun d S5 ⟨⟨q, e, q0, q1⟩, T5, K5⟩ => ?_) (fun _ _ z => z)
    subst e
    rw [ix_str (by rw [len62]; decide)]
    obtain ⟨c2, hc2, ec⟩ := atI_int (xs := (smallS ++ greatS ++ figS).cps.toList) q0 (by rw [len_cps, len62]; exact q1)
    rw [ec]
    simp only [Option.map_some]
    rw [add_str (by rw [one_len]; omega)]
    refine ⟨⟨_, _, rfl, by rw [app_len, one_len]; omega, c, r' ++ [c2], by rw [tl_app, es]; rfl, hcf', fun x hx => ?_⟩, T5.mono (by omega), K4.trans K5⟩
    rw [tl_app, tl_one] at hx
    rcases List.mem_append.mp hx with hx | hx
    · exact ha x hx
    · rw [List.mem_singleton.mp hx]; exact hc2
  · rintro env S' ⟨⟨s, w, rfl, hs, more⟩, T4, K4⟩
    rw [intL_len] at hs T4
    simp only [wS_ret, wS_nil, wE_var, wpO, List.getElem?_cons_zero, List.getElem?_cons_succ, Option.join_some]
    exact ⟨⟨s, rfl, by omega, more⟩, T4.mono (by omega), K4⟩
/-- the texts of a list are short -/
def Short (b : Nat) (d : D) : Prop := ∃ s, d = .str s ∧ s.length ≤ b
theorem short_all {b : Nat} {xs : List Str} (h : ∀ x ∈ xs, x.length ≤ b) {d : D} (hd : d ∈ xs.map D.str) : Short b d := by
  obtain ⟨s, hs, rfl⟩ := List.mem_map.mp hd
  exact ⟨s, rfl, h s hs⟩
theorem small_len : smallS.length = 26 := by decide +kernel
theorem txts_short {b : Nat} : ∀ {xs : List D}, (∀ d ∈ xs, Short b d) → ∃ ys : List Str, txts xs = some ys ∧ ys.length = xs.length ∧ ∀ y ∈ ys, y.length ≤ b
  | [], _ => ⟨[], rfl, rfl, fun y h => (by cases h)⟩
  | x :: xs, h => by
    obtain ⟨s, rfl, hs⟩ := h x (List.mem_cons_self ..)
    obtain ⟨ys, e, el, ey⟩ := txts_short fun d hd => h d (List.mem_cons_of_mem _ hd)
    refine ⟨s :: ys, ?_, by rw [List.length_cons, List.length_cons, el], fun y hy => ?_⟩
    · show (txts xs).map (s :: ·) = _
      rw [e]
      rfl
    · rcases List.mem_cons.mp hy with rfl | hy
      · exact hs
      · exact ey y hy
theorem sum_le {b : Nat} : ∀ {ys : List Str}, (∀ y ∈ ys, y.length ≤ b) → (ys.map (·.length)).sum ≤ ys.length * b
  | [], _ => Nat.zero_le _
  | y :: ys, h => by
    have z := sum_le fun y hy => h y (List.mem_cons_of_mem _ hy)
    have := h y (List.mem_cons_self ..)
    rw [List.map_cons, List.sum_cons, List.length_cons, Nat.add_mul]
    omega
theorem join_len (a : Str) : ∀ ys : List Str, (Txt.join a ys).length ≤ (ys.map (·.length)).sum + ys.length * a.length := by
  intro ys
  rw [TL.join_eq]
  induction ys with
  | nil => exact Nat.zero_le _
  | cons y ys ih =>
    cases ys with
    | nil => show y.length ≤ _; simp
    | cons z ys =>
      show (y ++ a ++ Str.join a (z :: ys)).length ≤ _
      rw [app_len, app_len, List.map_cons, List.sum_cons, List.length_cons (a := y), Nat.add_mul]
      omega
end K10

namespace K10
open PySem L2 ML

theorem sm_len : 0 < smallS.length ∧ smallS.length ≤ 1000 := by decide +kernel
theorem gr_len : 0 < greatS.length ∧ greatS.length ≤ 1000 := by decide +kernel
theorem sm_all : ∀ x ∈ smallS.cps.toList, x ∈ allS.cps.toList := by decide +kernel
theorem gr_all : ∀ x ∈ greatS.cps.toList, x ∈ allS.cps.toList := by decide +kernel
theorem keptD {S : Store} : seqOf S (.lst [D.str (Str.ofString "self"), D.str (Str.ofString "super"), D.str (Str.ofString "nil"), D.str (Str.ofString "yes"), D.str (Str.ofString "no")]) = some (kept.map D.str) := rfl
theorem kept_len : ∀ x ∈ kept, x.length ≤ 5 := by decide +kernel
theorem kept_one : ∀ x ∈ kept, isName (x ++ ("1" : Str)) = true := by decide +kernel
theorem name_len {s : Str} (h : isName s = true) : 1 ≤ s.length ∧ s.length ≤ 12 := by
  unfold isName isWorded at h
  simp only [Bool.and_eq_true, decide_eq_true_eq] at h
  exact ⟨h.1.1.1.1, h.1.1.1.2⟩
def NameD (d : D) : Prop := ∃ s, d = .str s ∧ isName s = true
theorem ok_name {n t m : Nat} {ns : List Int} {S : Store} (h : Tn t m S) (hl : m < 80000) : Sp t m 20 S NameD (sem T (n + 6) 24 [script ns, .loc t] S) := by
  show wpr (endF (evS (sem T (n + 5)) (gvs T) f_law_name.body [some (script ns), some (.loc t), none] S)) _ _
  have esm : Str.ofString "abcdefghijklmnopqrstuvwxyz" = smallS := rfl
  rw [wrs_end]
  simp only [f_law_name, esm, wrs_seqL, wS_asg, wS_ife, wS_ret, wS_nil, wS_exp, wE_cS, wE_cI, wE_cN, wE_cB, wE_call, wE_var, wE_glb, wE_bop, wE_idx, wE_lst, wE_tup, wE_blt, wE_met, wT_cmp, wT_and, wT_or, wT_nt, wT_one, wT_tru, wE_ite, wE_and, wE_or, wE_one, wE_nt, wE_cmp, wE_lc, wI_itr, wI_rng, wA_cons, wA_nil, wpO, wpF, List.set, List.getElem?_cons_zero, List.getElem?_cons_succ, Option.join_some, Bool.false_eq_true, if_false, if_true]
  refine wpr_mono (ok_word h hl sm_len.1 sm_len.2 sm_all) (fun d S1 ⟨⟨s, e, hw⟩, T1, K1⟩ => ?_) (fun _ _ z => z)
  subst e
  rw [later]
  simp only [wrs_seqL, wS_asg, wS_ife, wS_ret, wS_nil, wS_exp, wE_cS, wE_cI, wE_cN, wE_cB, wE_call, wE_var, wE_glb, wE_bop, wE_idx, wE_lst, wE_tup, wE_blt, wE_met, wT_cmp, wT_and, wT_or, wT_nt, wT_one, wT_tru, wE_ite, wE_and, wE_or, wE_one, wE_nt, wE_cmp, wE_lc, wI_itr, wI_rng, wA_cons, wA_nil, wpO, wpF, List.set, List.getElem?_cons_zero, List.getElem?_cons_succ, Option.join_some, Bool.false_eq_true, if_false, if_true]
  refine ⟨by decide, ?_⟩
  simp only [c_in_txt keptD]
  by_cases hk : s ∈ kept
  · rw [decide_eq_true hk, if_pos rfl, add_str (by have := kept_len s hk; have : (Str.ofString "1" : Str).length = 1 := by decide +kernel
                                                   omega)]
    exact ⟨⟨_, rfl, kept_one s hk⟩, T1, K1⟩
  · rw [decide_eq_false hk, if_neg Bool.false_ne_true]
    refine ⟨⟨_, rfl, ?_⟩, T1, K1⟩
    unfold isName
    rw [hw.worded, decide_eq_false hk]
    rfl
/-! ### names -/
def NamesD (k : Nat) (os : List Str) (d : D) : Prop := ∃ xs : List Str, d = .tup (xs.map D.str) ∧ xs.length = k ∧ (∀ x ∈ xs, isName x = true) ∧ (xs ++ os).Nodup
def eight : List Str := ["a0", "b0", "c0", "d0", "e0", "f0", "g0", "h0"]
theorem eight_name : ∀ x ∈ eight, isName x = true := by decide +kernel
theorem eight_nd : eight.Nodup := by decide +kernel
theorem nd_le : ∀ {a b : List Str}, a.Nodup → (∀ x ∈ a, x ∈ b) → a.length ≤ b.length
  | [], b, _, _ => Nat.zero_le _
  | x :: a, b, nd, sub => by
    obtain ⟨h1, h2⟩ := List.nodup_cons.mp nd
    have hx := sub x (List.mem_cons_self ..)
    have z := nd_le (b := b.erase x) h2 fun y hy => (List.mem_erase_of_ne (fun e : y = x => h1 (by rw [← e]; exact hy))).mpr (sub y (List.mem_cons_of_mem _ hy))
    rw [List.length_erase_of_mem hx] at z
    have : 0 < b.length := List.length_pos_of_mem hx
    rw [List.length_cons]
    omega
theorem fresh {l : List Str} (h : l.length < 8) : ∃ x r, eight.filter (fun x => !decide (x ∈ l)) = x :: r := by
  cases e : eight.filter (fun x => !decide (x ∈ l)) with
  | cons x r => exact ⟨x, r, rfl⟩
  | nil =>
    exfalso
    have sub : ∀ x ∈ eight, x ∈ l := fun x hx => by
      have := List.filter_eq_nil_iff.mp e x hx
      simpa using this
    have : eight.length ≤ l.length := nd_le eight_nd sub
    have e8 : eight.length = 8 := rfl
    omega

theorem add_ol {S : Store} {f : Nat} {xs ys : List D} (h : S.ob f = some (.lst xs)) (hl : xs.length + ys.length ≤ 1000) : binP S .Add (.loc f) (.lst ys) = some (.newl (xs ++ ys)) := by
  show (match obLst (S.ob f), some ys with
    | some xs, some ys => guardP (decide (xs.length + ys.length ≤ nMax)) (.newl (xs ++ ys))
    | _, _ => none) = _
  rw [h]
  show guardP (decide (xs.length + ys.length ≤ nMax)) _ = _
  rw [decide_eq_true (Nat.le_trans hl (by decide))]
  rfl
theorem seq_lst {S : Store} {xs : List D} : seqOf S (.lst xs) = some xs := rfl
theorem ap_loc {S : Store} {f : Nat} {xs : List D} {x : D} (h : S.ob f = some (.lst xs)) (hl : xs.length < 1000) : isTy S Mf.append.ty (.loc f) = true ∧ mfM false .append (.loc f) [x] S = .ok .non (S.set f (.lst (xs ++ [x]))) := by
  constructor
  · show (("list" : String) == "list" && (obLst (S.ob f)).isSome) = true
    rw [h]
    rfl
  · show (match S.ob f with
      | some (.lst xs) => if xs.length < nMax then Rs.ok D.non (S.set f (.lst (xs ++ [x]))) else .bad
      | _ => .bad) = _
    rw [h]
    exact if_pos (Nat.lt_of_lt_of_le hl (by decide))
theorem tup_loc {S : Store} {f : Nat} {xs : List D} (h : S.ob f = some (.lst xs)) : bfP S .tuple [.loc f] = some (.newt xs) := by
  show ((obLst (S.ob f)).map PR.newt) = _
  rw [h]
  rfl
theorem atI_zero {α : Type} {x : α} {r : List α} : atI (x :: r) 0 = some x := atI_nat' (k := 0) rfl
theorem ok_names {n t m k : Nat} {ns : List Int} {os : List Str} {S : Store} (h : Tn t m S) (hl : m < 70000) (hk : k + os.length < 8) (ho : os.Nodup) :
    Sp t m (20 * k) S (NamesD k os) (sem T (n + 7) 25 [script ns, .loc t, .int k, .lst (os.map D.str)] S) := by
  show wpr (endF (evS (sem T (n + 6)) (gvs T) f_law_names.body [some (script ns), some (.loc t), some (.int k), some (.lst (os.map D.str)), none, none, none, none] S)) _ _
  rw [wrs_end]
  simp only [f_law_names, wrs_seqL, wS_asg, wS_ife, wS_ret, wS_nil, wS_exp, wE_cS, wE_cI, wE_cN, wE_cB, wE_call, wE_var, wE_glb, wE_bop, wE_idx, wE_lst, wE_tup, wE_blt, wE_met, wT_cmp, wT_and, wT_or, wT_nt, wT_one, wT_tru, wE_ite, wE_and, wE_or, wE_one, wE_nt, wE_cmp, wE_lc, wI_itr, wI_rng, wA_cons, wA_nil, wpO, wpF, List.set, List.getElem?_cons_zero, List.getElem?_cons_succ, Option.join_some, Bool.false_eq_true, if_false, if_true]
  refine ⟨by decide, ?_⟩
  rw [later]
  simp only [wS_fr, wrs_seqL, wS_asg, wS_ife, wS_ret, wS_nil, wS_exp, wE_cS, wE_cI, wE_cN, wE_cB, wE_call, wE_var, wE_glb, wE_bop, wE_idx, wE_lst, wE_tup, wE_blt, wE_met, wT_cmp, wT_and, wT_or, wT_nt, wT_one, wT_tru, wE_ite, wE_and, wE_or, wE_one, wE_nt, wE_cmp, wE_lc, wI_itr, wI_rng, wA_cons, wA_nil, wpO, wpF, List.set, List.getElem?_cons_zero, List.getElem?_cons_succ, Option.join_some, Bool.false_eq_true, if_false, if_true]
  refine ⟨⟨Int.le_trans (by omega : (k : Int) ≤ 8) (by decide), Int.le_trans (by decide) (by omega : (0 : Int) ≤ k)⟩, ?_⟩
  have hne : S.nx ≠ t := Nat.ne_of_gt h.lt
  refine wrs_for (fun j env S' => (∃ a b c, env = [some (script ns), some (.loc t), some (.int k), some (.lst (os.map D.str)), some (.loc S.nx), a, b, c]) ∧ ∃ xs : List Str, S'.ob S.nx = some (.lst (xs.map D.str)) ∧ xs.length = j ∧ (∀ x ∈ xs, isName x = true) ∧ (xs ++ os).Nodup ∧ Tn t (m + 20 * j) S' ∧ Kp t S S' ∧ S.nx < S'.nx) ?_ ?_ ?_
  · exact ⟨⟨_, _, _, rfl⟩, [], Store.new_ob, rfl, fun x hx => (by cases hx), ho, h.gr (Gr.new h.wf), .of (Gr.new h.wf), Nat.lt_succ_self _⟩
  · rintro j x env S1 hj ⟨⟨a, b, c, rfl⟩, xs, o1, l1, n1, nd1, T1, K1, lt1⟩
    have hj' : j < k := by
      have := (List.getElem?_eq_some_iff.mp hj).1
      rw [intL_len] at this
      omega
    simp only [wrs_seqL, wS_asg, wS_ife, wS_ret, wS_nil, wS_exp, wE_cS, wE_cI, wE_cN, wE_cB, wE_call, wE_var, wE_glb, wE_bop, wE_idx, wE_lst, wE_tup, wE_blt, wE_met, wT_cmp, wT_and, wT_or, wT_nt, wT_one, wT_tru, wE_ite, wE_and, wE_or, wE_one, wE_nt, wE_cmp, wE_lc, wI_itr, wI_rng, wA_cons, wA_nil, wpO, wpF, List.set, List.getElem?_cons_zero, List.getElem?_cons_succ, Option.join_some, Bool.false_eq_true, if_false, if_true]
    refine (ok_name T1 (by omega)).use fun d S2 ⟨s, e, hs⟩ T2 K2 => ?_
    subst e
    have o2 := (K2.ob _ lt1 hne).trans o1
    have lt2 := Nat.lt_of_lt_of_le lt1 K2.nx
    have hlen : (xs.map D.str).length + (os.map D.str).length ≤ 1000 := by rw [List.length_map, List.length_map]; omega
    rw [later]
    simp only [wrs_seqL, wS_asg, wS_ife, wS_ret, wS_nil, wS_exp, wE_cS, wE_cI, wE_cN, wE_cB, wE_call, wE_var, wE_glb, wE_bop, wE_idx, wE_lst, wE_tup, wE_blt, wE_met, wT_cmp, wT_and, wT_or, wT_nt, wT_one, wT_tru, wE_ite, wE_and, wE_or, wE_one, wE_nt, wE_cmp, wE_lc, wI_itr, wI_rng, wA_cons, wA_nil, wpO, wpF, List.set, List.getElem?_cons_zero, List.getElem?_cons_succ, Option.join_some, Bool.false_eq_true, if_false, if_true, add_ol o2 hlen]
    have esq : ∀ S : Store, seqOf S (.lst (xs.map D.str ++ os.map D.str)) = some ((xs ++ os).map D.str) := fun S => by rw [List.map_append]; rfl
    rw [c_in_txt (esq S2)]
    have fin : ∀ (s : Str) (S3 : Store) (c : Option D), isName s = true → s ∉ xs ++ os → Tn t (m + 20 * j + 20) S3 → Kp t S1 S3 → S3.ob S.nx = some (.lst (xs.map D.str)) → S.nx < S3.nx →
        wrs (evS (sem T (n + 6)) (gvs T) (.seq (.exp (.met false .append (.var 4) (.cons (.var 6) (.nil)))) (.nil)) [some (script ns), some (.loc t), some (.int k), some (.lst (os.map D.str)), some (.loc S.nx), some x, some (.str s), c] S3) (fun env' S' => (∃ a b c, env' = [some (script ns), some (.loc t), some (.int k), some (.lst (os.map D.str)), some (.loc S.nx), a, b, c]) ∧ ∃ xs : List Str, S'.ob S.nx = some (.lst (xs.map D.str)) ∧ xs.length = j + 1 ∧ (∀ x ∈ xs, isName x = true) ∧ (xs ++ os).Nodup ∧ Tn t (m + 20 * (j + 1)) S' ∧ Kp t S S' ∧ S.nx < S'.nx) (fun d S' => NamesD k os d ∧ Tn t (m + 20 * k) S' ∧ Kp t S S') (fun _ _ _ => False) := by
      intro s S3 c hs hno T3 K3 o3 lt3
      have ap := ap_loc (x := .str s) o3 (by rw [List.length_map]; omega)
      simp only [wrs_seqL, wS_asg, wS_ife, wS_ret, wS_nil, wS_exp, wE_cS, wE_cI, wE_cN, wE_cB, wE_call, wE_var, wE_glb, wE_bop, wE_idx, wE_lst, wE_tup, wE_blt, wE_met, wT_cmp, wT_and, wT_or, wT_nt, wT_one, wT_tru, wE_ite, wE_and, wE_or, wE_one, wE_nt, wE_cmp, wE_lc, wI_itr, wI_rng, wA_cons, wA_nil, wpO, wpF, List.set, List.getElem?_cons_zero, List.getElem?_cons_succ, Option.join_some, Bool.false_eq_true, if_false, if_true]
      refine ⟨ap.1, ?_⟩
      rw [ap.2, wpr_ok, later]
      simp only [wrs_seqL, wS_asg, wS_ife, wS_ret, wS_nil, wS_exp, wE_cS, wE_cI, wE_cN, wE_cB, wE_call, wE_var, wE_glb, wE_bop, wE_idx, wE_lst, wE_tup, wE_blt, wE_met, wT_cmp, wT_and, wT_or, wT_nt, wT_one, wT_tru, wE_ite, wE_and, wE_or, wE_one, wE_nt, wE_cmp, wE_lc, wI_itr, wI_rng, wA_cons, wA_nil, wpO, wpF, List.set, List.getElem?_cons_zero, List.getElem?_cons_succ, Option.join_some, Bool.false_eq_true, if_false, if_true]
      refine ⟨⟨_, _, _, rfl⟩, xs ++ [s], by rw [Store.set_ob, List.map_append]; rfl, by rw [List.length_append, l1]; rfl, fun y hy => ?_, ?_, (T3.setN lt3 hne).mono (by omega), (K1.trans K3).setN (Nat.le_refl _), lt3⟩
      · rcases List.mem_append.mp hy with hy | hy
        · exact n1 y hy
        · rw [List.mem_singleton.mp hy]; exact hs
      · have p : (xs ++ [s] ++ os).Perm (s :: (xs ++ os)) := by
          rw [List.append_assoc]
          exact List.perm_middle
        exact p.nodup_iff.mpr (List.nodup_cons.mpr ⟨hno, nd1⟩)
    by_cases hin : s ∈ xs ++ os
    · rw [decide_eq_true hin]
      simp only [wrs_seqL, wS_asg, wS_ife, wS_ret, wS_nil, wS_exp, wE_cS, wE_cI, wE_cN, wE_cB, wE_call, wE_var, wE_glb, wE_bop, wE_idx, wE_lst, wE_tup, wE_blt, wE_met, wT_cmp, wT_and, wT_or, wT_nt, wT_one, wT_tru, wE_ite, wE_and, wE_or, wE_one, wE_nt, wE_cmp, wE_lc, wI_itr, wI_rng, wA_cons, wA_nil, wpO, wpF, List.set, List.getElem?_cons_zero, List.getElem?_cons_succ, Option.join_some, Bool.false_eq_true, if_false, if_true, src_lst]
      refine ⟨by decide, ?_⟩
      refine (comp_keep (xs := eight.map D.str) (fun d => match d with | .str x => !decide (x ∈ xs ++ os) | _ => false) (fun d => d) T2.wf (by decide) fun y hy S' G' => ?_).wpr fun S3 G3 => ?_
      · obtain ⟨z, hz, rfl⟩ := List.mem_map.mp hy
        have o3 : S'.ob S.nx = some (.lst (xs.map D.str)) := (G'.ob _ lt2).trans o2
        refine turn_if (.of ?_) fun _ S4 G4 => .of ?_
        · show wpr (evT (sem T (n + 6)) (gvs T) (.cmp .NotIn (.var 7) (.bop false .Add (.var 4) (.var 3))) _ S') _ _
          simp only [wrs_seqL, wS_asg, wS_ife, wS_ret, wS_nil, wS_exp, wE_cS, wE_cI, wE_cN, wE_cB, wE_call, wE_var, wE_glb, wE_bop, wE_idx, wE_lst, wE_tup, wE_blt, wE_met, wT_cmp, wT_and, wT_or, wT_nt, wT_one, wT_tru, wE_ite, wE_and, wE_or, wE_one, wE_nt, wE_cmp, wE_lc, wI_itr, wI_rng, wA_cons, wA_nil, wpO, wpF, List.set, List.getElem?_cons_zero, List.getElem?_cons_succ, Option.join_some, Bool.false_eq_true, if_false, if_true, List.map, wipeE, add_ol o3 hlen, c_notin_txt (esq _)]
          exact ⟨trivial, .refl G'.wf⟩
        · simp only [wrs_seqL, wS_asg, wS_ife, wS_ret, wS_nil, wS_exp, wE_cS, wE_cI, wE_cN, wE_cB, wE_call, wE_var, wE_glb, wE_bop, wE_idx, wE_lst, wE_tup, wE_blt, wE_met, wT_cmp, wT_and, wT_or, wT_nt, wT_one, wT_tru, wE_ite, wE_and, wE_or, wE_one, wE_nt, wE_cmp, wE_lc, wI_itr, wI_rng, wA_cons, wA_nil, wpO, wpF, List.set, List.getElem?_cons_zero, List.getElem?_cons_succ, Option.join_some, Bool.false_eq_true, if_false, if_true, List.map, wipeE]
          exact ⟨trivial, .refl G4.wf⟩
      · have ef : (eight.map D.str).filter (fun d => match d with | .str x => !decide (x ∈ xs ++ os) | _ => false) = (eight.filter fun x => !decide (x ∈ xs ++ os)).map D.str := by
          rw [List.filter_map]
          rfl
        obtain ⟨z, r, ez⟩ := fresh (l := xs ++ os) (by rw [List.length_append]; omega)
        have hz : z ∈ eight.filter (fun x => !decide (x ∈ xs ++ os)) := by rw [ez]; exact List.mem_cons_self ..
        rw [ef, ez, List.map_id', List.map_cons, ix_lst, atI_zero]
        simp only [wrs_seqL, wS_asg, wS_ife, wS_ret, wS_nil, wS_exp, wE_cS, wE_cI, wE_cN, wE_cB, wE_call, wE_var, wE_glb, wE_bop, wE_idx, wE_lst, wE_tup, wE_blt, wE_met, wT_cmp, wT_and, wT_or, wT_nt, wT_one, wT_tru, wE_ite, wE_and, wE_or, wE_one, wE_nt, wE_cmp, wE_lc, wI_itr, wI_rng, wA_cons, wA_nil, wpO, wpF, List.set, List.getElem?_cons_zero, List.getElem?_cons_succ, Option.join_some, Bool.false_eq_true, if_false, if_true]
        rw [later_nil, later]
        obtain ⟨hz1, hz2⟩ := List.mem_filter.mp hz
        exact fin z S3 _ (eight_name z hz1) (by simpa using hz2) ((T2.gr G3).mono (by omega)) (K2.trans (.of G3)) ((G3.ob _ lt2).trans o2) (Nat.lt_of_lt_of_le lt2 G3.nx)
    · rw [decide_eq_false hin]
      simp only [wrs_seqL, wS_asg, wS_ife, wS_ret, wS_nil, wS_exp, wE_cS, wE_cI, wE_cN, wE_cB, wE_call, wE_var, wE_glb, wE_bop, wE_idx, wE_lst, wE_tup, wE_blt, wE_met, wT_cmp, wT_and, wT_or, wT_nt, wT_one, wT_tru, wE_ite, wE_and, wE_or, wE_one, wE_nt, wE_cmp, wE_lc, wI_itr, wI_rng, wA_cons, wA_nil, wpO, wpF, List.set, List.getElem?_cons_zero, List.getElem?_cons_succ, Option.join_some, Bool.false_eq_true, if_false, if_true]
      rw [later]
      exact fin s S2 _ hs hin (T2.mono (by omega)) K2 o2 lt2
  · rintro env S1 ⟨⟨a, b, c, rfl⟩, xs, o1, l1, n1, nd1, T1, K1, lt1⟩
    rw [intL_len] at l1 T1
    rw [later]
    simp only [wrs_seqL, wS_asg, wS_ife, wS_ret, wS_nil, wS_exp, wE_cS, wE_cI, wE_cN, wE_cB, wE_call, wE_var, wE_glb, wE_bop, wE_idx, wE_lst, wE_tup, wE_blt, wE_met, wT_cmp, wT_and, wT_or, wT_nt, wT_one, wT_tru, wE_ite, wE_and, wE_or, wE_one, wE_nt, wE_cmp, wE_lc, wI_itr, wI_rng, wA_cons, wA_nil, wpO, wpF, List.set, List.getElem?_cons_zero, List.getElem?_cons_succ, Option.join_some, Bool.false_eq_true, if_false, if_true, tup_loc o1]
    exact ⟨⟨xs, rfl, by omega, n1, nd1⟩, T1.mono (by omega), K1⟩
end K10

namespace K10
open PySem L2 ML

theorem dr {n t m : Nat} {k : Int} {ns : List Int} {S : Store} (h : Tn t m S) (hl : m < 90000) (hk : 0 < k) : Sp t m 1 S (fun d => ∃ r, d = .int r ∧ 0 ≤ r ∧ r < k) (sem T (n + 3) 20 [script ns, .loc t, .int k] S) := ok_draw hc hm hd h hl hk
theorem pk {n t m : Nat} {xs : List D} {ns : List Int} {S : Store} (h : Tn t m S) (hl : m < 90000) (hx : 0 < xs.length) : Sp t m 1 S (fun d => d ∈ xs) (sem T (n + 4) 21 [script ns, .loc t, .lst xs] S) := ok_pickL hc hm hd hp h hl hx
/-! ### messages -/
/-- a message of k arguments -/
def Ar (s : Str) (k : Nat) : Prop := s.length ≤ 60 ∧ ∃ ps r, pcs s.cps.toList = ps ++ [r] ∧ arityD s ps r = .int k
theorem not_colon_all : (58 : Nat) ∉ allS.cps.toList := by decide +kernel
theorem name_all {s : Str} (h : isName s = true) : ∀ x ∈ s.cps.toList, x ∈ allS.cps.toList := by
  unfold isName isWorded inAll at h
  simp only [Bool.and_eq_true, List.all_eq_true] at h
  intro x hx
  have z := h.1.2 x hx
  rw [in_one, decide_eq_true_eq] at z
  exact z
theorem name_nocol {s : Str} (h : isName s = true) : 58 ∉ s.cps.toList := fun z => not_colon_all (name_all h 58 z)
theorem ar_name {s : Str} (h : isName s = true) : Ar s 0 := by
  refine ⟨by have := name_len h; omega, [], s.cps.toList, by rw [pcs_none (name_nocol h)]; rfl, ?_⟩
  unfold arityD
  rw [if_pos h]
  rfl
def five : List Str := ["+", "-", "*", "<", "="]
theorem ar_sign : ∀ s ∈ five, Ar s 1 := by
  intro s hs
  have z : ∀ s ∈ five, s.length ≤ 60 ∧ 58 ∉ s.cps.toList ∧ isName s = false ∧ s.length = 1 ∧ subIn s signS = true := by decide +kernel
  obtain ⟨z1, z2, z3, z4, z5⟩ := z s hs
  refine ⟨z1, [], s.cps.toList, by rw [pcs_none z2]; rfl, ?_⟩
  unfold arityD
  rw [if_neg (by rw [z3]; exact Bool.false_ne_true), if_pos ⟨z4, z5⟩]
  rfl
/-- the text of words, each with its colon -/
def colons : List Str → List Nat
  | [] => []
  | s :: r => s.cps.toList ++ 58 :: colons r
theorem pcs_colons : ∀ {ss : List Str}, (∀ s ∈ ss, isName s = true) → pcs (colons ss) = ss.map (fun s => s.cps.toList) ++ [[]]
  | [], _ => pcs_none (by simp [colons])
  | s :: r, h => by
    show pcs (s.cps.toList ++ 58 :: colons r) = _
    rw [pcs_cons (name_nocol (h s (List.mem_cons_self ..))), pcs_colons fun x hx => h x (List.mem_cons_of_mem _ hx)]
    rfl
theorem colons_len : ∀ {ss : List Str}, (∀ s ∈ ss, isName s = true) → (colons ss).length ≤ 13 * ss.length
  | [], _ => Nat.zero_le _
  | s :: r, h => by
    have z := colons_len fun x hx => h x (List.mem_cons_of_mem _ hx)
    have := name_len (h s (List.mem_cons_self ..))
    show (s.cps.toList ++ 58 :: colons r).length ≤ _
    rw [List.length_append, List.length_cons, List.length_cons, len_cps]
    omega
theorem ar_colons {ss : List Str} (h : ∀ s ∈ ss, isName s = true) (h1 : 1 ≤ ss.length) (h3 : ss.length ≤ 3) : Ar (mk (colons ss)) ss.length := by
  have hl := colons_len h
  have hc : 58 ∈ colons ss := by
    cases ss with
    | nil => simp at h1
    | cons s r => show 58 ∈ s.cps.toList ++ 58 :: colons r; simp
  have hl2 : 2 ≤ (colons ss).length := by
    cases ss with
    | nil => simp at h1
    | cons s r =>
      have := name_len (h s (List.mem_cons_self ..))
      show 2 ≤ (s.cps.toList ++ 58 :: colons r).length
      rw [List.length_append, List.length_cons, len_cps]
      omega
  refine ⟨by rw [mk_len]; omega, ss.map (fun s => s.cps.toList), [], by rw [tl_mk]; exact pcs_colons h, ?_⟩
  have hn : isName (mk (colons ss)) = false := by
    cases q : isName (mk (colons ss)) with
    | false => rfl
    | true => exact absurd hc (name_nocol q)
  have ha : ((ss.map fun s => s.cps.toList).all fun p => isName (mk p)) = true := by
    rw [List.all_map, List.all_eq_true]
    intro s hs
    show isName (mk s.cps.toList) = true
    rw [mk_tl]
    exact h s hs
  unfold arityD
  rw [if_neg (by rw [hn]; exact Bool.false_ne_true), if_neg (fun z => by rw [mk_len] at z; omega), if_pos ⟨rfl, by rw [List.length_map]; exact h1, by rw [List.length_map]; exact h3, ha⟩, List.length_map]
def emS : Str := ""
theorem em_len : emS.length = 0 := by decide +kernel
theorem join_col (ss : List Str) : Txt.join emS (ss.map fun s => s ++ colS) = mk (colons ss) := by
  refine TL.ext_tl ?_
  rw [TL.join_eq]
  have em : TL.tl emS = [] := by decide +kernel
  induction ss with
  | nil => rfl
  | cons s r ih =>
    cases r with
    | nil =>
      show TL.tl (s ++ colS) = s.cps.toList ++ 58 :: []
      rw [TL.tl_append]
      show s.cps.toList ++ colS.cps.toList = _
      rw [col_tl]
    | cons z r =>
      show TL.tl (s ++ colS ++ emS ++ Str.join emS ((z :: r).map fun s => s ++ colS)) = s.cps.toList ++ 58 :: colons (z :: r)
      rw [TL.tl_append, TL.tl_append, TL.tl_append, em, ih]
      show s.cps.toList ++ colS.cps.toList ++ [] ++ colons (z :: r) = _
      rw [col_tl]
      simp
theorem fiveD {S : Store} : seqOf S (.lst [D.str (Str.ofString "+"), D.str (Str.ofString "-"), D.str (Str.ofString "*"), D.str (Str.ofString "<"), D.str (Str.ofString "=")]) = some (five.map D.str) := rfl
def MsgD (k : Nat) (d : D) : Prop := ∃ s, d = .str s ∧ Ar s k
theorem ok_message {n t m k : Nat} {ns : List Int} {S : Store} (h : Tn t m S) (hl : m < 70000) (hk : k ≤ 3) : Sp t m 62 S (MsgD k) (sem T (n + 7) 26 [script ns, .loc t, .int k] S) := by
  show wpr (endF (evS (sem T (n + 6)) (gvs T) f_law_message.body [some (script ns), some (.loc t), some (.int k), none] S)) _ _
  have e0 : (Str.ofString ":" : Str) = colS := rfl
  have e1 : (Str.ofString "" : Str) = emS := rfl
  rw [wrs_end]
  simp only [f_law_message, e0, e1, wrs_seqL, wS_asg, wS_ife, wS_ret, wS_nil, wS_exp, wE_cS, wE_cI, wE_cN, wE_cB, wE_call, wE_var, wE_glb, wE_bop, wE_idx, wE_lst, wE_tup, wE_blt, wE_met, wT_cmp, wT_and, wT_or, wT_nt, wT_one, wT_tru, wE_ite, wE_and, wE_or, wE_one, wE_nt, wE_cmp, wE_lc, wI_itr, wI_rng, wA_cons, wA_nil, wpO, wpF, List.set, List.getElem?_cons_zero, List.getElem?_cons_succ, Option.join_some, Bool.false_eq_true, if_false, if_true, c_eq_int]
  by_cases h0 : k = 0
  · rw [decide_eq_true (by omega), if_pos rfl]
    subst h0
    refine (ok_name h (by omega)).use fun d S1 ⟨s, e, hs⟩ T1 K1 => ?_
    exact ⟨⟨s, e, ar_name hs⟩, T1.mono (by omega), K1⟩
  · rw [decide_eq_false (by omega), if_neg Bool.false_ne_true, later]
    simp only [wrs_seqL, wS_asg, wS_ife, wS_ret, wS_nil, wS_exp, wE_cS, wE_cI, wE_cN, wE_cB, wE_call, wE_var, wE_glb, wE_bop, wE_idx, wE_lst, wE_tup, wE_blt, wE_met, wT_cmp, wT_and, wT_or, wT_nt, wT_one, wT_tru, wE_ite, wE_and, wE_or, wE_one, wE_nt, wE_cmp, wE_lc, wI_itr, wI_rng, wA_cons, wA_nil, wpO, wpF, List.set, List.getElem?_cons_zero, List.getElem?_cons_succ, Option.join_some, Bool.false_eq_true, if_false, if_true, c_eq_int]
    have fin : ∀ (S1 : Store), Tn t (m + 1) S1 → Kp t S S1 → wrs (evS (sem T (n + 6)) (gvs T) (.seq (.ret (.met false .join (.cS emS) (.cons (.lc false [(("k" : Str), 3)] 3 (.rng (.var 2)) (.off) (.bop false .Add (.call 24 (.cons (.var 0) (.cons (.var 1) (.nil)))) (.cS colS))) (.nil)))) (.nil)) [some (script ns), some (.loc t), some (.int k), none] S1) (fun _ S' => MsgD k .non ∧ Tn t (m + 62) S' ∧ Kp t S S') (fun d S' => MsgD k d ∧ Tn t (m + 62) S' ∧ Kp t S S') (fun _ _ _ => False) := by
      intro S1 T1 K1
      simp only [wrs_seqL, wS_asg, wS_ife, wS_ret, wS_nil, wS_exp, wE_cS, wE_cI, wE_cN, wE_cB, wE_call, wE_var, wE_glb, wE_bop, wE_idx, wE_lst, wE_tup, wE_blt, wE_met, wT_cmp, wT_and, wT_or, wT_nt, wT_one, wT_tru, wE_ite, wE_and, wE_or, wE_one, wE_nt, wE_cmp, wE_lc, wI_itr, wI_rng, wA_cons, wA_nil, wpO, wpF, List.set, List.getElem?_cons_zero, List.getElem?_cons_succ, Option.join_some, Bool.false_eq_true, if_false, if_true]
      refine ⟨rfl, ⟨Int.le_trans (by omega : (k : Int) ≤ 3) (by decide), Int.le_trans (by decide) (by omega : (0 : Int) ≤ k)⟩, ?_⟩
      have hne : S1.nx ≠ t := Nat.ne_of_gt T1.lt
      refine wpr_comp (fun j acc S' => Tn t (m + 1 + 20 * j) S' ∧ Kp t S1 S' ∧ S1.nx < S'.nx ∧ S'.ob S1.nx = some (.lst acc) ∧ ∃ ss : List Str, acc = (ss.map fun s => s ++ colS).map D.str ∧ ss.length = j ∧ ∀ s ∈ ss, isName s = true) (by rw [intL_len]; exact Nat.lt_of_le_of_lt (by omega : (k : Int).toNat ≤ 3) (by decide)) ?_ (fun j acc S' z => ⟨z.2.2.2.1, ?_⟩) ?_ ?_
      · exact ⟨T1.gr (Gr.new T1.wf), .of (Gr.new T1.wf), Nat.lt_succ_self _, Store.new_ob, [], rfl, rfl, fun s z => (by cases z)⟩
      · obtain ⟨ss, e, el, _⟩ := z.2.2.2.2
        rw [e, List.length_map, List.length_map]
        omega
      · rintro j x acc S' hj ⟨T4, K4, n4, o4, ss, rfl, el, hn⟩
        have hj' : j < 3 := by
          have := (List.getElem?_eq_some_iff.mp hj).1
          rw [intL_len] at this
          omega
        refine turn_off rfl ?_
        simp only [wrs_seqL, wS_asg, wS_ife, wS_ret, wS_nil, wS_exp, wE_cS, wE_cI, wE_cN, wE_cB, wE_call, wE_var, wE_glb, wE_bop, wE_idx, wE_lst, wE_tup, wE_blt, wE_met, wT_cmp, wT_and, wT_or, wT_nt, wT_one, wT_tru, wE_ite, wE_and, wE_or, wE_one, wE_nt, wE_cmp, wE_lc, wI_itr, wI_rng, wA_cons, wA_nil, wpO, wpF, List.set, List.getElem?_cons_zero, List.getElem?_cons_succ, Option.join_some, Bool.false_eq_true, if_false, if_true, List.map, wipeE]
        refine (ok_name T4 (by omega)).use fun d S5 ⟨s, e, hs⟩ T5 K5 => ?_
        subst e
        rw [add_str (by have := name_len hs; rw [col_len]; omega)]
        have o5 := (K5.ob _ n4 hne).trans o4
        have n5 := Nat.lt_of_lt_of_le n4 K5.nx
        refine ⟨o5, (T5.setN n5 hne).mono (by omega), (K4.trans K5).setN (Nat.le_refl _), n5, Store.set_ob, ss ++ [s], by simp, by rw [List.length_append, el]; rfl, fun y hy => ?_⟩
        rcases List.mem_append.mp hy with hy | hy
        · exact hn y hy
        · rw [List.mem_singleton.mp hy]; exact hs
      · rintro acc S4 ⟨T4, K4, n4, o4, ss, rfl, el, hn⟩
        rw [intL_len] at el T4
        rw [if_neg Bool.false_ne_true]
        have elk : ss.length = k := by omega
        have hj := join_len emS (ss.map fun s => s ++ colS)
        have et : ∀ ys : List Str, txts (ys.map D.str) = some ys := fun ys => by
          induction ys with
          | nil => rfl
          | cons y ys ih => show (txts (ys.map D.str)).map (y :: ·) = _; rw [ih]; rfl
        have hb : ((ss.map fun s => s ++ colS).map (·.length)).sum + (ss.map fun s => s ++ colS).length * emS.length ≤ 100 := by
          have := sum_le (b := 13) (ys := ss.map fun s => s ++ colS) fun y hy => by
            obtain ⟨s, hs, rfl⟩ := List.mem_map.mp hy
            have := name_len (hn s hs)
            rw [app_len, col_len]
            omega
          rw [em_len]
          rw [List.length_map] at this
          omega
        have em : ∀ S, mfM false .join (.str emS) [.lst ((ss.map fun s => s ++ colS).map D.str)] S = .ok (.str (Txt.join emS (ss.map fun s => s ++ colS))) S := fun S => by
          show finO false ((txts ((ss.map fun s => s ++ colS).map D.str)).bind fun ys => if (ys.map (·.length)).sum + ys.length * emS.length ≤ nMax then some (PR.val (.str (Txt.join emS ys))) else none) S = _
          rw [et, Option.bind_some, if_pos (Nat.le_trans hb (by decide))]
          rfl
        rw [em, wpr_ok]
        refine ⟨⟨_, rfl, ?_⟩, ?_, ?_⟩
        · rw [join_col, ← elk]
          exact ar_colons hn (by omega) (by omega)
        · refine ⟨Store.del_WF T4.wf, T4.lt, ?_⟩
          obtain ⟨zs, z1, z2⟩ := T4.ob
          refine ⟨zs, ?_, by omega⟩
          rw [← z1]
          exact if_neg (Ne.symm hne)
        · refine K1.trans ⟨K4.nx, fun q h1 h2 => ?_⟩
          have : (S4.del S1.nx).ob q = S4.ob q := if_neg (Nat.ne_of_lt h1)
          rw [this]
          exact K4.ob q h1 h2
    by_cases h1 : k = 1
    · rw [decide_eq_true (by omega), if_pos rfl]
      refine (dr h (by omega) (by decide)).use fun d S1 ⟨r, e, r0, r1⟩ T1 K1 => ?_
      subst e
      simp only [wrs_seqL, wS_asg, wS_ife, wS_ret, wS_nil, wS_exp, wE_cS, wE_cI, wE_cN, wE_cB, wE_call, wE_var, wE_glb, wE_bop, wE_idx, wE_lst, wE_tup, wE_blt, wE_met, wT_cmp, wT_and, wT_or, wT_nt, wT_one, wT_tru, wE_ite, wE_and, wE_or, wE_one, wE_nt, wE_cmp, wE_lc, wI_itr, wI_rng, wA_cons, wA_nil, wpO, wpF, List.set, List.getElem?_cons_zero, List.getElem?_cons_succ, Option.join_some, Bool.false_eq_true, if_false, if_true, c_eq_int]
      by_cases hr : r = 0
      · rw [decide_eq_true hr, if_pos rfl]
        refine ⟨by decide, ?_⟩
        refine wpr_mono (ok_pickL (xs := five.map D.str) hc hm hd hp T1 (by omega) (by decide)) (fun d S2 ⟨e, T2, K2⟩ => ?_) (fun _ _ z => z)
        obtain ⟨s, hs, rfl⟩ := List.mem_map.mp e
        rw [h1]
        exact ⟨⟨s, rfl, ar_sign s hs⟩, T2.mono (by omega), K1.trans K2⟩
      · rw [decide_eq_false hr, if_neg Bool.false_ne_true, later]
        exact fin S1 T1 K1
    · rw [decide_eq_false (by omega), if_neg Bool.false_ne_true, later]
      exact fin S (h.mono (by omega)) .refl
end K10

namespace K10
open PySem L2 ML

def plain : List Str := ["self", "nil", "yes", "no"]
/-- a tree as the program looks at it, of no more than n within one another; whether it may be a way back -/
inductive WT : Nat → Bool → D → Prop
  | num {n : Nat} {b : Bool} {i : Int} : 0 ≤ i → i ≤ 999999 → WT (n + 1) b (.tup [.str "number", .int i])
  | word {n : Nat} {b : Bool} {s : Str} {k : Nat} : Ar s k → WT (n + 1) b (.tup [.str "word", .str s])
  | name {n : Nat} {b : Bool} {s : Str} : (isName s = true ∨ isWorded s greatS = true ∨ s ∈ plain) → s.length ≤ 12 → WT (n + 1) b (.tup [.str "name", .str s])
  | set {n : Nat} {b : Bool} {s : Str} {t : D} : isName s = true → WT n false t → WT (n + 1) b (.tup [.str "set", .str s, t])
  | send {n : Nat} {b : Bool} {t : D} {s : Str} {ts : List D} : Ar s ts.length → ts.length ≤ 3 → WT n false t → (∀ x ∈ ts, WT n false x) → WT (n + 1) b (.tup [.str "send", t, .str s, .tup ts])
  | sup {n : Nat} {b : Bool} {s : Str} {ts : List D} : Ar s ts.length → ts.length ≤ 3 → (∀ x ∈ ts, WT n false x) → WT (n + 1) b (.tup [.str "super", .str s, .tup ts])
  | blk {n : Nat} {b : Bool} {ps ms : List Str} {bs : List D} : ps.length ≤ 2 → ms.length ≤ 2 → (∀ x ∈ ps ++ ms, isName x = true) → (ps ++ ms).Nodup → bs.length ≤ 4 →
      (∀ (k : Nat) (x : D), bs[k]? = some x → WT n (decide (k + 1 = bs.length)) x) → WT (n + 1) b (.tup [.str "block", .tup (ps.map D.str), .tup (ms.map D.str), .tup bs])
  | back {n : Nat} {t : D} : WT n false t → WT (n + 1) true (.tup [.str "back", t])
theorem WT.any {n : Nat} {b : Bool} {d : D} (h : WT n false d) : WT n b d := by
  cases h with
  | num a b => exact .num a b
  | word a => exact .word a
  | name a b => exact .name a b
  | set a b => exact .set a b
  | send a b c d => exact .send a b c d
  | sup a b c => exact .sup a b c
  | blk a b c d e f => exact .blk a b c d e f
/-! ### the same at any level that is high enough -/
section
variable {L t m : Nat} {ns : List Int} {S : Store}
theorem drL {k : Int} (hL : 3 ≤ L) (h : Tn t m S) (hl : m < 90000) (hk : 0 < k) : Sp t m 1 S (fun d => ∃ r, d = .int r ∧ 0 ≤ r ∧ r < k) (sem T L 20 [script ns, .loc t, .int k] S) := by
  obtain ⟨n, rfl⟩ : ∃ n, L = n + 3 := ⟨L - 3, by omega⟩
  exact dr h hl hk
theorem pkL {xs : List D} (hL : 4 ≤ L) (h : Tn t m S) (hl : m < 90000) (hx : 0 < xs.length) : Sp t m 1 S (fun d => d ∈ xs) (sem T L 21 [script ns, .loc t, .lst xs] S) := by
  obtain ⟨n, rfl⟩ : ∃ n, L = n + 4 := ⟨L - 4, by omega⟩
  exact pk h hl hx
theorem nameL (hL : 6 ≤ L) (h : Tn t m S) (hl : m < 80000) : Sp t m 20 S NameD (sem T L 24 [script ns, .loc t] S) := by
  obtain ⟨n, rfl⟩ : ∃ n, L = n + 6 := ⟨L - 6, by omega⟩
  exact ok_name h hl
theorem namesL {k : Nat} {os : List Str} (hL : 7 ≤ L) (h : Tn t m S) (hl : m < 70000) (hk : k + os.length < 8) (ho : os.Nodup) :
    Sp t m (20 * k) S (NamesD k os) (sem T L 25 [script ns, .loc t, .int k, .lst (os.map D.str)] S) := by
  obtain ⟨n, rfl⟩ : ∃ n, L = n + 7 := ⟨L - 7, by omega⟩
  exact ok_names h hl hk ho
theorem messageL {k : Nat} (hL : 7 ≤ L) (h : Tn t m S) (hl : m < 70000) (hk : k ≤ 3) : Sp t m 62 S (MsgD k) (sem T L 26 [script ns, .loc t, .int k] S) := by
  obtain ⟨n, rfl⟩ : ∃ n, L = n + 7 := ⟨L - 7, by omega⟩
  exact ok_message h hl hk
theorem wordL {f : Str} (hL : 5 ≤ L) (h : Tn t m S) (hl : m < 80000) (h1 : 0 < f.length) (h2 : f.length ≤ 1000) (hf : ∀ x ∈ f.cps.toList, x ∈ allS.cps.toList) :
    Sp t m 20 S (fun d => ∃ s, d = .str s ∧ Wo f 12 s) (sem T L 23 [script ns, .loc t, .str f] S) := by
  obtain ⟨n, rfl⟩ : ∃ n, L = n + 5 := ⟨L - 5, by omega⟩
  exact ok_word h hl h1 h2 hf
theorem leafL (hL : 8 ≤ L) (h : Tn t m S) (hl : m < 60000) : Sp t m 70 S (fun d => ∀ N b, WT (N + 1) b d) (sem T L 27 [script ns, .loc t] S) := by
  obtain ⟨n, rfl⟩ : ∃ n, L = n + 8 := ⟨L - 8, by omega⟩
  show wpr (endF (evS (sem T (n + 7)) (gvs T) f_law_leaf.body [some (script ns), some (.loc t), none] S)) _ _
  have egr : Str.ofString "ABCDEFGHIJKLMNOPQRSTUVWXYZ" = greatS := rfl
  rw [wrs_end]
  simp only [f_law_leaf, egr, wrs_seqL, wS_asg, wS_ife, wS_ret, wS_nil, wS_exp, wE_cS, wE_cI, wE_cN, wE_cB, wE_call, wE_var, wE_glb, wE_bop, wE_idx, wE_lst, wE_tup, wE_blt, wE_met, wT_cmp, wT_and, wT_or, wT_nt, wT_one, wT_tru, wE_ite, wE_and, wE_or, wE_one, wE_nt, wE_cmp, wE_lc, wI_itr, wI_rng, wA_cons, wA_nil, wpO, wpF, List.set, List.getElem?_cons_zero, List.getElem?_cons_succ, Option.join_some, Bool.false_eq_true, if_false, if_true]
  refine (drL (by omega) h (by omega) (by decide)).use fun d S1 ⟨way, e, w0, w1⟩ T1 K1 => ?_
  subst e
  rw [later]
  simp only [wrs_seqL, wS_asg, wS_ife, wS_ret, wS_nil, wS_exp, wE_cS, wE_cI, wE_cN, wE_cB, wE_call, wE_var, wE_glb, wE_bop, wE_idx, wE_lst, wE_tup, wE_blt, wE_met, wT_cmp, wT_and, wT_or, wT_nt, wT_one, wT_tru, wE_ite, wE_and, wE_or, wE_one, wE_nt, wE_cmp, wE_lc, wI_itr, wI_rng, wA_cons, wA_nil, wpO, wpF, List.set, List.getElem?_cons_zero, List.getElem?_cons_succ, Option.join_some, Bool.false_eq_true, if_false, if_true, c_eq_int]
  by_cases h0 : way = 0
  · rw [decide_eq_true h0, if_pos rfl]
    refine ⟨by decide, ?_⟩
    refine (pkL (by omega) T1 (by omega) (by decide)).use fun d S2 e T2 K2 => ?_
    obtain ⟨k, ek, k0, k1⟩ : ∃ k : Int, d = .int k ∧ 0 < k ∧ k ≤ 1000000 := by
      simp only [List.mem_cons, List.not_mem_nil, or_false] at e
      rcases e with rfl | rfl | rfl <;> exact ⟨_, rfl, by decide, by decide⟩
    subst ek
    refine (drL (by omega) T2 (by omega) k0).use fun d S3 ⟨r, e, r0, r1⟩ T3 K3 => ?_
    subst e
    exact ⟨by show 2 ≤ nMax; decide, fun N b => .num r0 (by omega), T3.mono (by omega), (K1.trans K2).trans K3⟩
  · rw [decide_eq_false h0, if_neg Bool.false_ne_true, later]
    simp only [wrs_seqL, wS_asg, wS_ife, wS_ret, wS_nil, wS_exp, wE_cS, wE_cI, wE_cN, wE_cB, wE_call, wE_var, wE_glb, wE_bop, wE_idx, wE_lst, wE_tup, wE_blt, wE_met, wT_cmp, wT_and, wT_or, wT_nt, wT_one, wT_tru, wE_ite, wE_and, wE_or, wE_one, wE_nt, wE_cmp, wE_lc, wI_itr, wI_rng, wA_cons, wA_nil, wpO, wpF, List.set, List.getElem?_cons_zero, List.getElem?_cons_succ, Option.join_some, Bool.false_eq_true, if_false, if_true, c_eq_int]
    by_cases h1 : way = 1
    · rw [decide_eq_true h1, if_pos rfl]
      refine (drL (by omega) T1 (by omega) (by decide)).use fun d S2 ⟨r, e, r0, r1⟩ T2 K2 => ?_
      obtain ⟨k, rfl⟩ : ∃ k : Nat, r = k := ⟨r.toNat, by omega⟩
      subst e
      refine (messageL (by omega) T2 (by omega) (by omega)).use fun d S3 ⟨s, e, hs⟩ T3 K3 => ?_
      subst e
      exact ⟨by show 2 ≤ nMax; decide, fun N b => .word hs, T3.mono (by omega), (K1.trans K2).trans K3⟩
    · rw [decide_eq_false h1, if_neg Bool.false_ne_true, later]
      simp only [wrs_seqL, wS_asg, wS_ife, wS_ret, wS_nil, wS_exp, wE_cS, wE_cI, wE_cN, wE_cB, wE_call, wE_var, wE_glb, wE_bop, wE_idx, wE_lst, wE_tup, wE_blt, wE_met, wT_cmp, wT_and, wT_or, wT_nt, wT_one, wT_tru, wE_ite, wE_and, wE_or, wE_one, wE_nt, wE_cmp, wE_lc, wI_itr, wI_rng, wA_cons, wA_nil, wpO, wpF, List.set, List.getElem?_cons_zero, List.getElem?_cons_succ, Option.join_some, Bool.false_eq_true, if_false, if_true, c_eq_int]
      by_cases h2 : way = 2
      · rw [decide_eq_true h2, if_pos rfl]
        refine ⟨by decide, ?_⟩
        refine (pkL (xs := plain.map D.str) (by omega) T1 (by omega) (by decide)).use fun d S2 e T2 K2 => ?_
        obtain ⟨s, hs, rfl⟩ := List.mem_map.mp e
        have hl : ∀ x ∈ plain, x.length ≤ 12 := by decide +kernel
        exact ⟨by show 2 ≤ nMax; decide, fun N b => .name (.inr (.inr hs)) (hl s hs), T2.mono (by omega), K1.trans K2⟩
      · rw [decide_eq_false h2, if_neg Bool.false_ne_true, later]
        simp only [wrs_seqL, wS_asg, wS_ife, wS_ret, wS_nil, wS_exp, wE_cS, wE_cI, wE_cN, wE_cB, wE_call, wE_var, wE_glb, wE_bop, wE_idx, wE_lst, wE_tup, wE_blt, wE_met, wT_cmp, wT_and, wT_or, wT_nt, wT_one, wT_tru, wE_ite, wE_and, wE_or, wE_one, wE_nt, wE_cmp, wE_lc, wI_itr, wI_rng, wA_cons, wA_nil, wpO, wpF, List.set, List.getElem?_cons_zero, List.getElem?_cons_succ, Option.join_some, Bool.false_eq_true, if_false, if_true, c_eq_int]
        by_cases h3 : way = 3
        · rw [decide_eq_true h3, if_pos rfl]
          refine (wordL (by omega) T1 (by omega) gr_len.1 gr_len.2 gr_all).use fun d S2 ⟨s, e, hs⟩ T2 K2 => ?_
          subst e
          exact ⟨by show 2 ≤ nMax; decide, fun N b => .name (.inr (.inl hs.worded)) hs.1, T2.mono (by omega), K1.trans K2⟩
        · rw [decide_eq_false h3, if_neg Bool.false_ne_true, later]
          simp only [wrs_seqL, wS_asg, wS_ife, wS_ret, wS_nil, wS_exp, wE_cS, wE_cI, wE_cN, wE_cB, wE_call, wE_var, wE_glb, wE_bop, wE_idx, wE_lst, wE_tup, wE_blt, wE_met, wT_cmp, wT_and, wT_or, wT_nt, wT_one, wT_tru, wE_ite, wE_and, wE_or, wE_one, wE_nt, wE_cmp, wE_lc, wI_itr, wI_rng, wA_cons, wA_nil, wpO, wpF, List.set, List.getElem?_cons_zero, List.getElem?_cons_succ, Option.join_some, Bool.false_eq_true, if_false, if_true]
          refine (nameL (by omega) T1 (by omega)).use fun d S2 ⟨s, e, hs⟩ T2 K2 => ?_
          subst e
          exact ⟨by show 2 ≤ nMax; decide, fun N b => .name (.inl hs) (name_len hs).2, T2.mono (by omega), K1.trans K2⟩
end
end K10

namespace K10
open PySem L2 ML

def cT : Nat → Nat
  | 0 => 70
  | 1 => 70
  | d + 2 => 190 + 4 * cT (d + 1)
theorem cT_up : ∀ d, cT d ≤ cT (d + 1)
  | 0 => Nat.le_refl _
  | d + 1 => by show cT (d + 1) ≤ 190 + 4 * cT (d + 1); omega
def PTree (d : Nat) : Prop := ∀ (L t m N : Nat) (ns : List Int) (S : Store), 3 * d + 8 ≤ L → Tn t m S → m + cT d ≤ 50000 → 2 * d ≤ N + 1 → Sp t m (cT d) S (WT N false) (sem T L 28 [script ns, .loc t, .int d] S)
def BodyD (N most : Nat) (d : D) : Prop := ∃ bs : List D, d = .tup bs ∧ bs.length ≤ most ∧ ∀ (k : Nat) (x : D), bs[k]? = some x → WT N (decide (k + 1 = bs.length)) x
theorem gt_int {S : Store} {i j : Int} : cmpP S .Gt (.int i) (.int j) = some (decide (j < i)) := rfl
theorem bodyL {d : Nat} (hd : 1 ≤ d) (ht : PTree d) (ht' : 1 < d → PTree (d - 1)) {L t m N most : Nat} {ns : List Int} {S : Store} (hL : 3 * d + 9 ≤ L) (h : Tn t m S) (hm1 : 1 ≤ most) (hm4 : most ≤ 4) (hl : m + 2 + most * cT d ≤ 50000) (hN : 2 * d ≤ N + 1) :
    Sp t m (2 + most * cT d) S (BodyD N most) (sem T L 30 [script ns, .loc t, .int d, .int most] S) := by
  obtain ⟨n, rfl⟩ : ∃ n, L = n + 1 := ⟨L - 1, by omega⟩
  show wpr (endF (evS (sem T n) (gvs T) f_law_body.body [some (script ns), some (.loc t), some (.int d), some (.int most), none, none, none] S)) _ _
  rw [wrs_end]
  simp only [f_law_body, wrs_seqL, wS_asg, wS_ife, wS_ret, wS_nil, wS_exp, wE_cS, wE_cI, wE_cN, wE_cB, wE_call, wE_var, wE_glb, wE_bop, wE_idx, wE_lst, wE_tup, wE_blt, wE_met, wT_cmp, wT_and, wT_or, wT_nt, wT_one, wT_tru, wE_ite, wE_and, wE_or, wE_one, wE_nt, wE_cmp, wE_lc, wI_itr, wI_rng, wA_cons, wA_nil, wpO, wpF, List.set, List.getElem?_cons_zero, List.getElem?_cons_succ, Option.join_some, Bool.false_eq_true, if_false, if_true]
  refine (drL (by omega) h (by omega) (by omega)).use fun z S1 ⟨r, e, r0, r1⟩ T1 K1 => ?_
  subst e
  rw [later]
  simp only [wS_asgC, wrs_seqL, wS_asg, wS_ife, wS_ret, wS_nil, wS_exp, wE_cS, wE_cI, wE_cN, wE_cB, wE_call, wE_var, wE_glb, wE_bop, wE_idx, wE_lst, wE_tup, wE_blt, wE_met, wT_cmp, wT_and, wT_or, wT_nt, wT_one, wT_tru, wE_ite, wE_and, wE_or, wE_one, wE_nt, wE_cmp, wE_lc, wI_itr, wI_rng, wA_cons, wA_nil, wpO, wpF, List.set, List.getElem?_cons_zero, List.getElem?_cons_succ, Option.join_some, Bool.false_eq_true, if_false, if_true]
  have hrm : r.toNat + 1 ≤ most := by omega
  have hmul : cT d * r.toNat + cT d ≤ most * cT d := by
    have := Nat.mul_le_mul_right (cT d) hrm
    rw [Nat.add_mul, Nat.mul_comm] at this
    omega
  refine ⟨⟨Int.le_trans (by omega : r ≤ 4) (by decide), Int.le_trans (by decide) r0⟩, ?_⟩
  refine comp_draws (c := cT d) (P := WT N false) T1 (by rw [intL_len]; exact Nat.lt_of_le_of_lt (by omega : r.toNat ≤ 4) (by decide)) (fun _ _ => rfl) (fun j x S' hj T' => ?_) fun acc S2 el ha T2 K2 hob => ?_
  · have hj' : j < r.toNat := by
      have := (List.getElem?_eq_some_iff.mp hj).1
      rwa [intL_len] at this
    have hmj : cT d * j ≤ cT d * r.toNat := Nat.mul_le_mul_left _ (by omega)
    unfold ML.Sp
    simp only [wrs_seqL, wS_asg, wS_ife, wS_ret, wS_nil, wS_exp, wE_cS, wE_cI, wE_cN, wE_cB, wE_call, wE_var, wE_glb, wE_bop, wE_idx, wE_lst, wE_tup, wE_blt, wE_met, wT_cmp, wT_and, wT_or, wT_nt, wT_one, wT_tru, wE_ite, wE_and, wE_or, wE_one, wE_nt, wE_cmp, wE_lc, wI_itr, wI_rng, wA_cons, wA_nil, wpO, wpF, List.set, List.getElem?_cons_zero, List.getElem?_cons_succ, Option.join_some, Bool.false_eq_true, if_false, if_true, List.map, wipeE]
    exact ht n t _ N ns S' (by omega) T' (by omega) hN
  · rw [intL_len] at el T2
    obtain ⟨o2, n2⟩ := hob rfl
    rw [if_pos rfl, later]
    have hne : S1.nx ≠ t := Nat.ne_of_gt T1.lt
    simp only [wrs_seqL, wS_asg, wS_ife, wS_ret, wS_nil, wS_exp, wE_cS, wE_cI, wE_cN, wE_cB, wE_call, wE_var, wE_glb, wE_bop, wE_idx, wE_lst, wE_tup, wE_blt, wE_met, wT_cmp, wT_and, wT_or, wT_nt, wT_one, wT_tru, wE_ite, wE_and, wE_or, wE_one, wE_nt, wE_cmp, wE_lc, wI_itr, wI_rng, wA_cons, wA_nil, wpO, wpF, List.set, List.getElem?_cons_zero, List.getElem?_cons_succ, Option.join_some, Bool.false_eq_true, if_false, if_true]
    refine (drL (by omega) T2 (by omega) (by decide)).use fun z S3 ⟨q, e, q0, q1⟩ T3 K3 => ?_
    subst e
    have o3 := (K3.ob _ n2 hne).trans o2
    have n3 := Nat.lt_of_lt_of_le n2 K3.nx
    simp only [c_eq_int, gt_int]
    have fin : ∀ (S4 : Store) (bs : List D) (v : Option D), S4.ob S1.nx = some (.lst bs) → bs.length ≤ most → (∀ (k : Nat) (x : D), bs[k]? = some x → WT N (decide (k + 1 = bs.length)) x) → Tn t (m + (2 + most * cT d)) S4 → Kp t S S4 →
        wrs (evS (sem T n) (gvs T) (.seq (.ret (.blt false .tuple (.cons (.var 5) (.nil)))) (.nil)) [some (script ns), some (.loc t), some (.int d), some (.int most), some (.int r), some (.loc S1.nx), v] S4) (fun _ S' => BodyD N most .non ∧ Tn t (m + (2 + most * cT d)) S' ∧ Kp t S S') (fun z S' => BodyD N most z ∧ Tn t (m + (2 + most * cT d)) S' ∧ Kp t S S') (fun _ _ _ => False) := by
      intro S4 bs v o4 hb hw T4 K4
      simp only [wrs_seqL, wS_asg, wS_ife, wS_ret, wS_nil, wS_exp, wE_cS, wE_cI, wE_cN, wE_cB, wE_call, wE_var, wE_glb, wE_bop, wE_idx, wE_lst, wE_tup, wE_blt, wE_met, wT_cmp, wT_and, wT_or, wT_nt, wT_one, wT_tru, wE_ite, wE_and, wE_or, wE_one, wE_nt, wE_cmp, wE_lc, wI_itr, wI_rng, wA_cons, wA_nil, wpO, wpF, List.set, List.getElem?_cons_zero, List.getElem?_cons_succ, Option.join_some, Bool.false_eq_true, if_false, if_true, tup_loc o4]
      exact ⟨⟨bs, rfl, hb, hw⟩, T4, K4⟩
    have plainOk : ∀ (k : Nat) (x : D), acc[k]? = some x → WT N (decide (k + 1 = acc.length)) x := fun k x hx => (ha x (List.mem_of_getElem? hx)).any
    by_cases hb : q = 0 ∧ (1 : Int) < d
    · rw [decide_eq_true hb.1, if_pos rfl, decide_eq_true hb.2, if_pos rfl]
      obtain ⟨d', rfl⟩ : ∃ d', d = d' + 1 := ⟨d - 1, by omega⟩
      have ap := fun x => ap_loc (x := x) o3 (by omega : acc.length < 1000)
      simp only [sub_int]
      rw [show ((d' + 1 : Nat) : Int) - 1 = (d' : Int) by omega]
      have hup := cT_up d'
      have ht2 : PTree d' := ht' (by omega)
      refine ⟨(ap .non).1, ?_⟩
      refine (ht2 n t _ (N - 1) ns S3 (by omega) T3 (by omega) (by omega)).use fun z S4 hz T4 K4 => ?_
      have o4 := (K4.ob _ n3 hne).trans o3
      have n4 := Nat.lt_of_lt_of_le n3 K4.nx
      refine ⟨by show 2 ≤ nMax; decide, ?_⟩
      rw [(ap_loc o4 (by omega : acc.length < 1000)).2, wpr_ok, later_nil, later]
      obtain ⟨N', rfl⟩ : ∃ N', N = N' + 1 := ⟨N - 1, by omega⟩
      refine fin _ (acc ++ [.tup [.str (Str.ofString "back"), z]]) _ Store.set_ob (by rw [List.length_append, el]; show r.toNat + 1 ≤ most; omega) (fun k x hx => ?_) ((T4.setN n4 hne).mono (by omega)) ((((K1.trans K2).trans K3).trans K4).setN K1.nx)
      rw [List.length_append]
      rcases Nat.lt_or_ge k acc.length with hk | hk
      · rw [List.getElem?_append_left hk] at hx
        exact (ha x (List.mem_of_getElem? hx)).any
      · rw [List.getElem?_append_right hk] at hx
        have hk0 : k - acc.length = 0 := by
          have := (List.getElem?_eq_some_iff.mp hx).1
          simp at this
          omega
        rw [hk0] at hx
        cases hx
        rw [decide_eq_true (by simp; omega)]
        exact .back hz
    · rw [ite2 (by rw [decide_eq_true_eq, decide_eq_true_eq]; exact hb), later]
      exact fin S3 acc _ o3 (by omega) plainOk (T3.mono (by omega)) ((K1.trans K2).trans K3)
theorem colonsOf : Ar (Str.ofString "while:") 1 ∧ Ar (Str.ofString "then:") 1 ∧ Ar (Str.ofString "then:else:") 2 := by
  have w1 : Str.ofString "while:" = mk (colons ["while"]) := by decide +kernel
  have w2 : Str.ofString "then:" = mk (colons ["then"]) := by decide +kernel
  have w3 : Str.ofString "then:else:" = mk (colons ["then", "else"]) := by decide +kernel
  refine ⟨?_, ?_, ?_⟩
  · rw [w1]; exact ar_colons (ss := ["while"]) (by decide +kernel) (by decide) (by decide)
  · rw [w2]; exact ar_colons (ss := ["then"]) (by decide +kernel) (by decide) (by decide)
  · rw [w3]; exact ar_colons (ss := ["then", "else"]) (by decide +kernel) (by decide) (by decide)
end K10

namespace K10
open PySem L2 ML

theorem st_loc {S : Store} {f : Nat} {i : Int} {xs : List D} {v : D} (h : S.ob f = some (.lst xs)) (h0 : 0 ≤ i) (hk : i.toNat < xs.length) : storeM (.loc f) (.int i) v S = .ok () (S.set f (.lst (xs.set i.toNat v))) := by
  show (match obLst (S.ob f) with
    | some xs => match ixN xs.length i with
      | some j => Rs.ok () (S.set f (.lst (xs.set j v)))
      | none => .bad
    | none => .bad) = _
  rw [h, obl]
  have e := ixN_nat hk
  rw [Int.toNat_of_nonneg h0] at e
  simp only [e]
theorem ix_loc {S : Store} {f : Nat} {i : Int} {xs : List D} {x : D} (h : S.ob f = some (.lst xs)) (h0 : 0 ≤ i) (hx : xs[i.toNat]? = some x) : ixP S (.loc f) (.int i) = some x := by
  show (obLst (S.ob f)).bind _ = _
  rw [h]
  have e := atI_nat' hx
  rwa [Int.toNat_of_nonneg h0] at e
theorem ix_tupN {S : Store} {i : Int} {xs : List D} {x : D} (h0 : 0 ≤ i) (hx : xs[i.toNat]? = some x) : ixP S (.tup xs) (.int i) = some x := by
  have e := atI_nat' hx
  rwa [Int.toNat_of_nonneg h0] at e
/-- a block of no names -/
def blk0 (bs : List D) : D := .tup [.str (Str.ofString "block"), .tup [], .tup [], .tup bs]
theorem blk0_wt {N : Nat} {b : Bool} {bs : List D} (h : bs.length ≤ 4) (hw : ∀ (k : Nat) (x : D), bs[k]? = some x → WT N (decide (k + 1 = bs.length)) x) : WT (N + 1) b (blk0 bs) :=
  WT.blk (ps := []) (ms := []) (by decide) (by decide) (fun x hx => (by cases hx)) List.nodup_nil h hw
def tail_law_placed : ST := .seq (.asg 5 (.call 20 (.cons (.var 0) (.cons (.var 1) (.cons (.cI 3) (.nil)))))) (.seq (.ife (.cmp .Eq (.var 5) (.cI 0)) (.seq (.ret (.tup (.cons (.cS ("send" : Str)) (.cons (.idx (.var 3) (.cI 0)) (.cons (.cS ("while:" : Str)) (.cons (.tup (.cons (.idx (.var 3) (.cI 1)) (.nil))) (.nil))))))) (.nil)) (.nil)) (.seq (.asg 6 (.call 27 (.cons (.var 0) (.cons (.var 1) (.nil))))) (.seq (.ret (.ite (.cmp .Eq (.var 5) (.cI 1)) (.tup (.cons (.cS ("send" : Str)) (.cons (.var 6) (.cons (.cS ("then:" : Str)) (.cons (.tup (.cons (.idx (.var 3) (.cI 1)) (.nil))) (.nil)))))) (.tup (.cons (.cS ("send" : Str)) (.cons (.var 6) (.cons (.cS ("then:else:" : Str)) (.cons (.blt false .tuple (.cons (.var 3) (.nil))) (.nil)))))))) (.nil))))
def head2 : ST := (.ife (.cmp .Eq (.call 20 (.cons (.var 0) (.cons (.var 1) (.cons (.cI 4) (.nil))))) (.cI 0)) (.seq (.stI (.var 3) (.cI 0) (.tup (.cons (.cS ("block" : Str)) (.cons (.call 25 (.cons (.var 0) (.cons (.var 1) (.cons (.cI 1) (.cons (.lst false (.nil)) (.nil)))))) (.cons (.tup (.nil)) (.cons (.idx (.idx (.var 3) (.cI 0)) (.cI 3)) (.nil))))))) (.nil)) (.nil))
theorem body_placed : f_law_placed.body = .seq (.asgC 3 (.lc true [(("k" : Str), 4)] 4 (.rng (.cI 2)) (.off) (.tup (.cons (.cS ("block" : Str)) (.cons (.tup (.nil)) (.cons (.tup (.nil)) (.cons (.call 30 (.cons (.var 0) (.cons (.var 1) (.cons (.bop false .Sub (.var 2) (.cI 1)) (.cons (.cI 2) (.nil)))))) (.nil)))))))) (.seq (.ife (.cmp .Eq (.call 20 (.cons (.var 0) (.cons (.var 1) (.cons (.cI 3) (.nil))))) (.cI 0)) (.seq (.stI (.var 3) (.cI 1) (.call 27 (.cons (.var 0) (.cons (.var 1) (.nil))))) (.nil)) (.nil)) (.seq head2 tail_law_placed)) := rfl
theorem placedL {d : Nat} (hd : 1 ≤ d) (ht : PTree d) (ht' : 1 < d → PTree (d - 1)) {L t m N : Nat} {ns : List Int} {S : Store} (hL : 3 * d + 10 ≤ L) (h : Tn t m S) (hl : m + 170 + 4 * cT d ≤ 50000) (hN : 2 * d ≤ N + 1) :
    Sp t m (167 + 4 * cT d) S (WT (N + 2) false) (sem T L 29 [script ns, .loc t, .int (d + 1 : Nat)] S) := by
  obtain ⟨n, rfl⟩ : ∃ n, L = n + 1 := ⟨L - 1, by omega⟩
  show wpr (endF (evS (sem T n) (gvs T) f_law_placed.body [some (script ns), some (.loc t), some (.int (d + 1 : Nat)), none, none, none, none] S)) _ _
  rw [wrs_end, body_placed]
  simp only [wS_asgC, wrs_seqL, wS_asg, wS_ife, wS_ret, wS_nil, wS_exp, wE_cS, wE_cI, wE_cN, wE_cB, wE_call, wE_var, wE_glb, wE_bop, wE_idx, wE_lst, wE_tup, wE_blt, wE_met, wT_cmp, wT_and, wT_or, wT_nt, wT_one, wT_tru, wE_ite, wE_and, wE_or, wE_one, wE_nt, wE_cmp, wE_lc, wI_itr, wI_rng, wA_cons, wA_nil, wpO, wpF, List.set, List.getElem?_cons_zero, List.getElem?_cons_succ, Option.join_some, Bool.false_eq_true, if_false, if_true]
  refine ⟨by decide, ?_⟩
  have e2 : (intL 0 (2 : Int).toNat).length = 2 := intL_len
  have hne : S.nx ≠ t := Nat.ne_of_gt h.lt
  refine comp_draws (c := 2 + 2 * cT d) (P := fun z => ∃ bs, z = blk0 bs ∧ bs.length ≤ 4 ∧ ∀ (k : Nat) (x : D), bs[k]? = some x → WT N (decide (k + 1 = bs.length)) x) h (by rw [e2]; decide) (fun _ _ => rfl) (fun j x S' hj T' => ?_) fun acc S1 el ha T1 K1 hob => ?_
  · have hj' : j < 2 := by
      have := (List.getElem?_eq_some_iff.mp hj).1
      rwa [e2] at this
    unfold ML.Sp
    simp only [wrs_seqL, wS_asg, wS_ife, wS_ret, wS_nil, wS_exp, wE_cS, wE_cI, wE_cN, wE_cB, wE_call, wE_var, wE_glb, wE_bop, wE_idx, wE_lst, wE_tup, wE_blt, wE_met, wT_cmp, wT_and, wT_or, wT_nt, wT_one, wT_tru, wE_ite, wE_and, wE_or, wE_one, wE_nt, wE_cmp, wE_lc, wI_itr, wI_rng, wA_cons, wA_nil, wpO, wpF, List.set, List.getElem?_cons_zero, List.getElem?_cons_succ, Option.join_some, Bool.false_eq_true, if_false, if_true, List.map, wipeE, sub_int]
    refine ⟨by decide, by decide, ?_⟩
    rw [show ((d + 1 : Nat) : Int) - 1 = (d : Int) by omega]
    have hjm : (2 + 2 * cT d) * j ≤ 2 + 2 * cT d := by
      have : j = 0 ∨ j = 1 := by omega
      rcases this with rfl | rfl <;> omega
    refine (bodyL (most := 2) hd ht ht' (N := N) (by omega) T' (by decide) (by decide) (by omega) hN).use fun z S2 ⟨bs, e, hb, hw⟩ T2 K2 => ?_
    subst e
    exact ⟨by show 4 ≤ nMax; decide, ⟨bs, rfl, by omega, hw⟩, T2, K2⟩
  · rw [e2] at el T1
    obtain ⟨o1, n1⟩ := hob rfl
    rw [if_pos rfl, later]
    match acc, el with
    | [b0, b1], _ =>
    obtain ⟨u0, rfl, l0, w0⟩ := ha b0 (by simp)
    obtain ⟨u1, rfl, l1, w1⟩ := ha b1 (by simp)
    have rest3 : ∀ (S5 : Store) (c0 c1 : D) (v : Option D), S5.ob S.nx = some (.lst [c0, c1]) → S.nx < S5.nx → WT (N + 1) false c0 → WT (N + 1) false c1 → Tn t (m + (96 + 4 * cT d)) S5 → Kp t S S5 →
        wrs (evS (sem T n) (gvs T) tail_law_placed [some (script ns), some (.loc t), some (.int (d + 1 : Nat)), some (.loc S.nx), v, none, none] S5) (fun _ S' => WT (N + 2) false .non ∧ Tn t (m + (167 + 4 * cT d)) S' ∧ Kp t S S') (fun z S' => WT (N + 2) false z ∧ Tn t (m + (167 + 4 * cT d)) S' ∧ Kp t S S') (fun _ _ _ => False) := by
      intro S5 c0 c1 v o5 n5 h0 h1 T5 K5
      simp only [tail_law_placed, wrs_seqL, wS_asg, wS_ife, wS_ret, wS_nil, wS_exp, wE_cS, wE_cI, wE_cN, wE_cB, wE_call, wE_var, wE_glb, wE_bop, wE_idx, wE_lst, wE_tup, wE_blt, wE_met, wT_cmp, wT_and, wT_or, wT_nt, wT_one, wT_tru, wE_ite, wE_and, wE_or, wE_one, wE_nt, wE_cmp, wE_lc, wI_itr, wI_rng, wA_cons, wA_nil, wpO, wpF, List.set, List.getElem?_cons_zero, List.getElem?_cons_succ, Option.join_some, Bool.false_eq_true, if_false, if_true]
      refine (drL (by omega) T5 (by omega) (by decide)).use fun z S6 ⟨r, e, r0, r1⟩ T6 K6 => ?_
      subst e
      have o6 := (K6.ob _ n5 hne).trans o5
      have n6 := Nat.lt_of_lt_of_le n5 K6.nx
      rw [later]
      simp only [wrs_seqL, wS_asg, wS_ife, wS_ret, wS_nil, wS_exp, wE_cS, wE_cI, wE_cN, wE_cB, wE_call, wE_var, wE_glb, wE_bop, wE_idx, wE_lst, wE_tup, wE_blt, wE_met, wT_cmp, wT_and, wT_or, wT_nt, wT_one, wT_tru, wE_ite, wE_and, wE_or, wE_one, wE_nt, wE_cmp, wE_lc, wI_itr, wI_rng, wA_cons, wA_nil, wpO, wpF, List.set, List.getElem?_cons_zero, List.getElem?_cons_succ, Option.join_some, Bool.false_eq_true, if_false, if_true, c_eq_int]
      by_cases hr : r = 0
      · rw [decide_eq_true hr, if_pos rfl]
        simp only [ix_loc (i := 0) o6 (by decide) rfl, ix_loc (i := 1) o6 (by decide) rfl]
        exact ⟨by show 1 ≤ nMax; decide, by show 4 ≤ nMax; decide, WT.send (ts := [c1]) colonsOf.1 (by show 1 ≤ 3; decide) h0 (fun x hx => by rw [List.mem_singleton.mp hx]; exact h1), T6.mono (by omega), K5.trans K6⟩
      · rw [decide_eq_false hr, if_neg Bool.false_ne_true, later]
        simp only [wrs_seqL, wS_asg, wS_ife, wS_ret, wS_nil, wS_exp, wE_cS, wE_cI, wE_cN, wE_cB, wE_call, wE_var, wE_glb, wE_bop, wE_idx, wE_lst, wE_tup, wE_blt, wE_met, wT_cmp, wT_and, wT_or, wT_nt, wT_one, wT_tru, wE_ite, wE_and, wE_or, wE_one, wE_nt, wE_cmp, wE_lc, wI_itr, wI_rng, wA_cons, wA_nil, wpO, wpF, List.set, List.getElem?_cons_zero, List.getElem?_cons_succ, Option.join_some, Bool.false_eq_true, if_false, if_true]
        refine (leafL (by omega) T6 (by omega)).use fun z S7 hz T7 K7 => ?_
        have o7 := (K7.ob _ n6 hne).trans o6
        rw [later]
        simp only [wrs_seqL, wS_asg, wS_ife, wS_ret, wS_nil, wS_exp, wE_cS, wE_cI, wE_cN, wE_cB, wE_call, wE_var, wE_glb, wE_bop, wE_idx, wE_lst, wE_tup, wE_blt, wE_met, wT_cmp, wT_and, wT_or, wT_nt, wT_one, wT_tru, wE_ite, wE_and, wE_or, wE_one, wE_nt, wE_cmp, wE_lc, wI_itr, wI_rng, wA_cons, wA_nil, wpO, wpF, List.set, List.getElem?_cons_zero, List.getElem?_cons_succ, Option.join_some, Bool.false_eq_true, if_false, if_true, c_eq_int]
        by_cases hr1 : r = 1
        · rw [decide_eq_true hr1, if_pos rfl, ix_loc (i := 1) o7 (by decide) rfl]
          exact ⟨by show 1 ≤ nMax; decide, by show 4 ≤ nMax; decide, WT.send (ts := [c1]) colonsOf.2.1 (by show 1 ≤ 3; decide) (hz _ _) (fun x hx => by rw [List.mem_singleton.mp hx]; exact h1), T7.mono (by omega), (K5.trans K6).trans K7⟩
        · rw [decide_eq_false hr1, if_neg Bool.false_ne_true, tup_loc o7]
          refine ⟨by show 4 ≤ nMax; decide, WT.send (ts := [c0, c1]) colonsOf.2.2 (by show 2 ≤ 3; decide) (hz _ _) (fun x hx => ?_), T7.mono (by omega), (K5.trans K6).trans K7⟩
          simp only [List.mem_cons, List.not_mem_nil, or_false] at hx
          rcases hx with rfl | rfl
          · exact h0
          · exact h1
    have rest2 : ∀ (S3 : Store) (c1 : D) (v : Option D), S3.ob S.nx = some (.lst [blk0 u0, c1]) → S.nx < S3.nx → WT (N + 1) false c1 → Tn t (m + (75 + 4 * cT d)) S3 → Kp t S S3 →
        wrs (evS (sem T n) (gvs T) (.seq head2 tail_law_placed) [some (script ns), some (.loc t), some (.int (d + 1 : Nat)), some (.loc S.nx), v, none, none] S3) (fun _ S' => WT (N + 2) false .non ∧ Tn t (m + (167 + 4 * cT d)) S' ∧ Kp t S S') (fun z S' => WT (N + 2) false z ∧ Tn t (m + (167 + 4 * cT d)) S' ∧ Kp t S S') (fun _ _ _ => False) := by
      intro S3 c1 v o3 n3 h1 T3 K3
      simp only [head2, wrs_seqL, wS_asg, wS_ife, wS_ret, wS_nil, wS_exp, wE_cS, wE_cI, wE_cN, wE_cB, wE_call, wE_var, wE_glb, wE_bop, wE_idx, wE_lst, wE_tup, wE_blt, wE_met, wT_cmp, wT_and, wT_or, wT_nt, wT_one, wT_tru, wE_ite, wE_and, wE_or, wE_one, wE_nt, wE_cmp, wE_lc, wI_itr, wI_rng, wA_cons, wA_nil, wpO, wpF, List.set, List.getElem?_cons_zero, List.getElem?_cons_succ, Option.join_some, Bool.false_eq_true, if_false, if_true]
      refine (drL (by omega) T3 (by omega) (by decide)).use fun z S4 ⟨r, e, r0, r1⟩ T4 K4 => ?_
      subst e
      have o4 := (K4.ob _ n3 hne).trans o3
      have n4 := Nat.lt_of_lt_of_le n3 K4.nx
      simp only [c_eq_int]
      by_cases hr : r = 0
      · rw [decide_eq_true hr, if_pos rfl]
        simp only [wS_stI, wrs_seqL, wS_asg, wS_ife, wS_ret, wS_nil, wS_exp, wE_cS, wE_cI, wE_cN, wE_cB, wE_call, wE_var, wE_glb, wE_bop, wE_idx, wE_lst, wE_tup, wE_blt, wE_met, wT_cmp, wT_and, wT_or, wT_nt, wT_one, wT_tru, wE_ite, wE_and, wE_or, wE_one, wE_nt, wE_cmp, wE_lc, wI_itr, wI_rng, wA_cons, wA_nil, wpO, wpF, List.set, List.getElem?_cons_zero, List.getElem?_cons_succ, Option.join_some, Bool.false_eq_true, if_false, if_true]
        refine ⟨by decide, ?_⟩
        refine (namesL (k := 1) (os := []) (by omega) T4 (by omega) (by decide) List.nodup_nil).use fun z S5 ⟨xs, e, xl, xn, xd⟩ T5 K5 => ?_
        subst e
        have o5 := (K5.ob _ n4 hne).trans o4
        have n5 := Nat.lt_of_lt_of_le n4 K5.nx
        refine ⟨by decide, ?_⟩
        simp only [ix_loc (i := 0) o5 (by decide) rfl, blk0, ix_tupN (i := 3) (xs := [D.str (Str.ofString "block"), D.tup [], D.tup [], D.tup u0]) (by decide) rfl]
        refine ⟨by show 4 ≤ nMax; decide, ?_⟩
        rw [st_loc (i := 0) o5 (by decide) (by show 0 < 2; decide), wpr_ok, later_nil, later]
        refine rest3 _ _ c1 _ Store.set_ob n5 (WT.blk (ps := xs) (ms := []) (by omega) (by decide) (by rw [List.append_nil]; exact xn) xd l0 w0) h1 ((T5.setN n5 hne).mono (by omega)) (((K3.trans K4).trans K5).setN (Nat.le_refl _))
      · rw [decide_eq_false hr, if_neg Bool.false_ne_true, later]
        exact rest3 S4 (blk0 u0) c1 _ o4 n4 (blk0_wt l0 w0) h1 (T4.mono (by omega)) (K3.trans K4)
    simp only [wrs_seqL, wS_asg, wS_ife, wS_ret, wS_nil, wS_exp, wE_cS, wE_cI, wE_cN, wE_cB, wE_call, wE_var, wE_glb, wE_bop, wE_idx, wE_lst, wE_tup, wE_blt, wE_met, wT_cmp, wT_and, wT_or, wT_nt, wT_one, wT_tru, wE_ite, wE_and, wE_or, wE_one, wE_nt, wE_cmp, wE_lc, wI_itr, wI_rng, wA_cons, wA_nil, wpO, wpF, List.set, List.getElem?_cons_zero, List.getElem?_cons_succ, Option.join_some, Bool.false_eq_true, if_false, if_true]
    refine (drL (by omega) T1 (by omega) (by decide)).use fun z S2 ⟨r, e, r0, r1⟩ T2 K2 => ?_
    subst e
    have o2 := (K2.ob _ n1 hne).trans o1
    have n2 := Nat.lt_of_lt_of_le n1 K2.nx
    simp only [c_eq_int]
    by_cases hr : r = 0
    · rw [decide_eq_true hr, if_pos rfl]
      simp only [wS_stI, wrs_seqL, wS_asg, wS_ife, wS_ret, wS_nil, wS_exp, wE_cS, wE_cI, wE_cN, wE_cB, wE_call, wE_var, wE_glb, wE_bop, wE_idx, wE_lst, wE_tup, wE_blt, wE_met, wT_cmp, wT_and, wT_or, wT_nt, wT_one, wT_tru, wE_ite, wE_and, wE_or, wE_one, wE_nt, wE_cmp, wE_lc, wI_itr, wI_rng, wA_cons, wA_nil, wpO, wpF, List.set, List.getElem?_cons_zero, List.getElem?_cons_succ, Option.join_some, Bool.false_eq_true, if_false, if_true]
      refine (leafL (by omega) T2 (by omega)).use fun z S3 hz T3 K3 => ?_
      have o3 := (K3.ob _ n2 hne).trans o2
      have n3 := Nat.lt_of_lt_of_le n2 K3.nx
      rw [st_loc (i := 1) o3 (by decide) (by show 1 < 2; decide), wpr_ok, later_nil, later]
      exact rest2 _ z _ Store.set_ob n3 (hz _ _) ((T3.setN n3 hne).mono (by omega)) (((K1.trans K2).trans K3).setN (Nat.le_refl _))
    · rw [decide_eq_false hr, if_neg Bool.false_ne_true, later]
      exact rest2 S2 (blk0 u1) _ o2 n2 (blk0_wt l1 w1) (T2.mono (by omega)) (K1.trans K2)
end K10

namespace K10
open PySem L2 ML

theorem list_tup {S : Store} {xs : List D} : bfP S .list [.tup xs] = some (.newl xs) := rfl
theorem tup_lst {S : Store} {xs : List D} : bfP S .tuple [.lst xs] = some (.newt xs) := rfl
theorem nd_swap {a b : List Str} (h : (b ++ a).Nodup) : (a ++ b).Nodup := List.perm_append_comm.nodup_iff.mp h
theorem mem_ints {d : D} {ks : List Nat} (h : d ∈ ks.map fun (k : Nat) => D.int (k : Int)) : ∃ k ∈ ks, d = .int (k : Int) := by
  obtain ⟨k, hk, rfl⟩ := List.mem_map.mp h
  exact ⟨k, hk, rfl⟩
theorem treeL : ∀ d, 1 ≤ d → PTree d := by
  intro d
  induction d using Nat.strongRecOn with
  | _ d ih =>
    intro hd L t m N ns S hL h hl hN
    obtain ⟨n, rfl⟩ : ∃ n, L = n + 1 := ⟨L - 1, by omega⟩
    show wpr (endF (evS (sem T n) (gvs T) f_law_tree.body [some (script ns), some (.loc t), some (.int d), none, none, none, none, none, none] S)) _ _
    rw [wrs_end]
    simp only [f_law_tree, wrs_seqL, wS_asg, wS_ife, wS_ret, wS_nil, wS_exp, wE_cS, wE_cI, wE_cN, wE_cB, wE_call, wE_var, wE_glb, wE_bop, wE_idx, wE_lst, wE_tup, wE_blt, wE_met, wT_cmp, wT_and, wT_or, wT_nt, wT_one, wT_tru, wE_ite, wE_and, wE_or, wE_one, wE_nt, wE_cmp, wE_lc, wI_itr, wI_rng, wA_cons, wA_nil, wpO, wpF, List.set, List.getElem?_cons_zero, List.getElem?_cons_succ, Option.join_some, Bool.false_eq_true, if_false, if_true, gt_int]
    obtain ⟨N', rfl⟩ : ∃ N', N = N' + 1 := ⟨N - 1, by omega⟩
    by_cases h1 : d = 1
    · subst h1
      rw [decide_eq_false (by decide), if_neg Bool.false_ne_true, later]
      simp only [wrs_seqL, wS_asg, wS_ife, wS_ret, wS_nil, wS_exp, wE_cS, wE_cI, wE_cN, wE_cB, wE_call, wE_var, wE_glb, wE_bop, wE_idx, wE_lst, wE_tup, wE_blt, wE_met, wT_cmp, wT_and, wT_or, wT_nt, wT_one, wT_tru, wE_ite, wE_and, wE_or, wE_one, wE_nt, wE_cmp, wE_lc, wI_itr, wI_rng, wA_cons, wA_nil, wpO, wpF, List.set, List.getElem?_cons_zero, List.getElem?_cons_succ, Option.join_some, Bool.false_eq_true, if_false, if_true, c_lt]
      rw [decide_eq_true (by decide), if_pos rfl]
      refine (leafL (by omega) h (by have : cT 1 = 70 := rfl; omega)).use fun z S1 hz T1 K1 => ?_
      exact ⟨hz _ _, T1, K1⟩
    · obtain ⟨e, rfl⟩ : ∃ e, d = e + 2 := ⟨d - 2, by omega⟩
      have ht : PTree (e + 1) := ih (e + 1) (by omega) (by omega)
      have ht' : 1 < e + 1 → PTree (e + 1 - 1) := fun z => ih e (by omega) (by omega)
      have ec : cT (e + 2) = 190 + 4 * cT (e + 1) := rfl
      have es : ((e + 2 : Nat) : Int) - 1 = ((e + 1 : Nat) : Int) := by omega
      rw [decide_eq_true (by omega), if_pos rfl]
      refine (drL (by omega) h (by omega) (by decide)).use fun z S1 ⟨way, ew, w0, w1⟩ T1 K1 => ?_
      subst ew
      rw [later]
      simp only [wrs_seqL, wS_asg, wS_ife, wS_ret, wS_nil, wS_exp, wE_cS, wE_cI, wE_cN, wE_cB, wE_call, wE_var, wE_glb, wE_bop, wE_idx, wE_lst, wE_tup, wE_blt, wE_met, wT_cmp, wT_and, wT_or, wT_nt, wT_one, wT_tru, wE_ite, wE_and, wE_or, wE_one, wE_nt, wE_cmp, wE_lc, wI_itr, wI_rng, wA_cons, wA_nil, wpO, wpF, List.set, List.getElem?_cons_zero, List.getElem?_cons_succ, Option.join_some, Bool.false_eq_true, if_false, if_true, c_lt]
      by_cases a0 : way < 2
      · rw [decide_eq_true a0, if_pos rfl]
        refine (leafL (by omega) T1 (by omega)).use fun z S2 hz T2 K2 => ?_
        exact ⟨hz _ _, T2.mono (by omega), K1.trans K2⟩
      · rw [decide_eq_false a0, if_neg Bool.false_ne_true, later]
        simp only [wrs_seqL, wS_asg, wS_ife, wS_ret, wS_nil, wS_exp, wE_cS, wE_cI, wE_cN, wE_cB, wE_call, wE_var, wE_glb, wE_bop, wE_idx, wE_lst, wE_tup, wE_blt, wE_met, wT_cmp, wT_and, wT_or, wT_nt, wT_one, wT_tru, wE_ite, wE_and, wE_or, wE_one, wE_nt, wE_cmp, wE_lc, wI_itr, wI_rng, wA_cons, wA_nil, wpO, wpF, List.set, List.getElem?_cons_zero, List.getElem?_cons_succ, Option.join_some, Bool.false_eq_true, if_false, if_true, c_eq_int, sub_int]
        by_cases a2 : way = 2
        · rw [decide_eq_true a2, if_pos rfl]
          refine (nameL (by omega) T1 (by omega)).use fun z S2 ⟨s, ez, hs⟩ T2 K2 => ?_
          subst ez
          rw [es]
          refine (ht n t _ N' ns S2 (by omega) T2 (by omega) (by omega)).use fun z S3 hz T3 K3 => ?_
          exact ⟨by show 3 ≤ nMax; decide, .set hs hz, T3.mono (by omega), (K1.trans K2).trans K3⟩
        · rw [decide_eq_false a2, if_neg Bool.false_ne_true, later]
          simp only [wrs_seqL, wS_asg, wS_ife, wS_ret, wS_nil, wS_exp, wE_cS, wE_cI, wE_cN, wE_cB, wE_call, wE_var, wE_glb, wE_bop, wE_idx, wE_lst, wE_tup, wE_blt, wE_met, wT_cmp, wT_and, wT_or, wT_nt, wT_one, wT_tru, wE_ite, wE_and, wE_or, wE_one, wE_nt, wE_cmp, wE_lc, wI_itr, wI_rng, wA_cons, wA_nil, wpO, wpF, List.set, List.getElem?_cons_zero, List.getElem?_cons_succ, Option.join_some, Bool.false_eq_true, if_false, if_true, c_eq_int]
          by_cases a3 : way = 3
          · rw [decide_eq_true a3, if_pos rfl]
            refine (drL (by omega) T1 (by omega) (by decide)).use fun z S2 ⟨r, er, r0, r1⟩ T2 K2 => ?_
            obtain ⟨k, rfl⟩ : ∃ k : Nat, r = k := ⟨r.toNat, by omega⟩
            subst er
            refine ⟨by decide, ?_⟩
            refine (namesL (k := k) (os := []) (by omega) T2 (by omega) (by show k + 0 < 8; omega) List.nodup_nil).use fun z S3 ⟨ps, ez, pl, pn, pd⟩ T3 K3 => ?_
            subst ez
            rw [List.append_nil] at pd
            rw [later]
            simp only [wrs_seqL, wS_asg, wS_ife, wS_ret, wS_nil, wS_exp, wE_cS, wE_cI, wE_cN, wE_cB, wE_call, wE_var, wE_glb, wE_bop, wE_idx, wE_lst, wE_tup, wE_blt, wE_met, wT_cmp, wT_and, wT_or, wT_nt, wT_one, wT_tru, wE_ite, wE_and, wE_or, wE_one, wE_nt, wE_cmp, wE_lc, wI_itr, wI_rng, wA_cons, wA_nil, wpO, wpF, List.set, List.getElem?_cons_zero, List.getElem?_cons_succ, Option.join_some, Bool.false_eq_true, if_false, if_true, list_tup]
            refine ⟨by decide, ?_⟩
            refine (pkL (xs := [0, 0, 1, 2].map fun (k : Nat) => D.int (k : Int)) (by omega) T3 (by omega) (by decide)).use fun z S4 ez T4 K4 => ?_
            obtain ⟨q, hq, rfl⟩ := mem_ints ez
            have hq2 : q ≤ 2 := by
              simp only [List.mem_cons, List.not_mem_nil, or_false] at hq
              omega
            refine (namesL (k := q) (os := ps) (by omega) T4 (by omega) (by omega) pd).use fun z S5 ⟨ms, ez, ml, mn, md⟩ T5 K5 => ?_
            subst ez
            rw [later]
            simp only [wrs_seqL, wS_asg, wS_ife, wS_ret, wS_nil, wS_exp, wE_cS, wE_cI, wE_cN, wE_cB, wE_call, wE_var, wE_glb, wE_bop, wE_idx, wE_lst, wE_tup, wE_blt, wE_met, wT_cmp, wT_and, wT_or, wT_nt, wT_one, wT_tru, wE_ite, wE_and, wE_or, wE_one, wE_nt, wE_cmp, wE_lc, wI_itr, wI_rng, wA_cons, wA_nil, wpO, wpF, List.set, List.getElem?_cons_zero, List.getElem?_cons_succ, Option.join_some, Bool.false_eq_true, if_false, if_true, sub_int, es]
            refine (bodyL (most := 3) (d := e + 1) (by omega) ht ht' (N := N') (by omega) T5 (by decide) (by decide) (by omega) (by omega)).use fun z S6 ⟨bs, ez, hb, hw⟩ T6 K6 => ?_
            subst ez
            refine ⟨by show 4 ≤ nMax; decide, .blk (by omega) (by omega) (fun x hx => ?_) (nd_swap md) (by omega) hw, T6.mono (by omega), ((((K1.trans K2).trans K3).trans K4).trans K5).trans K6⟩
            rcases List.mem_append.mp hx with hx | hx
            · exact pn x hx
            · exact mn x hx
          · rw [decide_eq_false a3, if_neg Bool.false_ne_true, later]
            simp only [wrs_seqL, wS_asg, wS_ife, wS_ret, wS_nil, wS_exp, wE_cS, wE_cI, wE_cN, wE_cB, wE_call, wE_var, wE_glb, wE_bop, wE_idx, wE_lst, wE_tup, wE_blt, wE_met, wT_cmp, wT_and, wT_or, wT_nt, wT_one, wT_tru, wE_ite, wE_and, wE_or, wE_one, wE_nt, wE_cmp, wE_lc, wI_itr, wI_rng, wA_cons, wA_nil, wpO, wpF, List.set, List.getElem?_cons_zero, List.getElem?_cons_succ, Option.join_some, Bool.false_eq_true, if_false, if_true, c_eq_int]
            by_cases a4 : way = 4
            · rw [decide_eq_true a4, if_pos rfl]
              obtain ⟨N2, rfl⟩ : ∃ N2, N' = N2 + 1 := ⟨N' - 1, by omega⟩
              refine (placedL (d := e + 1) (by omega) ht ht' (N := N2) (by omega) T1 (by omega) (by omega)).use fun z S2 hz T2 K2 => ?_
              exact ⟨hz, T2.mono (by omega), K1.trans K2⟩
            · rw [decide_eq_false a4, if_neg Bool.false_ne_true, later]
              simp only [wS_asgC, wrs_seqL, wS_asg, wS_ife, wS_ret, wS_nil, wS_exp, wE_cS, wE_cI, wE_cN, wE_cB, wE_call, wE_var, wE_glb, wE_bop, wE_idx, wE_lst, wE_tup, wE_blt, wE_met, wT_cmp, wT_and, wT_or, wT_nt, wT_one, wT_tru, wE_ite, wE_and, wE_or, wE_one, wE_nt, wE_cmp, wE_lc, wI_itr, wI_rng, wA_cons, wA_nil, wpO, wpF, List.set, List.getElem?_cons_zero, List.getElem?_cons_succ, Option.join_some, Bool.false_eq_true, if_false, if_true]
              refine ⟨by decide, ?_⟩
              refine (pkL (xs := [0, 0, 1, 1, 1, 2, 3].map fun (k : Nat) => D.int (k : Int)) (by omega) T1 (by omega) (by decide)).use fun z S2 ez T2 K2 => ?_
              obtain ⟨q, hq, rfl⟩ := mem_ints ez
              have hq2 : q ≤ 3 := by
                simp only [List.mem_cons, List.not_mem_nil, or_false] at hq
                omega
              refine ⟨⟨Int.le_trans (by omega : (q : Int) ≤ 3) (by decide), Int.le_trans (by decide) (by omega : (0 : Int) ≤ q)⟩, ?_⟩
              have el : (intL 0 (q : Int).toNat).length = q := by rw [intL_len]; omega
              have hc3 : cT (e + 1) * q ≤ 3 * cT (e + 1) := by rw [Nat.mul_comm]; exact Nat.mul_le_mul_right _ hq2
              refine comp_draws (c := cT (e + 1)) (P := WT N' false) T2 (by rw [el]; exact Nat.lt_of_le_of_lt hq2 (by decide)) (fun _ _ => rfl) (fun j x S' hj T' => ?_) fun acc S3 al ha T3 K3 _ => ?_
              · have hj' : j < q := by
                  have := (List.getElem?_eq_some_iff.mp hj).1
                  rwa [el] at this
                have hmj : cT (e + 1) * j + cT (e + 1) ≤ 3 * cT (e + 1) := by
                  have := Nat.mul_le_mul_left (cT (e + 1)) (by omega : j + 1 ≤ 3)
                  rw [Nat.mul_succ] at this
                  omega
                unfold ML.Sp
                simp only [wrs_seqL, wS_asg, wS_ife, wS_ret, wS_nil, wS_exp, wE_cS, wE_cI, wE_cN, wE_cB, wE_call, wE_var, wE_glb, wE_bop, wE_idx, wE_lst, wE_tup, wE_blt, wE_met, wT_cmp, wT_and, wT_or, wT_nt, wT_one, wT_tru, wE_ite, wE_and, wE_or, wE_one, wE_nt, wE_cmp, wE_lc, wI_itr, wI_rng, wA_cons, wA_nil, wpO, wpF, List.set, List.getElem?_cons_zero, List.getElem?_cons_succ, Option.join_some, Bool.false_eq_true, if_false, if_true, List.map, wipeE, sub_int, es]
                exact ht n t _ N' ns S' (by omega) T' (by omega) (by omega)
              · rw [el] at al T3
                rw [if_neg Bool.false_ne_true, later]
                simp only [wrs_seqL, wS_asg, wS_ife, wS_ret, wS_nil, wS_exp, wE_cS, wE_cI, wE_cN, wE_cB, wE_call, wE_var, wE_glb, wE_bop, wE_idx, wE_lst, wE_tup, wE_blt, wE_met, wT_cmp, wT_and, wT_or, wT_nt, wT_one, wT_tru, wE_ite, wE_and, wE_or, wE_one, wE_nt, wE_cmp, wE_lc, wI_itr, wI_rng, wA_cons, wA_nil, wpO, wpF, List.set, List.getElem?_cons_zero, List.getElem?_cons_succ, Option.join_some, Bool.false_eq_true, if_false, if_true, b_len_lst]
                rw [al]
                refine (messageL (k := q) (by omega) T3 (by omega) hq2).use fun z S4 ⟨s, ez, hs⟩ T4 K4 => ?_
                subst ez
                rw [later]
                simp only [wrs_seqL, wS_asg, wS_ife, wS_ret, wS_nil, wS_exp, wE_cS, wE_cI, wE_cN, wE_cB, wE_call, wE_var, wE_glb, wE_bop, wE_idx, wE_lst, wE_tup, wE_blt, wE_met, wT_cmp, wT_and, wT_or, wT_nt, wT_one, wT_tru, wE_ite, wE_and, wE_or, wE_one, wE_nt, wE_cmp, wE_lc, wI_itr, wI_rng, wA_cons, wA_nil, wpO, wpF, List.set, List.getElem?_cons_zero, List.getElem?_cons_succ, Option.join_some, Bool.false_eq_true, if_false, if_true, c_eq_int, tup_lst]
                by_cases a5 : way = 5
                · rw [decide_eq_true a5, if_pos rfl]
                  exact ⟨by show 3 ≤ nMax; decide, .sup (by rw [al]; exact hs) (by omega) ha, T4.mono (by omega), ((K1.trans K2).trans K3).trans K4⟩
                · rw [decide_eq_false a5, if_neg Bool.false_ne_true, later]
                  simp only [wrs_seqL, wS_asg, wS_ife, wS_ret, wS_nil, wS_exp, wE_cS, wE_cI, wE_cN, wE_cB, wE_call, wE_var, wE_glb, wE_bop, wE_idx, wE_lst, wE_tup, wE_blt, wE_met, wT_cmp, wT_and, wT_or, wT_nt, wT_one, wT_tru, wE_ite, wE_and, wE_or, wE_one, wE_nt, wE_cmp, wE_lc, wI_itr, wI_rng, wA_cons, wA_nil, wpO, wpF, List.set, List.getElem?_cons_zero, List.getElem?_cons_succ, Option.join_some, Bool.false_eq_true, if_false, if_true, sub_int, es, tup_lst]
                  refine (ht n t _ N' ns S4 (by omega) T4 (by omega) (by omega)).use fun z S5 hz T5 K5 => ?_
                  exact ⟨by show 4 ≤ nMax; decide, .send (by rw [al]; exact hs) (by omega) hz ha, T5.mono (by omega), (((K1.trans K2).trans K3).trans K4).trans K5⟩
/-! ### a method -/
/-- a method of trees within n of one another -/
def MethB (N c : Nat) (d : D) : Prop := ∃ (s : Str) (ps ms : List Str) (bs : List D), d = .tup [.str s, .tup (ps.map D.str), .tup (ms.map D.str), .tup bs] ∧ Ar s ps.length ∧ ps.length ≤ 3 ∧ ms.length ≤ 2 ∧ (∀ x ∈ ps ++ ms, isName x = true) ∧ (ps ++ ms).Nodup ∧ bs.length ≤ c ∧
  ∀ (k : Nat) (x : D), bs[k]? = some x → WT N (decide (k + 1 = bs.length)) x
def MethD (N : Nat) (d : D) : Prop := MethB N 5 d
theorem methodL {L t m N : Nat} {ns : List Int} {S : Store} (hL : 30 ≤ L) (h : Tn t m S) (hl : m ≤ 1000) (hN : 8 ≤ N + 1) : Sp t m (230 + 4 * cT 4) S (MethB N 4) (sem T L 31 [script ns, .loc t, .int 4] S) := by
  obtain ⟨n, rfl⟩ : ∃ n, L = n + 1 := ⟨L - 1, by omega⟩
  have c4 : cT 4 = 8470 := rfl
  show wpr (endF (evS (sem T n) (gvs T) f_law_method.body [some (script ns), some (.loc t), some (.int 4), none, none, none] S)) _ _
  rw [wrs_end]
  simp only [f_law_method, wrs_seqL, wS_asg, wS_ife, wS_ret, wS_nil, wS_exp, wE_cS, wE_cI, wE_cN, wE_cB, wE_call, wE_var, wE_glb, wE_bop, wE_idx, wE_lst, wE_tup, wE_blt, wE_met, wT_cmp, wT_and, wT_or, wT_nt, wT_one, wT_tru, wE_ite, wE_and, wE_or, wE_one, wE_nt, wE_cmp, wE_lc, wI_itr, wI_rng, wA_cons, wA_nil, wpO, wpF, List.set, List.getElem?_cons_zero, List.getElem?_cons_succ, Option.join_some, Bool.false_eq_true, if_false, if_true]
  refine (drL (by omega) h (by omega) (by decide)).use fun z S2 ⟨r, er, r0, r1⟩ T2 K2 => ?_
  obtain ⟨k, rfl⟩ : ∃ k : Nat, r = k := ⟨r.toNat, by omega⟩
  subst er
  rw [later]
  simp only [wrs_seqL, wS_asg, wS_ife, wS_ret, wS_nil, wS_exp, wE_cS, wE_cI, wE_cN, wE_cB, wE_call, wE_var, wE_glb, wE_bop, wE_idx, wE_lst, wE_tup, wE_blt, wE_met, wT_cmp, wT_and, wT_or, wT_nt, wT_one, wT_tru, wE_ite, wE_and, wE_or, wE_one, wE_nt, wE_cmp, wE_lc, wI_itr, wI_rng, wA_cons, wA_nil, wpO, wpF, List.set, List.getElem?_cons_zero, List.getElem?_cons_succ, Option.join_some, Bool.false_eq_true, if_false, if_true]
  refine ⟨by decide, ?_⟩
  refine (namesL (k := k) (os := []) (by omega) T2 (by omega) (by show k + 0 < 8; omega) List.nodup_nil).use fun z S3 ⟨ps, ez, pl, pn, pd⟩ T3 K3 => ?_
  subst ez
  rw [List.append_nil] at pd
  rw [later]
  simp only [wrs_seqL, wS_asg, wS_ife, wS_ret, wS_nil, wS_exp, wE_cS, wE_cI, wE_cN, wE_cB, wE_call, wE_var, wE_glb, wE_bop, wE_idx, wE_lst, wE_tup, wE_blt, wE_met, wT_cmp, wT_and, wT_or, wT_nt, wT_one, wT_tru, wE_ite, wE_and, wE_or, wE_one, wE_nt, wE_cmp, wE_lc, wI_itr, wI_rng, wA_cons, wA_nil, wpO, wpF, List.set, List.getElem?_cons_zero, List.getElem?_cons_succ, Option.join_some, Bool.false_eq_true, if_false, if_true, list_tup]
  refine ⟨by decide, ?_⟩
  refine (pkL (xs := [0, 0, 1, 2].map fun (k : Nat) => D.int (k : Int)) (by omega) T3 (by omega) (by decide)).use fun z S4 ez T4 K4 => ?_
  obtain ⟨q, hq, rfl⟩ := mem_ints ez
  have hq2 : q ≤ 2 := by
    simp only [List.mem_cons, List.not_mem_nil, or_false] at hq
    omega
  refine (namesL (k := q) (os := ps) (by omega) T4 (by omega) (by omega) pd).use fun z S5 ⟨ms, ez, ml, mn, md⟩ T5 K5 => ?_
  subst ez
  rw [later]
  simp only [wrs_seqL, wS_asg, wS_ife, wS_ret, wS_nil, wS_exp, wE_cS, wE_cI, wE_cN, wE_cB, wE_call, wE_var, wE_glb, wE_bop, wE_idx, wE_lst, wE_tup, wE_blt, wE_met, wT_cmp, wT_and, wT_or, wT_nt, wT_one, wT_tru, wE_ite, wE_and, wE_or, wE_one, wE_nt, wE_cmp, wE_lc, wI_itr, wI_rng, wA_cons, wA_nil, wpO, wpF, List.set, List.getElem?_cons_zero, List.getElem?_cons_succ, Option.join_some, Bool.false_eq_true, if_false, if_true]
  refine (messageL (k := k) (by omega) T5 (by omega) (by omega)).use fun z S6 ⟨s, ez, hs⟩ T6 K6 => ?_
  subst ez
  refine (bodyL (most := 4) (d := 4) (by decide) (treeL 4 (by decide)) (fun _ => treeL 3 (by decide)) (N := N) (by omega) T6 (by decide) (by decide) (by omega) (by omega)).use fun z S7 ⟨bs, ez, hb, hw⟩ T7 K7 => ?_
  subst ez
  refine ⟨by show 4 ≤ nMax; decide, ⟨s, ps, ms, bs, rfl, by rw [pl]; exact hs, by omega, by omega, fun x hx => ?_, nd_swap md, by omega, hw⟩, T7.mono (by omega), ((((K2.trans K3).trans K4).trans K5).trans K6).trans K7⟩
  rcases List.mem_append.mp hx with hx | hx
  · exact pn x hx
  · exact mn x hx
end K10

namespace K10
open PySem L2 ML

section
variable {S : Store} {a b c x y z u : D}
theorem at2_0 : atI [x, y] 0 = some x := rfl
theorem at2_1 : atI [x, y] 1 = some y := rfl
theorem at2_m1 : atI [x, y] (-1) = some y := rfl
theorem at2_m2 : atI [x, y] (-2) = some x := rfl
theorem at3_0 : atI [x, y, z] 0 = some x := rfl
theorem at3_1 : atI [x, y, z] 1 = some y := rfl
theorem at3_2 : atI [x, y, z] 2 = some z := rfl
theorem at3_m1 : atI [x, y, z] (-1) = some z := rfl
theorem at3_m2 : atI [x, y, z] (-2) = some y := rfl
theorem at4_0 : atI [x, y, z, u] 0 = some x := rfl
theorem at4_1 : atI [x, y, z, u] 1 = some y := rfl
theorem at4_2 : atI [x, y, z, u] 2 = some z := rfl
theorem at4_3 : atI [x, y, z, u] 3 = some u := rfl
theorem at4_m1 : atI [x, y, z, u] (-1) = some u := rfl
theorem at4_m2 : atI [x, y, z, u] (-2) = some z := rfl
end
theorem nl0 : (([] : List D).length ≤ nMax) = True := eq_true (by decide)
theorem nl1 {x : D} : ([x].length ≤ nMax) = True := eq_true (by show 1 ≤ nMax; decide)
theorem nl2 {x y : D} : ([x, y].length ≤ nMax) = True := eq_true (by show 2 ≤ nMax; decide)
theorem nl3 {x y z : D} : ([x, y, z].length ≤ nMax) = True := eq_true (by show 3 ≤ nMax; decide)
theorem nl4 {x y z u : D} : ([x, y, z, u].length ≤ nMax) = True := eq_true (by show 4 ≤ nMax; decide)
theorem dm2 {a b c : Str} : decide (a ∈ [b, c]) = (decide (a = b) || decide (a = c)) := by
  by_cases h1 : a = b <;> by_cases h2 : a = c <;> simp [h1, h2]
theorem dm3 {a b c d : Str} : decide (a ∈ [b, c, d]) = (decide (a = b) || (decide (a = c) || decide (a = d))) := by
  by_cases h1 : a = b <;> by_cases h2 : a = c <;> by_cases h3 : a = d <;> simp [h1, h2, h3]
theorem inT2 {S : Store} {a b c : Str} : cmpP S .In (.str a) (.tup [.str b, .str c]) = some (decide (a = b) || decide (a = c)) := by
  rw [c_in_txt (xs := [b, c]) rfl, dm2]
theorem inT3 {S : Store} {a b c d : Str} : cmpP S .In (.str a) (.tup [.str b, .str c, .str d]) = some (decide (a = b) || (decide (a = c) || decide (a = d))) := by
  rw [c_in_txt (xs := [b, c, d]) rfl, dm3]
theorem ninT3 {S : Store} {a b c d : Str} : cmpP S .NotIn (.str a) (.tup [.str b, .str c, .str d]) = some (!(decide (a = b) || (decide (a = c) || decide (a = d)))) := by
  rw [c_notin_txt (xs := [b, c, d]) rfl, dm3]
theorem t_tup {S : Store} {xs : List D} : truP S (.tup xs) = some (!xs.isEmpty) := rfl
theorem at0 {i : Int} : atI ([] : List D) i = none := by
  unfold atI ixN
  simp
theorem at1_0 {x : D} : atI [x] 0 = some x := rfl
theorem dm4 {a b c d e : Str} : decide (a ∈ [b, c, d, e]) = (decide (a = b) || (decide (a = c) || (decide (a = d) || decide (a = e)))) := by
  by_cases h1 : a = b <;> by_cases h2 : a = c <;> by_cases h3 : a = d <;> by_cases h4 : a = e <;> simp [h1, h2, h3, h4]
theorem dm5 {a b c d e f : Str} : decide (a ∈ [b, c, d, e, f]) = (decide (a = b) || (decide (a = c) || (decide (a = d) || (decide (a = e) || decide (a = f))))) := by
  rw [show [b, c, d, e, f] = b :: [c, d, e, f] from rfl, ← dm4]
  by_cases h1 : a = b <;> simp [h1]
theorem inT4 {S : Store} {a b c d e : Str} : cmpP S .In (.str a) (.tup [.str b, .str c, .str d, .str e]) = some (decide (a = b) || (decide (a = c) || (decide (a = d) || decide (a = e)))) := by
  rw [c_in_txt (xs := [b, c, d, e]) rfl, dm4]
theorem ninT4 {S : Store} {a b c d e : Str} : cmpP S .NotIn (.str a) (.tup [.str b, .str c, .str d, .str e]) = some (!(decide (a = b) || (decide (a = c) || (decide (a = d) || decide (a = e))))) := by
  rw [c_notin_txt (xs := [b, c, d, e]) rfl, dm4]
theorem ninT5 {S : Store} {a b c d e f : Str} : cmpP S .NotIn (.str a) (.tup [.str b, .str c, .str d, .str e, .str f]) = some (!(decide (a = b) || (decide (a = c) || (decide (a = d) || (decide (a = e) || decide (a = f)))))) := by
  rw [c_notin_txt (xs := [b, c, d, e, f]) rfl, dm5]
theorem nameU {L : Nat} {s : Str} {S : Store} (hL : 2 ≤ L) (hS : S.WF) (hl : s.length ≤ 1000) : Ups (sem T L 1 [.str s] S) S (.bl (isName s)) := by
  obtain ⟨n, rfl⟩ : ∃ n, L = n + 2 := ⟨L - 2, by omega⟩
  exact ok_is_name hS hl
theorem classU {L : Nat} {s : Str} {S : Store} (hL : 2 ≤ L) (hS : S.WF) (hl : s.length ≤ 1000) : Ups (sem T L 2 [.str s] S) S (.bl (isWorded s greatS)) := by
  obtain ⟨n, rfl⟩ : ∃ n, L = n + 2 := ⟨L - 2, by omega⟩
  exact ok_is_class_name hS hl
theorem arityU {L : Nat} {s : Str} {k : Nat} {S : Store} (hL : 3 ≤ L) (hS : S.WF) (h : Ar s k) : Ups (sem T L 4 [.str s] S) S (.int k) := by
  obtain ⟨n, rfl⟩ : ∃ n, L = n + 3 := ⟨L - 3, by omega⟩
  obtain ⟨h1, ps, r, h2, h3⟩ := h
  rw [← h3]
  exact ok_arity_of hS (by omega) h2
theorem add_ll {S : Store} {xs ys : List D} (h : xs.length + ys.length ≤ 1000) : binP S .Add (.lst xs) (.lst ys) = some (.newl (xs ++ ys)) := by
  show guardP (decide (xs.length + ys.length ≤ nMax)) _ = _
  rw [decide_eq_true (Nat.le_trans h (by decide))]
  rfl
theorem add_tt {S : Store} {xs ys : List D} (h : xs.length + ys.length ≤ 1000) : binP S .Add (.tup xs) (.tup ys) = some (.newt (xs ++ ys)) := by
  show guardP (decide (xs.length + ys.length ≤ nMax)) _ = _
  rw [decide_eq_true (Nat.le_trans h (by decide))]
  rfl

/-! ### looks that may refuse -/
def LN (v : Bool) (S0 : Store) (d : D) (S : Store) : Prop := v = true ∧ d = .non ∧ Gr S0 S
def LE (v : Bool) (S0 : Store) (c : Str) (S : Store) : Prop := v = false ∧ c = Str.ofString "BadTree" ∧ Gr S0 S
def Lk (v : Bool) (r : Rs D) (S : Store) : Prop := wpr r (LN v S) (LE v S)
theorem Lk.use {v : Bool} {r : Rs D} {S : Store} {Q : D → Store → Prop} {X : Str → Store → Prop} (h : Lk v r S) (q : v = true → ∀ S', Gr S S' → Q .non S') (x : v = false → ∀ S', Gr S S' → X (Str.ofString "BadTree") S') : wpr r Q X := by
  refine wpr_mono h (fun d S' ⟨a, b, c⟩ => ?_) (fun c S' ⟨a, b, g⟩ => ?_)
  · rw [b]; exact q a S' c
  · rw [b]; exact x a S' g
theorem mustL {L : Nat} {b : Bool} {S : Store} (hL : 1 ≤ L) (hS : S.WF) : Lk b (sem T L 5 [.bl b] S) S := by
  obtain ⟨n, rfl⟩ : ∃ n, L = n + 1 := ⟨L - 1, by omega⟩
  show wpr (endF (evS (sem T n) (gvs T) f_must.body [some (.bl b)] S)) _ _
  rw [wrs_end]
  simp only [f_must, wrs_seqL, wS_asg, wS_ife, wS_ret, wS_nil, wS_exp, wE_cS, wE_cI, wE_cN, wE_cB, wE_call, wE_var, wE_glb, wE_bop, wE_idx, wE_lst, wE_tup, wE_blt, wE_met, wT_cmp, wT_and, wT_or, wT_nt, wT_one, wT_tru, wE_ite, wE_and, wE_or, wE_one, wE_nt, wE_cmp, wE_lc, wI_itr, wI_rng, wA_cons, wA_nil, wpO, wpF, List.set, List.getElem?_cons_zero, List.getElem?_cons_succ, Option.join_some, Bool.false_eq_true, if_false, if_true, wE_neg, wE_chn, wE_lset, wE_inW, wE_ixW, wS_fr, wS_rais, wT_chn, t_bl, later_nil]
  cases b with
  | true => exact ⟨rfl, rfl, .refl hS⟩
  | false => exact ⟨rfl, rfl, .refl hS⟩
/-! ### how many arguments -/
def oD : Option Nat → D
  | none => .non
  | some k => .int (k : Int)
structure ArV (s : Str) (o : Option Nat) : Prop where
  le : s.length ≤ 400
  own : ∀ (L : Nat) (S : Store), 3 ≤ L → S.WF → Ups (sem T L 4 [.str s] S) S (oD o)
theorem arV {s : Str} (hl : s.length ≤ 400) : ∃ o, ArV s o := by
  obtain ⟨ps, r, a, b, c, _⟩ := ok_words_of (n := 0) (s := s) (S := S0) (fun n h => rfl) (by omega)
  obtain ⟨o, ho⟩ : ∃ o, arityD s ps r = oD o := by
    unfold arityD
    split
    · exact ⟨some 0, rfl⟩
    · split
      · exact ⟨some 1, rfl⟩
      · split
        · exact ⟨some ps.length, rfl⟩
        · exact ⟨none, rfl⟩
  refine ⟨o, hl, fun L S hL hS => ?_⟩
  obtain ⟨n, rfl⟩ : ∃ n, L = n + 3 := ⟨L - 3, by omega⟩
  rw [← ho]; exact ok_arity_of hS (by omega) a
theorem o_isnot {S : Store} {o : Option Nat} : cmpP S .IsNot (oD o) .non = some o.isSome := by cases o <;> rfl
theorem o_eq {S : Store} {o : Option Nat} {k : Nat} : cmpP S .Eq (oD o) (.int (k : Int)) = some (decide (o = some k)) := by
  cases o with
  | none => rfl
  | some j =>
    rw [show oD (some j) = .int (j : Int) from rfl, c_eq_int]
    congr 2
    exact propext ⟨fun h => by rw [show j = k by omega], fun h => by rw [Option.some.inj h]⟩
theorem o_ne {S : Store} {o : Option Nat} {k : Nat} : cmpP S .NotEq (oD o) (.int (k : Int)) = some (!decide (o = some k)) := by
  show (cmpP S .Eq (oD o) (.int (k : Int))).map (!·) = _
  rw [o_eq]; rfl
/-! ### names -/
theorem txts_map : ∀ ys : List Str, txts (ys.map D.str) = some ys
  | [] => rfl
  | y :: ys => by
    show (txts (ys.map D.str)).map (y :: ·) = _
    rw [txts_map ys]
    rfl
theorem src_tup {S : Store} {xs : List D} : srcOf S (.tup xs) = some (.vals xs) := rfl
theorem lset_any {xs : List Str} (h : xs.length ≤ 1000) : lsetP (.tup (xs.map D.str)) = some (.val (.int ((met xs).length : Nat))) := by
  show ((txts (xs.map D.str)).bind fun ys => if ys.length ≤ 1000 then some (PR.val (.int (met ys).length)) else none) = _
  rw [txts_map, Option.bind_some, if_pos h]
def nmV (xs : List Str) : Bool := xs.all isName && decide ((met xs).length = xs.length)
theorem dNN {a b : Nat} : decide ((a : Int) = (b : Int)) = decide (a = b) := by congr 1; exact propext (by omega)
theorem lookNamesL {L : Nat} {xs : List Str} {S : Store} (hL : 3 ≤ L) (hS : S.WF) (hl : xs.length ≤ 100) (hn : ∀ x ∈ xs, x.length ≤ 400) : Lk (nmV xs) (sem T L 7 [.tup (xs.map D.str)] S) S := by
  obtain ⟨n, rfl⟩ : ∃ n, L = n + 1 := ⟨L - 1, by omega⟩
  show wpr (endF (evS (sem T n) (gvs T) f_look_names.body [some (.tup (xs.map D.str)), none] S)) _ _
  rw [wrs_end]
  simp only [f_look_names, wrs_seqL, wS_asg, wS_ife, wS_ret, wS_nil, wS_exp, wE_cS, wE_cI, wE_cN, wE_cB, wE_call, wE_var, wE_glb, wE_bop, wE_idx, wE_lst, wE_tup, wE_blt, wE_met, wT_cmp, wT_and, wT_or, wT_nt, wT_one, wT_tru, wE_ite, wE_and, wE_or, wE_one, wE_nt, wE_cmp, wE_lc, wI_itr, wI_rng, wA_cons, wA_nil, wpO, wpF, List.set, List.getElem?_cons_zero, List.getElem?_cons_succ, Option.join_some, Bool.false_eq_true, if_false, if_true, wE_neg, wE_chn, wE_lset, wE_inW, wE_ixW, wS_fr, wS_rais, wT_chn, t_bl, later_nil, src_tup, lset_any (show xs.length ≤ 1000 by omega), b_len_tup, c_eq_int]
  refine (comp_keep_all (asStr isName) hS (by rw [List.length_map]; exact Nat.lt_of_le_of_lt hl (by decide)) fun x hx S' G' => ?_).wpr fun S1 G1 => ?_
  · obtain ⟨s, hs, rfl⟩ := List.mem_map.mp hx
    refine turn_ups rfl (.of ?_)
    simp only [wrs_seqL, wS_asg, wS_ife, wS_ret, wS_nil, wS_exp, wE_cS, wE_cI, wE_cN, wE_cB, wE_call, wE_var, wE_glb, wE_bop, wE_idx, wE_lst, wE_tup, wE_blt, wE_met, wT_cmp, wT_and, wT_or, wT_nt, wT_one, wT_tru, wE_ite, wE_and, wE_or, wE_one, wE_nt, wE_cmp, wE_lc, wI_itr, wI_rng, wA_cons, wA_nil, wpO, wpF, List.set, List.getElem?_cons_zero, List.getElem?_cons_succ, Option.join_some, Bool.false_eq_true, if_false, if_true, wE_neg, wE_chn, wE_lset, wE_inW, wE_ixW, wS_fr, wS_rais, wT_chn, t_bl, later_nil, List.map, wipeE]
    refine (nameU (by omega) G'.wf (by have := hn s hs; omega)).wpr fun S4 G4 => ⟨rfl, G4⟩
  · rw [List.map_map, show (asStr isName ∘ D.str) = fun s => D.bl (isName s) from rfl, b_all, List.length_map]
    simp only [t_bl, dNN]
    have fin : ∀ b : Bool, b = nmV xs → wpr (sem T n 5 [.bl b] S1) (fun x => Later (sem T n) (gvs T) .nil (fun _ => LN (nmV xs) S .non) (LN (nmV xs) S) (fun c _ => LE (nmV xs) S c) [some (.tup (xs.map D.str)), none]) (fun c S2 => LE (nmV xs) S c S2) := fun b hb =>
      (mustL (by omega) G1.wf).use (fun e S2 G2 => by rw [later_nil]; exact ⟨hb ▸ e, rfl, G1.trans G2⟩) (fun e S2 G2 => ⟨hb ▸ e, rfl, G1.trans G2⟩)
    cases q : xs.all fun s => isName s with
    | false => exact fin false (by unfold nmV; rw [show xs.all isName = false from q]; rfl)
    | true => exact fin _ (by unfold nmV; rw [show xs.all isName = true from q]; rfl)
end K10

namespace K10
open PySem L2 ML

/-! ### trees of any kind, and whether they are some -/
abbrev V3 := Bool × Bool × (Nat → Bool)
def vv (v : V3) (deep : Nat) (b : Bool) : Bool := decide (deep ≤ 12) && ((v.1 && (!v.2.1 || b)) && v.2.2 (deep + 1))
def inV (f : D → V3) (xs : List D) (deep : Nat) : Bool := xs.all fun x => vv (f x) deep false
def bodyV (f : D → V3) (bs : List D) (deep : Nat) : Bool := (List.range bs.length).all fun k => vv (f (bs.getD k .non)) deep (decide (k + 1 = bs.length))
structure SOk (s : Str) : Prop where
  le : s.length ≤ 400
  ok : PySem.PyData.strOk s = true
inductive XV : Nat → D → V3 → Prop
  | emp {n : Nat} : XV (n + 1) (.tup []) (false, false, fun _ => true)
  | num {n : Nat} {i : Int} : XV (n + 1) (.tup [.str "number", .int i]) (decide (0 ≤ i) && decide (i ≤ 999999), false, fun _ => true)
  | num2 {n : Nat} : XV (n + 1) (.tup [.str "number", .int 1, .int 2]) (false, false, fun _ => true)
  | thing {n : Nat} : XV (n + 1) (.tup [.str "thing", .int 1]) (false, false, fun _ => true)
  | word {n : Nat} {s : Str} {o : Option Nat} : SOk s → ArV s o → XV (n + 1) (.tup [.str "word", .str s]) (o.isSome, false, fun _ => true)
  | name {n : Nat} {s : Str} : SOk s → XV (n + 1) (.tup [.str "name", .str s]) (isName s || (isWorded s greatS || decide (s ∈ plain)), false, fun _ => true)
  | set {n : Nat} {s : Str} {t : D} {f : D → V3} : SOk s → XV n t (f t) → XV (n + 1) (.tup [.str "set", .str s, t]) (isName s, false, inV f [t])
  | send {n : Nat} {s : Str} {t : D} {ts : List D} {o : Option Nat} {f : D → V3} : SOk s → ArV s o → ts.length ≤ 3 → (∀ x ∈ t :: ts, XV n x (f x)) → XV (n + 1) (.tup [.str "send", t, .str s, .tup ts]) (decide (o = some ts.length), false, inV f (t :: ts))
  | sup {n : Nat} {s : Str} {ts : List D} {o : Option Nat} {f : D → V3} : SOk s → ArV s o → ts.length ≤ 3 → (∀ x ∈ ts, XV n x (f x)) → XV (n + 1) (.tup [.str "super", .str s, .tup ts]) (decide (o = some ts.length), false, inV f ts)
  | blk {n : Nat} {ps ms : List Str} {bs : List D} {f : D → V3} : ps.length ≤ 3 → ms.length ≤ 3 → (∀ x ∈ ps ++ ms, SOk x) → bs.length ≤ 5 → (∀ x ∈ bs, XV n x (f x)) →
      XV (n + 1) (.tup [.str "block", .tup (ps.map D.str), .tup (ms.map D.str), .tup bs]) (decide (ps.length ≤ 2) && nmV (ps ++ ms), false, bodyV f bs)
  | back {n : Nat} {t : D} {f : D → V3} : XV n t (f t) → XV (n + 1) (.tup [.str "back", t]) (true, true, inV f [t])
def tupL : D → List D
  | .tup xs => xs
  | _ => []
/-- the trees right within one -/
def innerOf : D → List D
  | .tup [.str w, a] => if w = Str.ofString "back" then [a] else []
  | .tup [.str w, a, b] => if w = Str.ofString "set" then [b] else if w = Str.ofString "super" then tupL b else []
  | .tup [.str w, a, b, c] => if w = Str.ofString "send" then a :: tupL c else if w = Str.ofString "block" then tupL c else []
  | _ => []

theorem innerU {L n : Nat} {v : V3} {d : D} {S : Store} (hL : 1 ≤ L) (hS : S.WF) (h : XV n d v) (hd : d ≠ .tup []) : Ups (sem T L 6 [d] S) S (.lst (innerOf d)) := by
  obtain ⟨l, rfl⟩ : ∃ n, L = n + 1 := ⟨L - 1, by omega⟩
  refine .of ?_
  show wpr (endF (evS (sem T l) (gvs T) f_inner_trees.body [some d, none] S)) _ _
  rw [wrs_end]
  cases h with
  | emp => exact absurd rfl hd
  | num =>
    simp only [f_inner_trees, wrs_seqL, wS_asg, wS_ife, wS_ret, wS_nil, wS_exp, wE_cS, wE_cI, wE_cN, wE_cB, wE_call, wE_var, wE_glb, wE_bop, wE_idx, wE_lst, wE_tup, wE_blt, wE_met, wT_cmp, wT_and, wT_or, wT_nt, wT_one, wT_tru, wE_ite, wE_and, wE_or, wE_one, wE_nt, wE_cmp, wE_lc, wI_itr, wI_rng, wA_cons, wA_nil, wpO, wpF, List.set, List.getElem?_cons_zero, List.getElem?_cons_succ, Option.join_some, Bool.false_eq_true, if_false, if_true, wE_neg, wE_chn, wE_lset, wE_inW, wE_ixW, wS_fr, wS_rais, wT_chn, t_bl, later_nil, ofS_inj, decide_false, decide_true, Bool.or_false, Bool.false_or, Bool.or_true, Bool.true_or, Bool.not_false, Bool.not_true, Bool.and_true, Bool.true_and, reduceCtorEq, String.reduceEq, String.reduceNe, c_eq_str, c_ne_str, inT2, inT3, ninT3, ML.ix_tup, at2_0, at2_1, at2_m1, at2_m2, at3_0, at3_1, at3_2, at3_m1, at3_m2, at4_0, at4_1, at4_2, at4_3, at4_m1, at4_m2, Int.reduceNeg, nl0, nl1, nl2, nl3, nl4, true_and, list_tup, b_len_tup, inT4, ninT4, ninT5, t_tup, at0, at1_0, List.isEmpty_nil, List.isEmpty_cons]
    iterate 5 (rw [later]; simp only [wrs_seqL, wS_asg, wS_ife, wS_ret, wS_nil, wS_exp, wE_cS, wE_cI, wE_cN, wE_cB, wE_call, wE_var, wE_glb, wE_bop, wE_idx, wE_lst, wE_tup, wE_blt, wE_met, wT_cmp, wT_and, wT_or, wT_nt, wT_one, wT_tru, wE_ite, wE_and, wE_or, wE_one, wE_nt, wE_cmp, wE_lc, wI_itr, wI_rng, wA_cons, wA_nil, wpO, wpF, List.set, List.getElem?_cons_zero, List.getElem?_cons_succ, Option.join_some, Bool.false_eq_true, if_false, if_true, wE_neg, wE_chn, wE_lset, wE_inW, wE_ixW, wS_fr, wS_rais, wT_chn, t_bl, later_nil, ofS_inj, decide_false, decide_true, Bool.or_false, Bool.false_or, Bool.or_true, Bool.true_or, Bool.not_false, Bool.not_true, Bool.and_true, Bool.true_and, reduceCtorEq, String.reduceEq, String.reduceNe, c_eq_str, c_ne_str, inT2, inT3, ninT3, ML.ix_tup, at2_0, at2_1, at2_m1, at2_m2, at3_0, at3_1, at3_2, at3_m1, at3_m2, at4_0, at4_1, at4_2, at4_3, at4_m1, at4_m2, Int.reduceNeg, nl0, nl1, nl2, nl3, nl4, true_and, list_tup, b_len_tup, inT4, ninT4, ninT5, t_tup, at0, at1_0, List.isEmpty_nil, List.isEmpty_cons])
    exact ⟨by simp only [innerOf, ofS_inj, decide_false, decide_true, Bool.or_false, Bool.false_or, Bool.or_true, Bool.true_or, Bool.not_false, Bool.not_true, Bool.and_true, Bool.true_and, reduceCtorEq, String.reduceEq, String.reduceNe, c_eq_str, c_ne_str, inT2, inT3, ninT3, ML.ix_tup, at2_0, at2_1, at2_m1, at2_m2, at3_0, at3_1, at3_2, at3_m1, at3_m2, at4_0, at4_1, at4_2, at4_3, at4_m1, at4_m2, Int.reduceNeg, nl0, nl1, nl2, nl3, nl4, true_and, list_tup, b_len_tup, inT4, ninT4, ninT5, t_tup, at0, at1_0, List.isEmpty_nil, List.isEmpty_cons, if_false, if_true], .refl hS⟩
  | num2 =>
    simp only [f_inner_trees, wrs_seqL, wS_asg, wS_ife, wS_ret, wS_nil, wS_exp, wE_cS, wE_cI, wE_cN, wE_cB, wE_call, wE_var, wE_glb, wE_bop, wE_idx, wE_lst, wE_tup, wE_blt, wE_met, wT_cmp, wT_and, wT_or, wT_nt, wT_one, wT_tru, wE_ite, wE_and, wE_or, wE_one, wE_nt, wE_cmp, wE_lc, wI_itr, wI_rng, wA_cons, wA_nil, wpO, wpF, List.set, List.getElem?_cons_zero, List.getElem?_cons_succ, Option.join_some, Bool.false_eq_true, if_false, if_true, wE_neg, wE_chn, wE_lset, wE_inW, wE_ixW, wS_fr, wS_rais, wT_chn, t_bl, later_nil, ofS_inj, decide_false, decide_true, Bool.or_false, Bool.false_or, Bool.or_true, Bool.true_or, Bool.not_false, Bool.not_true, Bool.and_true, Bool.true_and, reduceCtorEq, String.reduceEq, String.reduceNe, c_eq_str, c_ne_str, inT2, inT3, ninT3, ML.ix_tup, at2_0, at2_1, at2_m1, at2_m2, at3_0, at3_1, at3_2, at3_m1, at3_m2, at4_0, at4_1, at4_2, at4_3, at4_m1, at4_m2, Int.reduceNeg, nl0, nl1, nl2, nl3, nl4, true_and, list_tup, b_len_tup, inT4, ninT4, ninT5, t_tup, at0, at1_0, List.isEmpty_nil, List.isEmpty_cons]
    iterate 5 (rw [later]; simp only [wrs_seqL, wS_asg, wS_ife, wS_ret, wS_nil, wS_exp, wE_cS, wE_cI, wE_cN, wE_cB, wE_call, wE_var, wE_glb, wE_bop, wE_idx, wE_lst, wE_tup, wE_blt, wE_met, wT_cmp, wT_and, wT_or, wT_nt, wT_one, wT_tru, wE_ite, wE_and, wE_or, wE_one, wE_nt, wE_cmp, wE_lc, wI_itr, wI_rng, wA_cons, wA_nil, wpO, wpF, List.set, List.getElem?_cons_zero, List.getElem?_cons_succ, Option.join_some, Bool.false_eq_true, if_false, if_true, wE_neg, wE_chn, wE_lset, wE_inW, wE_ixW, wS_fr, wS_rais, wT_chn, t_bl, later_nil, ofS_inj, decide_false, decide_true, Bool.or_false, Bool.false_or, Bool.or_true, Bool.true_or, Bool.not_false, Bool.not_true, Bool.and_true, Bool.true_and, reduceCtorEq, String.reduceEq, String.reduceNe, c_eq_str, c_ne_str, inT2, inT3, ninT3, ML.ix_tup, at2_0, at2_1, at2_m1, at2_m2, at3_0, at3_1, at3_2, at3_m1, at3_m2, at4_0, at4_1, at4_2, at4_3, at4_m1, at4_m2, Int.reduceNeg, nl0, nl1, nl2, nl3, nl4, true_and, list_tup, b_len_tup, inT4, ninT4, ninT5, t_tup, at0, at1_0, List.isEmpty_nil, List.isEmpty_cons])
    exact ⟨by simp only [innerOf, ofS_inj, decide_false, decide_true, Bool.or_false, Bool.false_or, Bool.or_true, Bool.true_or, Bool.not_false, Bool.not_true, Bool.and_true, Bool.true_and, reduceCtorEq, String.reduceEq, String.reduceNe, c_eq_str, c_ne_str, inT2, inT3, ninT3, ML.ix_tup, at2_0, at2_1, at2_m1, at2_m2, at3_0, at3_1, at3_2, at3_m1, at3_m2, at4_0, at4_1, at4_2, at4_3, at4_m1, at4_m2, Int.reduceNeg, nl0, nl1, nl2, nl3, nl4, true_and, list_tup, b_len_tup, inT4, ninT4, ninT5, t_tup, at0, at1_0, List.isEmpty_nil, List.isEmpty_cons, if_false, if_true], .refl hS⟩
  | thing =>
    simp only [f_inner_trees, wrs_seqL, wS_asg, wS_ife, wS_ret, wS_nil, wS_exp, wE_cS, wE_cI, wE_cN, wE_cB, wE_call, wE_var, wE_glb, wE_bop, wE_idx, wE_lst, wE_tup, wE_blt, wE_met, wT_cmp, wT_and, wT_or, wT_nt, wT_one, wT_tru, wE_ite, wE_and, wE_or, wE_one, wE_nt, wE_cmp, wE_lc, wI_itr, wI_rng, wA_cons, wA_nil, wpO, wpF, List.set, List.getElem?_cons_zero, List.getElem?_cons_succ, Option.join_some, Bool.false_eq_true, if_false, if_true, wE_neg, wE_chn, wE_lset, wE_inW, wE_ixW, wS_fr, wS_rais, wT_chn, t_bl, later_nil, ofS_inj, decide_false, decide_true, Bool.or_false, Bool.false_or, Bool.or_true, Bool.true_or, Bool.not_false, Bool.not_true, Bool.and_true, Bool.true_and, reduceCtorEq, String.reduceEq, String.reduceNe, c_eq_str, c_ne_str, inT2, inT3, ninT3, ML.ix_tup, at2_0, at2_1, at2_m1, at2_m2, at3_0, at3_1, at3_2, at3_m1, at3_m2, at4_0, at4_1, at4_2, at4_3, at4_m1, at4_m2, Int.reduceNeg, nl0, nl1, nl2, nl3, nl4, true_and, list_tup, b_len_tup, inT4, ninT4, ninT5, t_tup, at0, at1_0, List.isEmpty_nil, List.isEmpty_cons]
    iterate 5 (rw [later]; simp only [wrs_seqL, wS_asg, wS_ife, wS_ret, wS_nil, wS_exp, wE_cS, wE_cI, wE_cN, wE_cB, wE_call, wE_var, wE_glb, wE_bop, wE_idx, wE_lst, wE_tup, wE_blt, wE_met, wT_cmp, wT_and, wT_or, wT_nt, wT_one, wT_tru, wE_ite, wE_and, wE_or, wE_one, wE_nt, wE_cmp, wE_lc, wI_itr, wI_rng, wA_cons, wA_nil, wpO, wpF, List.set, List.getElem?_cons_zero, List.getElem?_cons_succ, Option.join_some, Bool.false_eq_true, if_false, if_true, wE_neg, wE_chn, wE_lset, wE_inW, wE_ixW, wS_fr, wS_rais, wT_chn, t_bl, later_nil, ofS_inj, decide_false, decide_true, Bool.or_false, Bool.false_or, Bool.or_true, Bool.true_or, Bool.not_false, Bool.not_true, Bool.and_true, Bool.true_and, reduceCtorEq, String.reduceEq, String.reduceNe, c_eq_str, c_ne_str, inT2, inT3, ninT3, ML.ix_tup, at2_0, at2_1, at2_m1, at2_m2, at3_0, at3_1, at3_2, at3_m1, at3_m2, at4_0, at4_1, at4_2, at4_3, at4_m1, at4_m2, Int.reduceNeg, nl0, nl1, nl2, nl3, nl4, true_and, list_tup, b_len_tup, inT4, ninT4, ninT5, t_tup, at0, at1_0, List.isEmpty_nil, List.isEmpty_cons])
    exact ⟨by simp only [innerOf, ofS_inj, decide_false, decide_true, Bool.or_false, Bool.false_or, Bool.or_true, Bool.true_or, Bool.not_false, Bool.not_true, Bool.and_true, Bool.true_and, reduceCtorEq, String.reduceEq, String.reduceNe, c_eq_str, c_ne_str, inT2, inT3, ninT3, ML.ix_tup, at2_0, at2_1, at2_m1, at2_m2, at3_0, at3_1, at3_2, at3_m1, at3_m2, at4_0, at4_1, at4_2, at4_3, at4_m1, at4_m2, Int.reduceNeg, nl0, nl1, nl2, nl3, nl4, true_and, list_tup, b_len_tup, inT4, ninT4, ninT5, t_tup, at0, at1_0, List.isEmpty_nil, List.isEmpty_cons, if_false, if_true], .refl hS⟩
  | word _ _ =>
    simp only [f_inner_trees, wrs_seqL, wS_asg, wS_ife, wS_ret, wS_nil, wS_exp, wE_cS, wE_cI, wE_cN, wE_cB, wE_call, wE_var, wE_glb, wE_bop, wE_idx, wE_lst, wE_tup, wE_blt, wE_met, wT_cmp, wT_and, wT_or, wT_nt, wT_one, wT_tru, wE_ite, wE_and, wE_or, wE_one, wE_nt, wE_cmp, wE_lc, wI_itr, wI_rng, wA_cons, wA_nil, wpO, wpF, List.set, List.getElem?_cons_zero, List.getElem?_cons_succ, Option.join_some, Bool.false_eq_true, if_false, if_true, wE_neg, wE_chn, wE_lset, wE_inW, wE_ixW, wS_fr, wS_rais, wT_chn, t_bl, later_nil, ofS_inj, decide_false, decide_true, Bool.or_false, Bool.false_or, Bool.or_true, Bool.true_or, Bool.not_false, Bool.not_true, Bool.and_true, Bool.true_and, reduceCtorEq, String.reduceEq, String.reduceNe, c_eq_str, c_ne_str, inT2, inT3, ninT3, ML.ix_tup, at2_0, at2_1, at2_m1, at2_m2, at3_0, at3_1, at3_2, at3_m1, at3_m2, at4_0, at4_1, at4_2, at4_3, at4_m1, at4_m2, Int.reduceNeg, nl0, nl1, nl2, nl3, nl4, true_and, list_tup, b_len_tup, inT4, ninT4, ninT5, t_tup, at0, at1_0, List.isEmpty_nil, List.isEmpty_cons]
    iterate 5 (rw [later]; simp only [wrs_seqL, wS_asg, wS_ife, wS_ret, wS_nil, wS_exp, wE_cS, wE_cI, wE_cN, wE_cB, wE_call, wE_var, wE_glb, wE_bop, wE_idx, wE_lst, wE_tup, wE_blt, wE_met, wT_cmp, wT_and, wT_or, wT_nt, wT_one, wT_tru, wE_ite, wE_and, wE_or, wE_one, wE_nt, wE_cmp, wE_lc, wI_itr, wI_rng, wA_cons, wA_nil, wpO, wpF, List.set, List.getElem?_cons_zero, List.getElem?_cons_succ, Option.join_some, Bool.false_eq_true, if_false, if_true, wE_neg, wE_chn, wE_lset, wE_inW, wE_ixW, wS_fr, wS_rais, wT_chn, t_bl, later_nil, ofS_inj, decide_false, decide_true, Bool.or_false, Bool.false_or, Bool.or_true, Bool.true_or, Bool.not_false, Bool.not_true, Bool.and_true, Bool.true_and, reduceCtorEq, String.reduceEq, String.reduceNe, c_eq_str, c_ne_str, inT2, inT3, ninT3, ML.ix_tup, at2_0, at2_1, at2_m1, at2_m2, at3_0, at3_1, at3_2, at3_m1, at3_m2, at4_0, at4_1, at4_2, at4_3, at4_m1, at4_m2, Int.reduceNeg, nl0, nl1, nl2, nl3, nl4, true_and, list_tup, b_len_tup, inT4, ninT4, ninT5, t_tup, at0, at1_0, List.isEmpty_nil, List.isEmpty_cons])
    exact ⟨by simp only [innerOf, ofS_inj, decide_false, decide_true, Bool.or_false, Bool.false_or, Bool.or_true, Bool.true_or, Bool.not_false, Bool.not_true, Bool.and_true, Bool.true_and, reduceCtorEq, String.reduceEq, String.reduceNe, c_eq_str, c_ne_str, inT2, inT3, ninT3, ML.ix_tup, at2_0, at2_1, at2_m1, at2_m2, at3_0, at3_1, at3_2, at3_m1, at3_m2, at4_0, at4_1, at4_2, at4_3, at4_m1, at4_m2, Int.reduceNeg, nl0, nl1, nl2, nl3, nl4, true_and, list_tup, b_len_tup, inT4, ninT4, ninT5, t_tup, at0, at1_0, List.isEmpty_nil, List.isEmpty_cons, if_false, if_true], .refl hS⟩
  | name _ =>
    simp only [f_inner_trees, wrs_seqL, wS_asg, wS_ife, wS_ret, wS_nil, wS_exp, wE_cS, wE_cI, wE_cN, wE_cB, wE_call, wE_var, wE_glb, wE_bop, wE_idx, wE_lst, wE_tup, wE_blt, wE_met, wT_cmp, wT_and, wT_or, wT_nt, wT_one, wT_tru, wE_ite, wE_and, wE_or, wE_one, wE_nt, wE_cmp, wE_lc, wI_itr, wI_rng, wA_cons, wA_nil, wpO, wpF, List.set, List.getElem?_cons_zero, List.getElem?_cons_succ, Option.join_some, Bool.false_eq_true, if_false, if_true, wE_neg, wE_chn, wE_lset, wE_inW, wE_ixW, wS_fr, wS_rais, wT_chn, t_bl, later_nil, ofS_inj, decide_false, decide_true, Bool.or_false, Bool.false_or, Bool.or_true, Bool.true_or, Bool.not_false, Bool.not_true, Bool.and_true, Bool.true_and, reduceCtorEq, String.reduceEq, String.reduceNe, c_eq_str, c_ne_str, inT2, inT3, ninT3, ML.ix_tup, at2_0, at2_1, at2_m1, at2_m2, at3_0, at3_1, at3_2, at3_m1, at3_m2, at4_0, at4_1, at4_2, at4_3, at4_m1, at4_m2, Int.reduceNeg, nl0, nl1, nl2, nl3, nl4, true_and, list_tup, b_len_tup, inT4, ninT4, ninT5, t_tup, at0, at1_0, List.isEmpty_nil, List.isEmpty_cons]
    iterate 5 (rw [later]; simp only [wrs_seqL, wS_asg, wS_ife, wS_ret, wS_nil, wS_exp, wE_cS, wE_cI, wE_cN, wE_cB, wE_call, wE_var, wE_glb, wE_bop, wE_idx, wE_lst, wE_tup, wE_blt, wE_met, wT_cmp, wT_and, wT_or, wT_nt, wT_one, wT_tru, wE_ite, wE_and, wE_or, wE_one, wE_nt, wE_cmp, wE_lc, wI_itr, wI_rng, wA_cons, wA_nil, wpO, wpF, List.set, List.getElem?_cons_zero, List.getElem?_cons_succ, Option.join_some, Bool.false_eq_true, if_false, if_true, wE_neg, wE_chn, wE_lset, wE_inW, wE_ixW, wS_fr, wS_rais, wT_chn, t_bl, later_nil, ofS_inj, decide_false, decide_true, Bool.or_false, Bool.false_or, Bool.or_true, Bool.true_or, Bool.not_false, Bool.not_true, Bool.and_true, Bool.true_and, reduceCtorEq, String.reduceEq, String.reduceNe, c_eq_str, c_ne_str, inT2, inT3, ninT3, ML.ix_tup, at2_0, at2_1, at2_m1, at2_m2, at3_0, at3_1, at3_2, at3_m1, at3_m2, at4_0, at4_1, at4_2, at4_3, at4_m1, at4_m2, Int.reduceNeg, nl0, nl1, nl2, nl3, nl4, true_and, list_tup, b_len_tup, inT4, ninT4, ninT5, t_tup, at0, at1_0, List.isEmpty_nil, List.isEmpty_cons])
    exact ⟨by simp only [innerOf, ofS_inj, decide_false, decide_true, Bool.or_false, Bool.false_or, Bool.or_true, Bool.true_or, Bool.not_false, Bool.not_true, Bool.and_true, Bool.true_and, reduceCtorEq, String.reduceEq, String.reduceNe, c_eq_str, c_ne_str, inT2, inT3, ninT3, ML.ix_tup, at2_0, at2_1, at2_m1, at2_m2, at3_0, at3_1, at3_2, at3_m1, at3_m2, at4_0, at4_1, at4_2, at4_3, at4_m1, at4_m2, Int.reduceNeg, nl0, nl1, nl2, nl3, nl4, true_and, list_tup, b_len_tup, inT4, ninT4, ninT5, t_tup, at0, at1_0, List.isEmpty_nil, List.isEmpty_cons, if_false, if_true], .refl hS⟩
  | set _ _ =>
    simp only [f_inner_trees, wrs_seqL, wS_asg, wS_ife, wS_ret, wS_nil, wS_exp, wE_cS, wE_cI, wE_cN, wE_cB, wE_call, wE_var, wE_glb, wE_bop, wE_idx, wE_lst, wE_tup, wE_blt, wE_met, wT_cmp, wT_and, wT_or, wT_nt, wT_one, wT_tru, wE_ite, wE_and, wE_or, wE_one, wE_nt, wE_cmp, wE_lc, wI_itr, wI_rng, wA_cons, wA_nil, wpO, wpF, List.set, List.getElem?_cons_zero, List.getElem?_cons_succ, Option.join_some, Bool.false_eq_true, if_false, if_true, wE_neg, wE_chn, wE_lset, wE_inW, wE_ixW, wS_fr, wS_rais, wT_chn, t_bl, later_nil, ofS_inj, decide_false, decide_true, Bool.or_false, Bool.false_or, Bool.or_true, Bool.true_or, Bool.not_false, Bool.not_true, Bool.and_true, Bool.true_and, reduceCtorEq, String.reduceEq, String.reduceNe, c_eq_str, c_ne_str, inT2, inT3, ninT3, ML.ix_tup, at2_0, at2_1, at2_m1, at2_m2, at3_0, at3_1, at3_2, at3_m1, at3_m2, at4_0, at4_1, at4_2, at4_3, at4_m1, at4_m2, Int.reduceNeg, nl0, nl1, nl2, nl3, nl4, true_and, list_tup, b_len_tup, inT4, ninT4, ninT5, t_tup, at0, at1_0, List.isEmpty_nil, List.isEmpty_cons]
    iterate 1 (rw [later]; simp only [wrs_seqL, wS_asg, wS_ife, wS_ret, wS_nil, wS_exp, wE_cS, wE_cI, wE_cN, wE_cB, wE_call, wE_var, wE_glb, wE_bop, wE_idx, wE_lst, wE_tup, wE_blt, wE_met, wT_cmp, wT_and, wT_or, wT_nt, wT_one, wT_tru, wE_ite, wE_and, wE_or, wE_one, wE_nt, wE_cmp, wE_lc, wI_itr, wI_rng, wA_cons, wA_nil, wpO, wpF, List.set, List.getElem?_cons_zero, List.getElem?_cons_succ, Option.join_some, Bool.false_eq_true, if_false, if_true, wE_neg, wE_chn, wE_lset, wE_inW, wE_ixW, wS_fr, wS_rais, wT_chn, t_bl, later_nil, ofS_inj, decide_false, decide_true, Bool.or_false, Bool.false_or, Bool.or_true, Bool.true_or, Bool.not_false, Bool.not_true, Bool.and_true, Bool.true_and, reduceCtorEq, String.reduceEq, String.reduceNe, c_eq_str, c_ne_str, inT2, inT3, ninT3, ML.ix_tup, at2_0, at2_1, at2_m1, at2_m2, at3_0, at3_1, at3_2, at3_m1, at3_m2, at4_0, at4_1, at4_2, at4_3, at4_m1, at4_m2, Int.reduceNeg, nl0, nl1, nl2, nl3, nl4, true_and, list_tup, b_len_tup, inT4, ninT4, ninT5, t_tup, at0, at1_0, List.isEmpty_nil, List.isEmpty_cons])
    exact ⟨by simp only [innerOf, ofS_inj, decide_false, decide_true, Bool.or_false, Bool.false_or, Bool.or_true, Bool.true_or, Bool.not_false, Bool.not_true, Bool.and_true, Bool.true_and, reduceCtorEq, String.reduceEq, String.reduceNe, c_eq_str, c_ne_str, inT2, inT3, ninT3, ML.ix_tup, at2_0, at2_1, at2_m1, at2_m2, at3_0, at3_1, at3_2, at3_m1, at3_m2, at4_0, at4_1, at4_2, at4_3, at4_m1, at4_m2, Int.reduceNeg, nl0, nl1, nl2, nl3, nl4, true_and, list_tup, b_len_tup, inT4, ninT4, ninT5, t_tup, at0, at1_0, List.isEmpty_nil, List.isEmpty_cons, if_false, if_true], .refl hS⟩
  | back _ =>
    simp only [f_inner_trees, wrs_seqL, wS_asg, wS_ife, wS_ret, wS_nil, wS_exp, wE_cS, wE_cI, wE_cN, wE_cB, wE_call, wE_var, wE_glb, wE_bop, wE_idx, wE_lst, wE_tup, wE_blt, wE_met, wT_cmp, wT_and, wT_or, wT_nt, wT_one, wT_tru, wE_ite, wE_and, wE_or, wE_one, wE_nt, wE_cmp, wE_lc, wI_itr, wI_rng, wA_cons, wA_nil, wpO, wpF, List.set, List.getElem?_cons_zero, List.getElem?_cons_succ, Option.join_some, Bool.false_eq_true, if_false, if_true, wE_neg, wE_chn, wE_lset, wE_inW, wE_ixW, wS_fr, wS_rais, wT_chn, t_bl, later_nil, ofS_inj, decide_false, decide_true, Bool.or_false, Bool.false_or, Bool.or_true, Bool.true_or, Bool.not_false, Bool.not_true, Bool.and_true, Bool.true_and, reduceCtorEq, String.reduceEq, String.reduceNe, c_eq_str, c_ne_str, inT2, inT3, ninT3, ML.ix_tup, at2_0, at2_1, at2_m1, at2_m2, at3_0, at3_1, at3_2, at3_m1, at3_m2, at4_0, at4_1, at4_2, at4_3, at4_m1, at4_m2, Int.reduceNeg, nl0, nl1, nl2, nl3, nl4, true_and, list_tup, b_len_tup, inT4, ninT4, ninT5, t_tup, at0, at1_0, List.isEmpty_nil, List.isEmpty_cons]
    iterate 1 (rw [later]; simp only [wrs_seqL, wS_asg, wS_ife, wS_ret, wS_nil, wS_exp, wE_cS, wE_cI, wE_cN, wE_cB, wE_call, wE_var, wE_glb, wE_bop, wE_idx, wE_lst, wE_tup, wE_blt, wE_met, wT_cmp, wT_and, wT_or, wT_nt, wT_one, wT_tru, wE_ite, wE_and, wE_or, wE_one, wE_nt, wE_cmp, wE_lc, wI_itr, wI_rng, wA_cons, wA_nil, wpO, wpF, List.set, List.getElem?_cons_zero, List.getElem?_cons_succ, Option.join_some, Bool.false_eq_true, if_false, if_true, wE_neg, wE_chn, wE_lset, wE_inW, wE_ixW, wS_fr, wS_rais, wT_chn, t_bl, later_nil, ofS_inj, decide_false, decide_true, Bool.or_false, Bool.false_or, Bool.or_true, Bool.true_or, Bool.not_false, Bool.not_true, Bool.and_true, Bool.true_and, reduceCtorEq, String.reduceEq, String.reduceNe, c_eq_str, c_ne_str, inT2, inT3, ninT3, ML.ix_tup, at2_0, at2_1, at2_m1, at2_m2, at3_0, at3_1, at3_2, at3_m1, at3_m2, at4_0, at4_1, at4_2, at4_3, at4_m1, at4_m2, Int.reduceNeg, nl0, nl1, nl2, nl3, nl4, true_and, list_tup, b_len_tup, inT4, ninT4, ninT5, t_tup, at0, at1_0, List.isEmpty_nil, List.isEmpty_cons])
    exact ⟨by simp only [innerOf, ofS_inj, decide_false, decide_true, Bool.or_false, Bool.false_or, Bool.or_true, Bool.true_or, Bool.not_false, Bool.not_true, Bool.and_true, Bool.true_and, reduceCtorEq, String.reduceEq, String.reduceNe, c_eq_str, c_ne_str, inT2, inT3, ninT3, ML.ix_tup, at2_0, at2_1, at2_m1, at2_m2, at3_0, at3_1, at3_2, at3_m1, at3_m2, at4_0, at4_1, at4_2, at4_3, at4_m1, at4_m2, Int.reduceNeg, nl0, nl1, nl2, nl3, nl4, true_and, list_tup, b_len_tup, inT4, ninT4, ninT5, t_tup, at0, at1_0, List.isEmpty_nil, List.isEmpty_cons, if_false, if_true], .refl hS⟩
  | @send n s t ts o f h1 h2 h3 h4 =>
    simp only [f_inner_trees, wrs_seqL, wS_asg, wS_ife, wS_ret, wS_nil, wS_exp, wE_cS, wE_cI, wE_cN, wE_cB, wE_call, wE_var, wE_glb, wE_bop, wE_idx, wE_lst, wE_tup, wE_blt, wE_met, wT_cmp, wT_and, wT_or, wT_nt, wT_one, wT_tru, wE_ite, wE_and, wE_or, wE_one, wE_nt, wE_cmp, wE_lc, wI_itr, wI_rng, wA_cons, wA_nil, wpO, wpF, List.set, List.getElem?_cons_zero, List.getElem?_cons_succ, Option.join_some, Bool.false_eq_true, if_false, if_true, wE_neg, wE_chn, wE_lset, wE_inW, wE_ixW, wS_fr, wS_rais, wT_chn, t_bl, later_nil, ofS_inj, decide_false, decide_true, Bool.or_false, Bool.false_or, Bool.or_true, Bool.true_or, Bool.not_false, Bool.not_true, Bool.and_true, Bool.true_and, reduceCtorEq, String.reduceEq, String.reduceNe, c_eq_str, c_ne_str, inT2, inT3, ninT3, ML.ix_tup, at2_0, at2_1, at2_m1, at2_m2, at3_0, at3_1, at3_2, at3_m1, at3_m2, at4_0, at4_1, at4_2, at4_3, at4_m1, at4_m2, Int.reduceNeg, nl0, nl1, nl2, nl3, nl4, true_and, list_tup, b_len_tup, inT4, ninT4, ninT5, t_tup, at0, at1_0, List.isEmpty_nil, List.isEmpty_cons]
    iterate 2 (rw [later]; simp only [wrs_seqL, wS_asg, wS_ife, wS_ret, wS_nil, wS_exp, wE_cS, wE_cI, wE_cN, wE_cB, wE_call, wE_var, wE_glb, wE_bop, wE_idx, wE_lst, wE_tup, wE_blt, wE_met, wT_cmp, wT_and, wT_or, wT_nt, wT_one, wT_tru, wE_ite, wE_and, wE_or, wE_one, wE_nt, wE_cmp, wE_lc, wI_itr, wI_rng, wA_cons, wA_nil, wpO, wpF, List.set, List.getElem?_cons_zero, List.getElem?_cons_succ, Option.join_some, Bool.false_eq_true, if_false, if_true, wE_neg, wE_chn, wE_lset, wE_inW, wE_ixW, wS_fr, wS_rais, wT_chn, t_bl, later_nil, ofS_inj, decide_false, decide_true, Bool.or_false, Bool.false_or, Bool.or_true, Bool.true_or, Bool.not_false, Bool.not_true, Bool.and_true, Bool.true_and, reduceCtorEq, String.reduceEq, String.reduceNe, c_eq_str, c_ne_str, inT2, inT3, ninT3, ML.ix_tup, at2_0, at2_1, at2_m1, at2_m2, at3_0, at3_1, at3_2, at3_m1, at3_m2, at4_0, at4_1, at4_2, at4_3, at4_m1, at4_m2, Int.reduceNeg, nl0, nl1, nl2, nl3, nl4, true_and, list_tup, b_len_tup, inT4, ninT4, ninT5, t_tup, at0, at1_0, List.isEmpty_nil, List.isEmpty_cons])
    rw [add_ll (xs := [t]) (ys := ts) (by show 1 + ts.length ≤ 1000; omega)]
    exact ⟨by simp only [innerOf, ofS_inj, decide_false, decide_true, Bool.or_false, Bool.false_or, Bool.or_true, Bool.true_or, Bool.not_false, Bool.not_true, Bool.and_true, Bool.true_and, reduceCtorEq, String.reduceEq, String.reduceNe, c_eq_str, c_ne_str, inT2, inT3, ninT3, ML.ix_tup, at2_0, at2_1, at2_m1, at2_m2, at3_0, at3_1, at3_2, at3_m1, at3_m2, at4_0, at4_1, at4_2, at4_3, at4_m1, at4_m2, Int.reduceNeg, nl0, nl1, nl2, nl3, nl4, true_and, list_tup, b_len_tup, inT4, ninT4, ninT5, t_tup, at0, at1_0, List.isEmpty_nil, List.isEmpty_cons, if_true]; rfl, .refl hS⟩
  | sup _ _ h3 _ =>
    simp only [f_inner_trees, wrs_seqL, wS_asg, wS_ife, wS_ret, wS_nil, wS_exp, wE_cS, wE_cI, wE_cN, wE_cB, wE_call, wE_var, wE_glb, wE_bop, wE_idx, wE_lst, wE_tup, wE_blt, wE_met, wT_cmp, wT_and, wT_or, wT_nt, wT_one, wT_tru, wE_ite, wE_and, wE_or, wE_one, wE_nt, wE_cmp, wE_lc, wI_itr, wI_rng, wA_cons, wA_nil, wpO, wpF, List.set, List.getElem?_cons_zero, List.getElem?_cons_succ, Option.join_some, Bool.false_eq_true, if_false, if_true, wE_neg, wE_chn, wE_lset, wE_inW, wE_ixW, wS_fr, wS_rais, wT_chn, t_bl, later_nil, ofS_inj, decide_false, decide_true, Bool.or_false, Bool.false_or, Bool.or_true, Bool.true_or, Bool.not_false, Bool.not_true, Bool.and_true, Bool.true_and, reduceCtorEq, String.reduceEq, String.reduceNe, c_eq_str, c_ne_str, inT2, inT3, ninT3, ML.ix_tup, at2_0, at2_1, at2_m1, at2_m2, at3_0, at3_1, at3_2, at3_m1, at3_m2, at4_0, at4_1, at4_2, at4_3, at4_m1, at4_m2, Int.reduceNeg, nl0, nl1, nl2, nl3, nl4, true_and, list_tup, b_len_tup, inT4, ninT4, ninT5, t_tup, at0, at1_0, List.isEmpty_nil, List.isEmpty_cons]
    iterate 3 (rw [later]; simp only [wrs_seqL, wS_asg, wS_ife, wS_ret, wS_nil, wS_exp, wE_cS, wE_cI, wE_cN, wE_cB, wE_call, wE_var, wE_glb, wE_bop, wE_idx, wE_lst, wE_tup, wE_blt, wE_met, wT_cmp, wT_and, wT_or, wT_nt, wT_one, wT_tru, wE_ite, wE_and, wE_or, wE_one, wE_nt, wE_cmp, wE_lc, wI_itr, wI_rng, wA_cons, wA_nil, wpO, wpF, List.set, List.getElem?_cons_zero, List.getElem?_cons_succ, Option.join_some, Bool.false_eq_true, if_false, if_true, wE_neg, wE_chn, wE_lset, wE_inW, wE_ixW, wS_fr, wS_rais, wT_chn, t_bl, later_nil, ofS_inj, decide_false, decide_true, Bool.or_false, Bool.false_or, Bool.or_true, Bool.true_or, Bool.not_false, Bool.not_true, Bool.and_true, Bool.true_and, reduceCtorEq, String.reduceEq, String.reduceNe, c_eq_str, c_ne_str, inT2, inT3, ninT3, ML.ix_tup, at2_0, at2_1, at2_m1, at2_m2, at3_0, at3_1, at3_2, at3_m1, at3_m2, at4_0, at4_1, at4_2, at4_3, at4_m1, at4_m2, Int.reduceNeg, nl0, nl1, nl2, nl3, nl4, true_and, list_tup, b_len_tup, inT4, ninT4, ninT5, t_tup, at0, at1_0, List.isEmpty_nil, List.isEmpty_cons])
    exact ⟨by simp only [innerOf, ofS_inj, decide_false, decide_true, Bool.or_false, Bool.false_or, Bool.or_true, Bool.true_or, Bool.not_false, Bool.not_true, Bool.and_true, Bool.true_and, reduceCtorEq, String.reduceEq, String.reduceNe, c_eq_str, c_ne_str, inT2, inT3, ninT3, ML.ix_tup, at2_0, at2_1, at2_m1, at2_m2, at3_0, at3_1, at3_2, at3_m1, at3_m2, at4_0, at4_1, at4_2, at4_3, at4_m1, at4_m2, Int.reduceNeg, nl0, nl1, nl2, nl3, nl4, true_and, list_tup, b_len_tup, inT4, ninT4, ninT5, t_tup, at0, at1_0, List.isEmpty_nil, List.isEmpty_cons, if_true, if_false]; rfl, .refl hS⟩
  | blk _ _ _ _ _ =>
    simp only [f_inner_trees, wrs_seqL, wS_asg, wS_ife, wS_ret, wS_nil, wS_exp, wE_cS, wE_cI, wE_cN, wE_cB, wE_call, wE_var, wE_glb, wE_bop, wE_idx, wE_lst, wE_tup, wE_blt, wE_met, wT_cmp, wT_and, wT_or, wT_nt, wT_one, wT_tru, wE_ite, wE_and, wE_or, wE_one, wE_nt, wE_cmp, wE_lc, wI_itr, wI_rng, wA_cons, wA_nil, wpO, wpF, List.set, List.getElem?_cons_zero, List.getElem?_cons_succ, Option.join_some, Bool.false_eq_true, if_false, if_true, wE_neg, wE_chn, wE_lset, wE_inW, wE_ixW, wS_fr, wS_rais, wT_chn, t_bl, later_nil, ofS_inj, decide_false, decide_true, Bool.or_false, Bool.false_or, Bool.or_true, Bool.true_or, Bool.not_false, Bool.not_true, Bool.and_true, Bool.true_and, reduceCtorEq, String.reduceEq, String.reduceNe, c_eq_str, c_ne_str, inT2, inT3, ninT3, ML.ix_tup, at2_0, at2_1, at2_m1, at2_m2, at3_0, at3_1, at3_2, at3_m1, at3_m2, at4_0, at4_1, at4_2, at4_3, at4_m1, at4_m2, Int.reduceNeg, nl0, nl1, nl2, nl3, nl4, true_and, list_tup, b_len_tup, inT4, ninT4, ninT5, t_tup, at0, at1_0, List.isEmpty_nil, List.isEmpty_cons]
    iterate 4 (rw [later]; simp only [wrs_seqL, wS_asg, wS_ife, wS_ret, wS_nil, wS_exp, wE_cS, wE_cI, wE_cN, wE_cB, wE_call, wE_var, wE_glb, wE_bop, wE_idx, wE_lst, wE_tup, wE_blt, wE_met, wT_cmp, wT_and, wT_or, wT_nt, wT_one, wT_tru, wE_ite, wE_and, wE_or, wE_one, wE_nt, wE_cmp, wE_lc, wI_itr, wI_rng, wA_cons, wA_nil, wpO, wpF, List.set, List.getElem?_cons_zero, List.getElem?_cons_succ, Option.join_some, Bool.false_eq_true, if_false, if_true, wE_neg, wE_chn, wE_lset, wE_inW, wE_ixW, wS_fr, wS_rais, wT_chn, t_bl, later_nil, ofS_inj, decide_false, decide_true, Bool.or_false, Bool.false_or, Bool.or_true, Bool.true_or, Bool.not_false, Bool.not_true, Bool.and_true, Bool.true_and, reduceCtorEq, String.reduceEq, String.reduceNe, c_eq_str, c_ne_str, inT2, inT3, ninT3, ML.ix_tup, at2_0, at2_1, at2_m1, at2_m2, at3_0, at3_1, at3_2, at3_m1, at3_m2, at4_0, at4_1, at4_2, at4_3, at4_m1, at4_m2, Int.reduceNeg, nl0, nl1, nl2, nl3, nl4, true_and, list_tup, b_len_tup, inT4, ninT4, ninT5, t_tup, at0, at1_0, List.isEmpty_nil, List.isEmpty_cons])
    exact ⟨by simp only [innerOf, ofS_inj, decide_false, decide_true, Bool.or_false, Bool.false_or, Bool.or_true, Bool.true_or, Bool.not_false, Bool.not_true, Bool.and_true, Bool.true_and, reduceCtorEq, String.reduceEq, String.reduceNe, c_eq_str, c_ne_str, inT2, inT3, ninT3, ML.ix_tup, at2_0, at2_1, at2_m1, at2_m2, at3_0, at3_1, at3_2, at3_m1, at3_m2, at4_0, at4_1, at4_2, at4_3, at4_m1, at4_m2, Int.reduceNeg, nl0, nl1, nl2, nl3, nl4, true_and, list_tup, b_len_tup, inT4, ninT4, ninT5, t_tup, at0, at1_0, List.isEmpty_nil, List.isEmpty_cons, if_true, if_false]; rfl, .refl hS⟩
def tail_look_tree : ST := .seq (.ife (.cmp .Eq (.var 3) (.cS ("number" : Str))) (.seq (.exp (.call 5 (.cons (.chn .LtE .LtE (.cI 0) (.idx (.var 0) (.cI 1)) (.glb 8)) (.nil)))) (.nil)) (.nil)) (.seq (.ife (.cmp .Eq (.var 3) (.cS ("word" : Str))) (.seq (.exp (.call 5 (.cons (.cmp .IsNot (.call 4 (.cons (.idx (.var 0) (.cI 1)) (.nil))) (.cN)) (.nil)))) (.nil)) (.nil)) (.seq (.ife (.cmp .Eq (.var 3) (.cS ("name" : Str))) (.seq (.exp (.call 5 (.cons (.con .Or (.call 1 (.cons (.idx (.var 0) (.cI 1)) (.nil))) (.con .Or (.call 2 (.cons (.idx (.var 0) (.cI 1)) (.nil))) (.one (.cmp .In (.idx (.var 0) (.cI 1)) (.glb 7))))) (.nil)))) (.nil)) (.nil)) (.seq (.ife (.cmp .Eq (.var 3) (.cS ("set" : Str))) (.seq (.exp (.call 5 (.cons (.call 1 (.cons (.idx (.var 0) (.cI 1)) (.nil))) (.nil)))) (.nil)) (.nil)) (.seq (.ife (.cmp .In (.var 3) (.tup (.cons (.cS ("send" : Str)) (.cons (.cS ("super" : Str)) (.nil))))) (.seq (.exp (.call 5 (.cons (.cmp .Eq (.call 4 (.cons (.idx (.var 0) (.neg (.cI 2))) (.nil))) (.blt false .len (.cons (.idx (.var 0) (.neg (.cI 1))) (.nil)))) (.nil)))) (.nil)) (.nil)) (.seq (.ife (.cmp .Eq (.var 3) (.cS ("block" : Str))) (.seq (.exp (.call 7 (.cons (.bop false .Add (.idx (.var 0) (.cI 1)) (.idx (.var 0) (.cI 2))) (.nil)))) (.seq (.exp (.call 5 (.cons (.cmp .LtE (.blt false .len (.cons (.idx (.var 0) (.cI 1)) (.nil))) (.glb 10)) (.nil)))) (.seq (.exp (.call 8 (.cons (.idx (.var 0) (.cI 3)) (.cons (.bop false .Add (.var 1) (.cI 1)) (.nil))))) (.nil)))) (.seq (.fr 4 (.itr (.call 6 (.cons (.var 0) (.nil)))) (.seq (.exp (.call 9 (.cons (.var 4) (.cons (.bop false .Add (.var 1) (.cI 1)) (.cons (.cB false) (.nil)))))) (.nil))) (.nil))) (.nil))))))
theorem body_look_tree : f_look_tree.body = .seq (.exp (.call 5 (.cons (.con .And (.cmp .LtE (.var 1) (.glb 9)) (.con .And (.cmp .Gt (.blt false .len (.cons (.var 0) (.nil))) (.cI 0)) (.one (.inW ("LENGTHS" : Str) [(("number" : Str), .inl 2), (("word" : Str), .inl 2), (("name" : Str), .inl 2), (("set" : Str), .inl 3), (("send" : Str), .inl 4), (("super" : Str), .inl 3), (("block" : Str), .inl 4), (("back" : Str), .inl 2)] (.idx (.var 0) (.cI 0)))))) (.nil)))) (.seq (.asg 3 (.idx (.var 0) (.cI 0))) (.seq (.exp (.call 5 (.cons (.con .And (.cmp .Eq (.blt false .len (.cons (.var 0) (.nil))) (.ixW ("LENGTHS" : Str) [(("number" : Str), .inl 2), (("word" : Str), .inl 2), (("name" : Str), .inl 2), (("set" : Str), .inl 3), (("send" : Str), .inl 4), (("super" : Str), .inl 3), (("block" : Str), .inl 4), (("back" : Str), .inl 2)] (.var 3))) (.one (.con .Or (.cmp .NotEq (.var 3) (.cS ("back" : Str))) (.one (.var 2))))) (.nil)))) tail_look_tree)) := rfl
theorem g7 : (gvs T)[7]? = some (.cst (plain.map D.str)) := rfl
theorem g8 : (gvs T)[8]? = some (.int 999999) := rfl
theorem g9 : (gvs T)[9]? = some (.int 12) := rfl
theorem g10 : (gvs T)[10]? = some (.int 2) := rfl

theorem headL {L : Nat} {w : Str} {xs : List D} {deep : Nat} {last : Bool} {S : Store} {N : ML.Env → Store → Prop} {R : D → Store → Prop} {E : Str → ML.Env → Store → Prop} (hL : 1 ≤ L) (hS : S.WF)
    {k0 : Int} (hw : List.lookup w ([(("number" : Str), .inl 2), (("word" : Str), .inl 2), (("name" : Str), .inl 2), (("set" : Str), .inl 3), (("send" : Str), .inl 4), (("super" : Str), .inl 3), (("block" : Str), .inl 4), (("back" : Str), .inl 2)] : List (Str × Key)) = some (Sum.inl k0)) (hk0 : ((xs.length + 1 : Nat) : Int) = k0)
    (ke : (decide (deep ≤ 12) && (!decide (w = Str.ofString "back") || last)) = false → ∀ S' env, Gr S S' → E (Str.ofString "BadTree") env S')
    (k : (decide (deep ≤ 12) && (!decide (w = Str.ofString "back") || last)) = true → ∀ S', Gr S S' → wrs (evS (sem T L) (gvs T) tail_look_tree [some (.tup (.str w :: xs)), some (.int deep), some (.bl last), some (.str w), none] S') N R E) :
    wrs (evS (sem T L) (gvs T) f_look_tree.body [some (.tup (.str w :: xs)), some (.int deep), some (.bl last), none, none] S) N R E := by
  subst hk0
  rw [body_look_tree]
  have e0 : ∀ S, ixP S (.tup (.str w :: xs)) (.int 0) = some (.str w) := fun S => atI_zero
  have hd12 : decide ((deep : Int) ≤ 12) = decide (deep ≤ 12) := by congr 1; exact propext (by omega)
  simp only [wrs_seqL, wS_asg, wS_ife, wS_ret, wS_nil, wS_exp, wE_cS, wE_cI, wE_cN, wE_cB, wE_call, wE_var, wE_glb, wE_bop, wE_idx, wE_lst, wE_tup, wE_blt, wE_met, wT_cmp, wT_and, wT_or, wT_nt, wT_one, wT_tru, wE_ite, wE_and, wE_or, wE_one, wE_nt, wE_cmp, wE_lc, wI_itr, wI_rng, wA_cons, wA_nil, wpO, wpF, List.set, List.getElem?_cons_zero, List.getElem?_cons_succ, Option.join_some, Bool.false_eq_true, if_false, if_true, wE_neg, wE_chn, wE_lset, wE_inW, wE_ixW, wS_fr, wS_rais, wT_chn, t_bl, later_nil, g9, c_le, c_gt, b_len_tup, e0, inWP, hw, Option.isSome_some, hd12]
  rw [decide_eq_true (show (0 : Int) < (((D.str w :: xs).length : Nat) : Int) by rw [List.length_cons]; omega)]
  by_cases hd : deep ≤ 12
  · rw [decide_eq_true hd] at ke k ⊢
    simp only [if_true, Bool.true_and] at ke k ⊢
    refine (mustL hL hS).use (fun _ S1 G1 => ?_) (fun e => absurd e (by decide))
    rw [later]
    simp only [wrs_seqL, wS_asg, wS_ife, wS_ret, wS_nil, wS_exp, wE_cS, wE_cI, wE_cN, wE_cB, wE_call, wE_var, wE_glb, wE_bop, wE_idx, wE_lst, wE_tup, wE_blt, wE_met, wT_cmp, wT_and, wT_or, wT_nt, wT_one, wT_tru, wE_ite, wE_and, wE_or, wE_one, wE_nt, wE_cmp, wE_lc, wI_itr, wI_rng, wA_cons, wA_nil, wpO, wpF, List.set, List.getElem?_cons_zero, List.getElem?_cons_succ, Option.join_some, Bool.false_eq_true, if_false, if_true, wE_neg, wE_chn, wE_lset, wE_inW, wE_ixW, wS_fr, wS_rais, wT_chn, t_bl, later_nil, e0]
    rw [later]
    simp only [wrs_seqL, wS_asg, wS_ife, wS_ret, wS_nil, wS_exp, wE_cS, wE_cI, wE_cN, wE_cB, wE_call, wE_var, wE_glb, wE_bop, wE_idx, wE_lst, wE_tup, wE_blt, wE_met, wT_cmp, wT_and, wT_or, wT_nt, wT_one, wT_tru, wE_ite, wE_and, wE_or, wE_one, wE_nt, wE_cmp, wE_lc, wI_itr, wI_rng, wA_cons, wA_nil, wpO, wpF, List.set, List.getElem?_cons_zero, List.getElem?_cons_succ, Option.join_some, Bool.false_eq_true, if_false, if_true, wE_neg, wE_chn, wE_lset, wE_inW, wE_ixW, wS_fr, wS_rais, wT_chn, t_bl, later_nil, b_len_tup, ixWP, hw, Option.map_some, kD, c_eq_int, c_ne_str]
    rw [decide_eq_true (show (((D.str w :: xs).length : Nat) : Int) = ((xs.length + 1 : Nat) : Int) from rfl), if_pos rfl]
    have fin : ∀ c : Bool, c = (!decide (w = Str.ofString "back") || last) → wpr (sem T L 5 [.bl c] S1) (fun x => Later (sem T L) (gvs T) tail_look_tree N R E [some (.tup (.str w :: xs)), some (.int deep), some (.bl last), some (.str w), none]) (fun c S2 => E c [some (.tup (.str w :: xs)), some (.int deep), some (.bl last), some (.str w), none] S2) := fun c hc =>
      (mustL hL G1.wf).use (fun e S2 G2 => k (hc ▸ e) S2 (G1.trans G2)) (fun e S2 G2 => ke (hc ▸ e) S2 _ (G1.trans G2))
    cases hq : decide (w = Str.ofString "back") with
    | true =>
      simp only [Bool.not_true, Bool.false_eq_true, if_false]
      exact fin last (by rw [hq]; rfl)
    | false =>
      simp only [Bool.not_false, if_true]
      exact fin true (by rw [hq]; rfl)
  · rw [decide_eq_false hd] at ke ⊢
    simp only [Bool.false_eq_true, if_false]
    exact (mustL hL hS).use (fun e => absurd e (by decide)) (fun _ S1 G1 => ke rfl S1 _ G1)
end K10

namespace K10
open PySem L2 ML

def close_look : ST := .seq (.ife (.cmp .Eq (.var 3) (.cS ("block" : Str))) (.seq (.exp (.call 7 (.cons (.bop false .Add (.idx (.var 0) (.cI 1)) (.idx (.var 0) (.cI 2))) (.nil)))) (.seq (.exp (.call 5 (.cons (.cmp .LtE (.blt false .len (.cons (.idx (.var 0) (.cI 1)) (.nil))) (.glb 10)) (.nil)))) (.seq (.exp (.call 8 (.cons (.idx (.var 0) (.cI 3)) (.cons (.bop false .Add (.var 1) (.cI 1)) (.nil))))) (.nil)))) (.seq (.fr 4 (.itr (.call 6 (.cons (.var 0) (.nil)))) (.seq (.exp (.call 9 (.cons (.var 4) (.cons (.bop false .Add (.var 1) (.cI 1)) (.cons (.cB false) (.nil)))))) (.nil))) (.nil))) (.nil)
theorem tail_is : tail_look_tree = .seq (.ife (.cmp .Eq (.var 3) (.cS ("number" : Str))) (.seq (.exp (.call 5 (.cons (.chn .LtE .LtE (.cI 0) (.idx (.var 0) (.cI 1)) (.glb 8)) (.nil)))) (.nil)) (.nil)) (.seq (.ife (.cmp .Eq (.var 3) (.cS ("word" : Str))) (.seq (.exp (.call 5 (.cons (.cmp .IsNot (.call 4 (.cons (.idx (.var 0) (.cI 1)) (.nil))) (.cN)) (.nil)))) (.nil)) (.nil)) (.seq (.ife (.cmp .Eq (.var 3) (.cS ("name" : Str))) (.seq (.exp (.call 5 (.cons (.con .Or (.call 1 (.cons (.idx (.var 0) (.cI 1)) (.nil))) (.con .Or (.call 2 (.cons (.idx (.var 0) (.cI 1)) (.nil))) (.one (.cmp .In (.idx (.var 0) (.cI 1)) (.glb 7))))) (.nil)))) (.nil)) (.nil)) (.seq (.ife (.cmp .Eq (.var 3) (.cS ("set" : Str))) (.seq (.exp (.call 5 (.cons (.call 1 (.cons (.idx (.var 0) (.cI 1)) (.nil))) (.nil)))) (.nil)) (.nil)) (.seq (.ife (.cmp .In (.var 3) (.tup (.cons (.cS ("send" : Str)) (.cons (.cS ("super" : Str)) (.nil))))) (.seq (.exp (.call 5 (.cons (.cmp .Eq (.call 4 (.cons (.idx (.var 0) (.neg (.cI 2))) (.nil))) (.blt false .len (.cons (.idx (.var 0) (.neg (.cI 1))) (.nil)))) (.nil)))) (.nil)) (.nil)) close_look)))) := rfl


def PLook (n : Nat) : Prop := ∀ (L deep : Nat) (b : Bool) (d : D) (v : V3) (S : Store), 2 * n + 5 ≤ L → S.WF → XV n d v → Lk (vv v deep b) (sem T L 9 [d, .int deep, .bl b] S) S
theorem body_false {f : D → V3} {bs : List D} {deep k : Nat} (hk : k < bs.length) (h : vv (f bs[k]) deep (decide (k + 1 = bs.length)) = false) : bodyV f bs deep = false := by
  refine Bool.eq_false_iff.mpr fun z => ?_
  have := List.all_eq_true.mp z k (List.mem_range.mpr hk)
  rw [List.getD_eq_getElem?_getD, List.getElem?_eq_getElem hk, Option.getD_some, h] at this
  cases this
theorem body_true {f : D → V3} {bs : List D} {deep : Nat} (h : ∀ (k : Nat) (hk : k < bs.length), vv (f bs[k]) deep (decide (k + 1 = bs.length)) = true) : bodyV f bs deep = true :=
  List.all_eq_true.mpr fun k hk => by
    have hk := List.mem_range.mp hk
    rw [List.getD_eq_getElem?_getD, List.getElem?_eq_getElem hk, Option.getD_some]
    exact h k hk
theorem lookBodyL {n : Nat} (ih : PLook n) {L deep : Nat} {bs : List D} {f : D → V3} {S : Store} (hL : 2 * n + 6 ≤ L) (hS : S.WF) (hl : bs.length ≤ 10) (hw : ∀ x ∈ bs, XV n x (f x)) :
    Lk (bodyV f bs deep) (sem T L 8 [.tup bs, .int deep] S) S := by
  obtain ⟨l, rfl⟩ : ∃ l, L = l + 1 := ⟨L - 1, by omega⟩
  show wpr (endF (evS (sem T l) (gvs T) f_look_body.body [some (.tup bs), some (.int deep), none] S)) _ _
  rw [wrs_end]
  simp only [f_look_body, wrs_seqL, wS_asg, wS_ife, wS_ret, wS_nil, wS_exp, wE_cS, wE_cI, wE_cN, wE_cB, wE_call, wE_var, wE_glb, wE_bop, wE_idx, wE_lst, wE_tup, wE_blt, wE_met, wT_cmp, wT_and, wT_or, wT_nt, wT_one, wT_tru, wE_ite, wE_and, wE_or, wE_one, wE_nt, wE_cmp, wE_lc, wI_itr, wI_rng, wA_cons, wA_nil, wpO, wpF, List.set, List.getElem?_cons_zero, List.getElem?_cons_succ, Option.join_some, Bool.false_eq_true, if_false, if_true, wE_neg, wE_chn, wE_lset, wE_inW, wE_ixW, wS_fr, wS_rais, wT_chn, t_bl, later_nil, b_len_tup]
  refine ⟨⟨Int.le_trans (by omega : (bs.length : Int) ≤ 10) (by decide), Int.le_trans (by decide) (by omega : (0 : Int) ≤ bs.length)⟩, ?_⟩
  refine wrs_for (fun j env S' => (∃ v, env = [some (.tup bs), some (.int deep), v]) ∧ Gr S S' ∧ ∀ (k : Nat) (hk : k < bs.length), k < j → vv (f bs[k]) deep (decide (k + 1 = bs.length)) = true) ⟨⟨_, rfl⟩, .refl hS, fun k _ h => absurd h (Nat.not_lt_zero _)⟩ ?_ ?_
  · rintro j x env S' hj ⟨⟨v, rfl⟩, G, ha⟩
    have hj' : j < bs.length := by
      have := (List.getElem?_eq_some_iff.mp hj).1
      rw [intL_len] at this
      omega
    have hx : x = .int (j : Int) := by
      unfold intL at hj
      rw [List.getElem?_map, List.getElem?_range (by omega)] at hj
      have := Option.some.inj hj
      rw [← this]
      simp
    subst hx
    have e1 : ∀ S, ixP S (.tup bs) (.int (j : Int)) = some bs[j] := fun S => atI_nat' (List.getElem?_eq_getElem hj')
    simp only [wrs_seqL, wS_asg, wS_ife, wS_ret, wS_nil, wS_exp, wE_cS, wE_cI, wE_cN, wE_cB, wE_call, wE_var, wE_glb, wE_bop, wE_idx, wE_lst, wE_tup, wE_blt, wE_met, wT_cmp, wT_and, wT_or, wT_nt, wT_one, wT_tru, wE_ite, wE_and, wE_or, wE_one, wE_nt, wE_cmp, wE_lc, wI_itr, wI_rng, wA_cons, wA_nil, wpO, wpF, List.set, List.getElem?_cons_zero, List.getElem?_cons_succ, Option.join_some, Bool.false_eq_true, if_false, if_true, wE_neg, wE_chn, wE_lset, wE_inW, wE_ixW, wS_fr, wS_rais, wT_chn, t_bl, later_nil, e1, b_len_tup, sub_int, c_eq_int]
    have eb : decide ((j : Int) = (bs.length : Int) - 1) = decide (j + 1 = bs.length) := by congr 1; exact propext (by omega)
    rw [eb]
    refine (ih l deep _ _ _ S' (by omega) G.wf (hw _ (List.getElem_mem hj'))).use (fun e S1 G1 => ?_) (fun e S1 G1 => ⟨body_false hj' e, rfl, G.trans G1⟩)
    try rw [later_nil]
    refine ⟨⟨_, rfl⟩, G.trans G1, fun k hk hkj => ?_⟩
    by_cases q : k = j
    · subst q; exact e
    · exact ha k hk (by omega)
  · rintro env S' ⟨⟨v, rfl⟩, G, ha⟩
    try rw [later_nil]
    refine ⟨body_true fun k hk => ha k hk ?_, rfl, G⟩
    rw [intL_len]
    omega
theorem closeL {n : Nat} (ih : PLook n) {L deep : Nat} {b : Bool} {w : Str} {d : D} {v : V3} {xs : List D} {f : D → V3} {vb : Bool} {S0 S : Store} (hL : 2 * n + 6 ≤ L) (G0 : Gr S0 S) (h : XV (n + 1) d v) (hne : d ≠ .tup []) (hb : w ≠ Str.ofString "block") (hin : innerOf d = xs) (hw : ∀ x ∈ xs, XV n x (f x)) (hv : vb = inV f xs (deep + 1)) :
    wrs (evS (sem T L) (gvs T) close_look [some d, some (.int deep), some (.bl b), some (.str w), none] S) (fun _ => LN vb S0 .non) (LN vb S0) (fun c _ => LE vb S0 c) := by
  simp only [close_look, wrs_seqL, wS_asg, wS_ife, wS_ret, wS_nil, wS_exp, wE_cS, wE_cI, wE_cN, wE_cB, wE_call, wE_var, wE_glb, wE_bop, wE_idx, wE_lst, wE_tup, wE_blt, wE_met, wT_cmp, wT_and, wT_or, wT_nt, wT_one, wT_tru, wE_ite, wE_and, wE_or, wE_one, wE_nt, wE_cmp, wE_lc, wI_itr, wI_rng, wA_cons, wA_nil, wpO, wpF, List.set, List.getElem?_cons_zero, List.getElem?_cons_succ, Option.join_some, Bool.false_eq_true, if_false, if_true, wE_neg, wE_chn, wE_lset, wE_inW, wE_ixW, wS_fr, wS_rais, wT_chn, t_bl, later_nil, c_eq_str]
  rw [decide_eq_false hb, if_neg Bool.false_ne_true]
  refine (innerU (by omega) G0.wf h hne).wpr fun S1 G1 => ?_
  rw [hin]
  simp only [src_lst]
  refine wrs_for (fun j env S' => (∃ v, env = [some d, some (.int deep), some (.bl b), some (.str w), v]) ∧ Gr S0 S' ∧ ∀ (k : Nat) (hk : k < xs.length), k < j → vv (f xs[k]) (deep + 1) false = true) ⟨⟨_, rfl⟩, G0.trans G1, fun k _ h => absurd h (Nat.not_lt_zero _)⟩ ?_ ?_
  · rintro j x env S' hj ⟨⟨v, rfl⟩, G, ha⟩
    obtain ⟨hj', rfl⟩ := List.getElem?_eq_some_iff.mp hj
    simp only [wrs_seqL, wS_asg, wS_ife, wS_ret, wS_nil, wS_exp, wE_cS, wE_cI, wE_cN, wE_cB, wE_call, wE_var, wE_glb, wE_bop, wE_idx, wE_lst, wE_tup, wE_blt, wE_met, wT_cmp, wT_and, wT_or, wT_nt, wT_one, wT_tru, wE_ite, wE_and, wE_or, wE_one, wE_nt, wE_cmp, wE_lc, wI_itr, wI_rng, wA_cons, wA_nil, wpO, wpF, List.set, List.getElem?_cons_zero, List.getElem?_cons_succ, Option.join_some, Bool.false_eq_true, if_false, if_true, wE_neg, wE_chn, wE_lset, wE_inW, wE_ixW, wS_fr, wS_rais, wT_chn, t_bl, later_nil, add_int]
    rw [show (deep : Int) + 1 = ((deep + 1 : Nat) : Int) by omega]
    refine (ih L (deep + 1) false xs[j] _ S' (by omega) G.wf (hw _ (List.getElem_mem hj'))).use (fun e S2 G2 => ?_) (fun e S2 G2 => ⟨?_, rfl, G.trans G2⟩)
    · try rw [later_nil]
      refine ⟨⟨_, rfl⟩, G.trans G2, fun k hk hkj => ?_⟩
      by_cases q : k = j
      · subst q; exact e
      · exact ha k hk (by omega)
    · rw [hv]
      refine Bool.eq_false_iff.mpr fun z => ?_
      have := List.all_eq_true.mp z _ (List.getElem_mem hj')
      rw [e] at this
      cases this
  · rintro env S' ⟨⟨v, rfl⟩, G, ha⟩
    try rw [later_nil]
    try rw [later_nil]
    refine ⟨?_, rfl, G⟩
    rw [hv]
    refine List.all_eq_true.mpr fun x hx => ?_
    obtain ⟨k, hk, rfl⟩ := List.mem_iff_getElem.mp hx
    exact ha k hk hk
theorem vv_no {v : V3} {deep : Nat} {b : Bool} (h : (decide (deep ≤ 12) && (!v.2.1 || b)) = false) : vv v deep b = false := by
  unfold vv
  revert h
  generalize decide (deep ≤ 12) = a, v.2.1 = c, v.1 = e, v.2.2 (deep + 1) = g
  cases a <;> cases c <;> cases b <;> cases e <;> cases g <;> decide
theorem vv_yes {v : V3} {deep : Nat} {b : Bool} (h : (decide (deep ≤ 12) && (!v.2.1 || b)) = true) : vv v deep b = (v.1 && v.2.2 (deep + 1)) := by
  unfold vv
  rw [Bool.and_eq_true] at h
  rw [h.1, h.2, Bool.true_and, Bool.and_true]
theorem vv_bad {v : V3} {deep : Nat} {b : Bool} (h : v.1 = false) : vv v deep b = false := by
  unfold vv
  rw [h]
  simp
theorem nb {w : Str} {last : Bool} {deep : Nat} {c : Bool} (h : w ≠ Str.ofString "back") (e : (decide (deep ≤ 12) && (!decide (w = Str.ofString "back") || last)) = c) : (decide (deep ≤ 12) && (!false || last)) = c := by
  rw [decide_eq_false h] at e
  exact e
end K10

namespace K10
open PySem L2 ML

theorem fle {i : Int} : decide (i ≤ 999999) = decide (i < 1000000) := by congr 1; exact propext (by omega)
theorem andP {a c : Bool} {P : Bool → Prop} (h : P (a && c)) : if a = true then P c else P false := by
  cases a with
  | true => exact h
  | false => exact h
theorem lookT : ∀ n, PLook n := by
  intro n
  induction n with
  | zero => intro L deep b d v S _ _ h; cases h
  | succ n ih =>
    intro L deep b d v S hL hS h
    obtain ⟨l, rfl⟩ : ∃ l, L = l + 1 := ⟨L - 1, by omega⟩
    show wpr (endF (evS (sem T l) (gvs T) f_look_tree.body [some d, some (.int deep), some (.bl b), none, none] S)) _ _
    rw [wrs_end]
    have h0 := h
    have hd12 : decide ((deep : Int) ≤ 12) = decide (deep ≤ 12) := by congr 1; exact propext (by omega)
    cases h with
    | emp =>
      have hv : vv (false, false, fun _ => true) deep b = false := vv_bad rfl
      rw [body_look_tree]
      simp only [wrs_seqL, wS_asg, wS_ife, wS_ret, wS_nil, wS_exp, wE_cS, wE_cI, wE_cN, wE_cB, wE_call, wE_var, wE_glb, wE_bop, wE_idx, wE_lst, wE_tup, wE_blt, wE_met, wT_cmp, wT_and, wT_or, wT_nt, wT_one, wT_tru, wE_ite, wE_and, wE_or, wE_one, wE_nt, wE_cmp, wE_lc, wI_itr, wI_rng, wA_cons, wA_nil, wpO, wpF, List.set, List.getElem?_cons_zero, List.getElem?_cons_succ, Option.join_some, Bool.false_eq_true, if_false, if_true, wE_neg, wE_chn, wE_lset, wE_inW, wE_ixW, wS_fr, wS_rais, wT_chn, t_bl, later_nil, g9, c_le, c_gt, b_len_tup, hd12, List.length_nil]
      have fin : ∀ S1, Gr S S1 → LE (vv (false, false, fun _ => true) deep b) S (Str.ofString "BadTree") S1 := fun S1 G1 => ⟨hv, rfl, G1⟩
      cases decide (deep ≤ 12) with
      | false =>
        simp only [Bool.false_eq_true, if_false]
        exact (mustL (by omega) hS).use (fun e => absurd e (by decide)) (fun _ S1 G1 => fin S1 G1)
      | true =>
        simp only [if_true]
        rw [decide_eq_false (show ¬ ((0 : Int) < ((0 : Nat) : Int)) by omega)]
        simp only [Bool.false_eq_true, if_false]
        exact (mustL (by omega) hS).use (fun e => absurd e (by decide)) (fun _ S1 G1 => fin S1 G1)
    | thing =>
      have hv : vv (false, false, fun _ => true) deep b = false := vv_bad rfl
      rw [body_look_tree]
      have fin : ∀ S1, Gr S S1 → LE (vv (false, false, fun _ => true) deep b) S (Str.ofString "BadTree") S1 := fun S1 G1 => ⟨hv, rfl, G1⟩
      have hw : List.lookup (Str.ofString "thing") ([(("number" : Str), .inl 2), (("word" : Str), .inl 2), (("name" : Str), .inl 2), (("set" : Str), .inl 3), (("send" : Str), .inl 4), (("super" : Str), .inl 3), (("block" : Str), .inl 4), (("back" : Str), .inl 2)] : List (Str × Key)) = none := by decide +kernel
      simp only [wrs_seqL, wS_asg, wS_ife, wS_ret, wS_nil, wS_exp, wE_cS, wE_cI, wE_cN, wE_cB, wE_call, wE_var, wE_glb, wE_bop, wE_idx, wE_lst, wE_tup, wE_blt, wE_met, wT_cmp, wT_and, wT_or, wT_nt, wT_one, wT_tru, wE_ite, wE_and, wE_or, wE_one, wE_nt, wE_cmp, wE_lc, wI_itr, wI_rng, wA_cons, wA_nil, wpO, wpF, List.set, List.getElem?_cons_zero, List.getElem?_cons_succ, Option.join_some, Bool.false_eq_true, if_false, if_true, wE_neg, wE_chn, wE_lset, wE_inW, wE_ixW, wS_fr, wS_rais, wT_chn, t_bl, later_nil, g9, c_le, c_gt, b_len_tup, hd12, ML.ix_tup, at2_0, inWP, hw, Option.isSome_none]
      rw [decide_eq_true (show (0 : Int) < (([D.str (Str.ofString "thing"), D.int 1].length : Nat) : Int) by decide)]
      simp only [if_true]
      cases decide (deep ≤ 12) with
      | false =>
        simp only [Bool.false_eq_true, if_false]
        exact (mustL (by omega) hS).use (fun e => absurd e (by decide)) (fun _ S1 G1 => fin S1 G1)
      | true =>
        simp only [if_true]
        exact (mustL (by omega) hS).use (fun e => absurd e (by decide)) (fun _ S1 G1 => fin S1 G1)
    | num2 =>
      have hv : vv (false, false, fun _ => true) deep b = false := vv_bad rfl
      rw [body_look_tree]
      have fin : ∀ S1, Gr S S1 → LE (vv (false, false, fun _ => true) deep b) S (Str.ofString "BadTree") S1 := fun S1 G1 => ⟨hv, rfl, G1⟩
      have hw : List.lookup (Str.ofString "number") ([(("number" : Str), .inl 2), (("word" : Str), .inl 2), (("name" : Str), .inl 2), (("set" : Str), .inl 3), (("send" : Str), .inl 4), (("super" : Str), .inl 3), (("block" : Str), .inl 4), (("back" : Str), .inl 2)] : List (Str × Key)) = some (.inl 2) := by decide +kernel
      simp only [wrs_seqL, wS_asg, wS_ife, wS_ret, wS_nil, wS_exp, wE_cS, wE_cI, wE_cN, wE_cB, wE_call, wE_var, wE_glb, wE_bop, wE_idx, wE_lst, wE_tup, wE_blt, wE_met, wT_cmp, wT_and, wT_or, wT_nt, wT_one, wT_tru, wE_ite, wE_and, wE_or, wE_one, wE_nt, wE_cmp, wE_lc, wI_itr, wI_rng, wA_cons, wA_nil, wpO, wpF, List.set, List.getElem?_cons_zero, List.getElem?_cons_succ, Option.join_some, Bool.false_eq_true, if_false, if_true, wE_neg, wE_chn, wE_lset, wE_inW, wE_ixW, wS_fr, wS_rais, wT_chn, t_bl, later_nil, g9, c_le, c_gt, b_len_tup, hd12, ML.ix_tup, at3_0, inWP, hw, Option.isSome_some]
      rw [decide_eq_true (show (0 : Int) < (([D.str (Str.ofString "number"), D.int 1, D.int 2].length : Nat) : Int) by decide)]
      simp only [if_true]
      cases decide (deep ≤ 12) with
      | false =>
        simp only [Bool.false_eq_true, if_false]
        exact (mustL (by omega) hS).use (fun e => absurd e (by decide)) (fun _ S1 G1 => fin S1 G1)
      | true =>
        simp only [if_true]
        refine (mustL (by omega) hS).use (fun _ S1 G1 => ?_) (fun e => absurd e (by decide))
        rw [later]
        simp only [wrs_seqL, wS_asg, wS_ife, wS_ret, wS_nil, wS_exp, wE_cS, wE_cI, wE_cN, wE_cB, wE_call, wE_var, wE_glb, wE_bop, wE_idx, wE_lst, wE_tup, wE_blt, wE_met, wT_cmp, wT_and, wT_or, wT_nt, wT_one, wT_tru, wE_ite, wE_and, wE_or, wE_one, wE_nt, wE_cmp, wE_lc, wI_itr, wI_rng, wA_cons, wA_nil, wpO, wpF, List.set, List.getElem?_cons_zero, List.getElem?_cons_succ, Option.join_some, Bool.false_eq_true, if_false, if_true, wE_neg, wE_chn, wE_lset, wE_inW, wE_ixW, wS_fr, wS_rais, wT_chn, t_bl, later_nil, ML.ix_tup, at3_0]
        rw [later]
        simp only [wrs_seqL, wS_asg, wS_ife, wS_ret, wS_nil, wS_exp, wE_cS, wE_cI, wE_cN, wE_cB, wE_call, wE_var, wE_glb, wE_bop, wE_idx, wE_lst, wE_tup, wE_blt, wE_met, wT_cmp, wT_and, wT_or, wT_nt, wT_one, wT_tru, wE_ite, wE_and, wE_or, wE_one, wE_nt, wE_cmp, wE_lc, wI_itr, wI_rng, wA_cons, wA_nil, wpO, wpF, List.set, List.getElem?_cons_zero, List.getElem?_cons_succ, Option.join_some, Bool.false_eq_true, if_false, if_true, wE_neg, wE_chn, wE_lset, wE_inW, wE_ixW, wS_fr, wS_rais, wT_chn, t_bl, later_nil, b_len_tup, ixWP, hw, Option.map_some, kD, c_eq_int]
        rw [decide_eq_false (show ¬ ((([D.str (Str.ofString "number"), D.int 1, D.int 2].length : Nat) : Int) = 2) by decide)]
        simp only [Bool.false_eq_true, if_false]
        exact (mustL (by omega) G1.wf).use (fun e => absurd e (by decide)) (fun _ S2 G2 => fin S2 (G1.trans G2))
    | @num n i =>
      refine headL (by omega) hS (k0 := 2) (by decide +kernel) rfl (fun e S1 _ G1 => ⟨vv_no (nb (by rw [Ne, ofS_inj]; decide) e), rfl, G1⟩) fun e S1 G1 => ?_
      have hv := vv_yes (v := (decide (0 ≤ i) && decide (i ≤ 999999), false, fun _ => true)) (nb (by rw [Ne, ofS_inj]; decide) e)
      rw [tail_is]
      simp only [wrs_seqL, wS_asg, wS_ife, wS_ret, wS_nil, wS_exp, wE_cS, wE_cI, wE_cN, wE_cB, wE_call, wE_var, wE_glb, wE_bop, wE_idx, wE_lst, wE_tup, wE_blt, wE_met, wT_cmp, wT_and, wT_or, wT_nt, wT_one, wT_tru, wE_ite, wE_and, wE_or, wE_one, wE_nt, wE_cmp, wE_lc, wI_itr, wI_rng, wA_cons, wA_nil, wpO, wpF, List.set, List.getElem?_cons_zero, List.getElem?_cons_succ, Option.join_some, Bool.false_eq_true, if_false, if_true, wE_neg, wE_chn, wE_lset, wE_inW, wE_ixW, wS_fr, wS_rais, wT_chn, t_bl, later_nil, ofS_inj, decide_false, decide_true, Bool.or_false, Bool.false_or, Bool.or_true, Bool.true_or, Bool.not_false, Bool.not_true, Bool.and_true, Bool.true_and, reduceCtorEq, String.reduceEq, String.reduceNe, c_eq_str, c_ne_str, inT2, inT3, ninT3, ML.ix_tup, at2_0, at2_1, at2_m1, at2_m2, at3_0, at3_1, at3_2, at3_m1, at3_m2, at4_0, at4_1, at4_2, at4_3, at4_m1, at4_m2, Int.reduceNeg, nl0, nl1, nl2, nl3, nl4, true_and, list_tup, b_len_tup, inT4, ninT4, ninT5, t_tup, at0, at1_0, List.isEmpty_nil, List.isEmpty_cons, c_le, g8]
      refine andP (P := fun c => wpr (sem T l 5 [.bl c] S1) _ _) ?_
      refine (mustL (by omega) G1.wf).use (fun e S2 G2 => ?_) (fun e S2 G2 => ⟨by rw [hv, e]; rfl, rfl, G1.trans G2⟩)
      iterate 4 (rw [later]; simp only [wrs_seqL, wS_asg, wS_ife, wS_ret, wS_nil, wS_exp, wE_cS, wE_cI, wE_cN, wE_cB, wE_call, wE_var, wE_glb, wE_bop, wE_idx, wE_lst, wE_tup, wE_blt, wE_met, wT_cmp, wT_and, wT_or, wT_nt, wT_one, wT_tru, wE_ite, wE_and, wE_or, wE_one, wE_nt, wE_cmp, wE_lc, wI_itr, wI_rng, wA_cons, wA_nil, wpO, wpF, List.set, List.getElem?_cons_zero, List.getElem?_cons_succ, Option.join_some, Bool.false_eq_true, if_false, if_true, wE_neg, wE_chn, wE_lset, wE_inW, wE_ixW, wS_fr, wS_rais, wT_chn, t_bl, later_nil, ofS_inj, decide_false, decide_true, Bool.or_false, Bool.false_or, Bool.or_true, Bool.true_or, Bool.not_false, Bool.not_true, Bool.and_true, Bool.true_and, reduceCtorEq, String.reduceEq, String.reduceNe, c_eq_str, c_ne_str, inT2, inT3, ninT3, ML.ix_tup, at2_0, at2_1, at2_m1, at2_m2, at3_0, at3_1, at3_2, at3_m1, at3_m2, at4_0, at4_1, at4_2, at4_3, at4_m1, at4_m2, Int.reduceNeg, nl0, nl1, nl2, nl3, nl4, true_and, list_tup, b_len_tup, inT4, ninT4, ninT5, t_tup, at0, at1_0, List.isEmpty_nil, List.isEmpty_cons])
      rw [later]
      exact closeL ih (by omega) (G1.trans G2) h0 (fun e => by cases e) (by rw [Ne, ofS_inj]; decide) rfl (by simp only [innerOf, ofS_inj, decide_false, decide_true, Bool.or_false, Bool.false_or, Bool.or_true, Bool.true_or, Bool.not_false, Bool.not_true, Bool.and_true, Bool.true_and, reduceCtorEq, String.reduceEq, String.reduceNe, c_eq_str, c_ne_str, inT2, inT3, ninT3, ML.ix_tup, at2_0, at2_1, at2_m1, at2_m2, at3_0, at3_1, at3_2, at3_m1, at3_m2, at4_0, at4_1, at4_2, at4_3, at4_m1, at4_m2, Int.reduceNeg, nl0, nl1, nl2, nl3, nl4, true_and, list_tup, b_len_tup, inT4, ninT4, ninT5, t_tup, at0, at1_0, List.isEmpty_nil, List.isEmpty_cons, if_false]; intro x hx; cases hx) (f := fun _ => (false, false, fun _ => true)) (by simp only [innerOf, ofS_inj, decide_false, decide_true, Bool.or_false, Bool.false_or, Bool.or_true, Bool.true_or, Bool.not_false, Bool.not_true, Bool.and_true, Bool.true_and, reduceCtorEq, String.reduceEq, String.reduceNe, c_eq_str, c_ne_str, inT2, inT3, ninT3, ML.ix_tup, at2_0, at2_1, at2_m1, at2_m2, at3_0, at3_1, at3_2, at3_m1, at3_m2, at4_0, at4_1, at4_2, at4_3, at4_m1, at4_m2, Int.reduceNeg, nl0, nl1, nl2, nl3, nl4, true_and, list_tup, b_len_tup, inT4, ninT4, ninT5, t_tup, at0, at1_0, List.isEmpty_nil, List.isEmpty_cons, if_false]; rw [hv, e]; rfl)
    | @word n s o h1 h2 =>
      refine headL (by omega) hS (k0 := 2) (by decide +kernel) rfl (fun e S1 _ G1 => ⟨vv_no (nb (by rw [Ne, ofS_inj]; decide) e), rfl, G1⟩) fun e S1 G1 => ?_
      have hv := vv_yes (v := (o.isSome, false, fun _ => true)) (nb (by rw [Ne, ofS_inj]; decide) e)
      rw [tail_is]
      simp only [wrs_seqL, wS_asg, wS_ife, wS_ret, wS_nil, wS_exp, wE_cS, wE_cI, wE_cN, wE_cB, wE_call, wE_var, wE_glb, wE_bop, wE_idx, wE_lst, wE_tup, wE_blt, wE_met, wT_cmp, wT_and, wT_or, wT_nt, wT_one, wT_tru, wE_ite, wE_and, wE_or, wE_one, wE_nt, wE_cmp, wE_lc, wI_itr, wI_rng, wA_cons, wA_nil, wpO, wpF, List.set, List.getElem?_cons_zero, List.getElem?_cons_succ, Option.join_some, Bool.false_eq_true, if_false, if_true, wE_neg, wE_chn, wE_lset, wE_inW, wE_ixW, wS_fr, wS_rais, wT_chn, t_bl, later_nil, ofS_inj, decide_false, decide_true, Bool.or_false, Bool.false_or, Bool.or_true, Bool.true_or, Bool.not_false, Bool.not_true, Bool.and_true, Bool.true_and, reduceCtorEq, String.reduceEq, String.reduceNe, c_eq_str, c_ne_str, inT2, inT3, ninT3, ML.ix_tup, at2_0, at2_1, at2_m1, at2_m2, at3_0, at3_1, at3_2, at3_m1, at3_m2, at4_0, at4_1, at4_2, at4_3, at4_m1, at4_m2, Int.reduceNeg, nl0, nl1, nl2, nl3, nl4, true_and, list_tup, b_len_tup, inT4, ninT4, ninT5, t_tup, at0, at1_0, List.isEmpty_nil, List.isEmpty_cons]
      rw [later]
      simp only [wrs_seqL, wS_asg, wS_ife, wS_ret, wS_nil, wS_exp, wE_cS, wE_cI, wE_cN, wE_cB, wE_call, wE_var, wE_glb, wE_bop, wE_idx, wE_lst, wE_tup, wE_blt, wE_met, wT_cmp, wT_and, wT_or, wT_nt, wT_one, wT_tru, wE_ite, wE_and, wE_or, wE_one, wE_nt, wE_cmp, wE_lc, wI_itr, wI_rng, wA_cons, wA_nil, wpO, wpF, List.set, List.getElem?_cons_zero, List.getElem?_cons_succ, Option.join_some, Bool.false_eq_true, if_false, if_true, wE_neg, wE_chn, wE_lset, wE_inW, wE_ixW, wS_fr, wS_rais, wT_chn, t_bl, later_nil, ofS_inj, decide_false, decide_true, Bool.or_false, Bool.false_or, Bool.or_true, Bool.true_or, Bool.not_false, Bool.not_true, Bool.and_true, Bool.true_and, reduceCtorEq, String.reduceEq, String.reduceNe, c_eq_str, c_ne_str, inT2, inT3, ninT3, ML.ix_tup, at2_0, at2_1, at2_m1, at2_m2, at3_0, at3_1, at3_2, at3_m1, at3_m2, at4_0, at4_1, at4_2, at4_3, at4_m1, at4_m2, Int.reduceNeg, nl0, nl1, nl2, nl3, nl4, true_and, list_tup, b_len_tup, inT4, ninT4, ninT5, t_tup, at0, at1_0, List.isEmpty_nil, List.isEmpty_cons]
      refine (h2.own _ _ (by omega) G1.wf).wpr fun S2 G2 => ?_
      simp only [o_isnot, wpO]
      refine (mustL (by omega) G2.wf).use (fun e S3 G3 => ?_) (fun e S3 G3 => ⟨by rw [hv, e]; rfl, rfl, (G1.trans G2).trans G3⟩)
      iterate 3 (rw [later]; simp only [wrs_seqL, wS_asg, wS_ife, wS_ret, wS_nil, wS_exp, wE_cS, wE_cI, wE_cN, wE_cB, wE_call, wE_var, wE_glb, wE_bop, wE_idx, wE_lst, wE_tup, wE_blt, wE_met, wT_cmp, wT_and, wT_or, wT_nt, wT_one, wT_tru, wE_ite, wE_and, wE_or, wE_one, wE_nt, wE_cmp, wE_lc, wI_itr, wI_rng, wA_cons, wA_nil, wpO, wpF, List.set, List.getElem?_cons_zero, List.getElem?_cons_succ, Option.join_some, Bool.false_eq_true, if_false, if_true, wE_neg, wE_chn, wE_lset, wE_inW, wE_ixW, wS_fr, wS_rais, wT_chn, t_bl, later_nil, ofS_inj, decide_false, decide_true, Bool.or_false, Bool.false_or, Bool.or_true, Bool.true_or, Bool.not_false, Bool.not_true, Bool.and_true, Bool.true_and, reduceCtorEq, String.reduceEq, String.reduceNe, c_eq_str, c_ne_str, inT2, inT3, ninT3, ML.ix_tup, at2_0, at2_1, at2_m1, at2_m2, at3_0, at3_1, at3_2, at3_m1, at3_m2, at4_0, at4_1, at4_2, at4_3, at4_m1, at4_m2, Int.reduceNeg, nl0, nl1, nl2, nl3, nl4, true_and, list_tup, b_len_tup, inT4, ninT4, ninT5, t_tup, at0, at1_0, List.isEmpty_nil, List.isEmpty_cons])
      rw [later]
      exact closeL ih (by omega) ((G1.trans G2).trans G3) h0 (fun e => by cases e) (by rw [Ne, ofS_inj]; decide) rfl (by simp only [innerOf, ofS_inj, decide_false, decide_true, Bool.or_false, Bool.false_or, Bool.or_true, Bool.true_or, Bool.not_false, Bool.not_true, Bool.and_true, Bool.true_and, reduceCtorEq, String.reduceEq, String.reduceNe, c_eq_str, c_ne_str, inT2, inT3, ninT3, ML.ix_tup, at2_0, at2_1, at2_m1, at2_m2, at3_0, at3_1, at3_2, at3_m1, at3_m2, at4_0, at4_1, at4_2, at4_3, at4_m1, at4_m2, Int.reduceNeg, nl0, nl1, nl2, nl3, nl4, true_and, list_tup, b_len_tup, inT4, ninT4, ninT5, t_tup, at0, at1_0, List.isEmpty_nil, List.isEmpty_cons, if_false]; intro x hx; cases hx) (f := fun _ => (false, false, fun _ => true)) (by simp only [innerOf, ofS_inj, decide_false, decide_true, Bool.or_false, Bool.false_or, Bool.or_true, Bool.true_or, Bool.not_false, Bool.not_true, Bool.and_true, Bool.true_and, reduceCtorEq, String.reduceEq, String.reduceNe, c_eq_str, c_ne_str, inT2, inT3, ninT3, ML.ix_tup, at2_0, at2_1, at2_m1, at2_m2, at3_0, at3_1, at3_2, at3_m1, at3_m2, at4_0, at4_1, at4_2, at4_3, at4_m1, at4_m2, Int.reduceNeg, nl0, nl1, nl2, nl3, nl4, true_and, list_tup, b_len_tup, inT4, ninT4, ninT5, t_tup, at0, at1_0, List.isEmpty_nil, List.isEmpty_cons, if_false]; rw [hv, e]; rfl)
    | @name n s h1 =>
      refine headL (by omega) hS (k0 := 2) (by decide +kernel) rfl (fun e S1 _ G1 => ⟨vv_no (nb (by rw [Ne, ofS_inj]; decide) e), rfl, G1⟩) fun e S1 G1 => ?_
      have hv := vv_yes (v := (isName s || (isWorded s greatS || decide (s ∈ plain)), false, fun _ => true)) (nb (by rw [Ne, ofS_inj]; decide) e)
      have hl := h1.le
      rw [tail_is]
      simp only [wrs_seqL, wS_asg, wS_ife, wS_ret, wS_nil, wS_exp, wE_cS, wE_cI, wE_cN, wE_cB, wE_call, wE_var, wE_glb, wE_bop, wE_idx, wE_lst, wE_tup, wE_blt, wE_met, wT_cmp, wT_and, wT_or, wT_nt, wT_one, wT_tru, wE_ite, wE_and, wE_or, wE_one, wE_nt, wE_cmp, wE_lc, wI_itr, wI_rng, wA_cons, wA_nil, wpO, wpF, List.set, List.getElem?_cons_zero, List.getElem?_cons_succ, Option.join_some, Bool.false_eq_true, if_false, if_true, wE_neg, wE_chn, wE_lset, wE_inW, wE_ixW, wS_fr, wS_rais, wT_chn, t_bl, later_nil, ofS_inj, decide_false, decide_true, Bool.or_false, Bool.false_or, Bool.or_true, Bool.true_or, Bool.not_false, Bool.not_true, Bool.and_true, Bool.true_and, reduceCtorEq, String.reduceEq, String.reduceNe, c_eq_str, c_ne_str, inT2, inT3, ninT3, ML.ix_tup, at2_0, at2_1, at2_m1, at2_m2, at3_0, at3_1, at3_2, at3_m1, at3_m2, at4_0, at4_1, at4_2, at4_3, at4_m1, at4_m2, Int.reduceNeg, nl0, nl1, nl2, nl3, nl4, true_and, list_tup, b_len_tup, inT4, ninT4, ninT5, t_tup, at0, at1_0, List.isEmpty_nil, List.isEmpty_cons]
      iterate 2 (rw [later]; simp only [wrs_seqL, wS_asg, wS_ife, wS_ret, wS_nil, wS_exp, wE_cS, wE_cI, wE_cN, wE_cB, wE_call, wE_var, wE_glb, wE_bop, wE_idx, wE_lst, wE_tup, wE_blt, wE_met, wT_cmp, wT_and, wT_or, wT_nt, wT_one, wT_tru, wE_ite, wE_and, wE_or, wE_one, wE_nt, wE_cmp, wE_lc, wI_itr, wI_rng, wA_cons, wA_nil, wpO, wpF, List.set, List.getElem?_cons_zero, List.getElem?_cons_succ, Option.join_some, Bool.false_eq_true, if_false, if_true, wE_neg, wE_chn, wE_lset, wE_inW, wE_ixW, wS_fr, wS_rais, wT_chn, t_bl, later_nil, ofS_inj, decide_false, decide_true, Bool.or_false, Bool.false_or, Bool.or_true, Bool.true_or, Bool.not_false, Bool.not_true, Bool.and_true, Bool.true_and, reduceCtorEq, String.reduceEq, String.reduceNe, c_eq_str, c_ne_str, inT2, inT3, ninT3, ML.ix_tup, at2_0, at2_1, at2_m1, at2_m2, at3_0, at3_1, at3_2, at3_m1, at3_m2, at4_0, at4_1, at4_2, at4_3, at4_m1, at4_m2, Int.reduceNeg, nl0, nl1, nl2, nl3, nl4, true_and, list_tup, b_len_tup, inT4, ninT4, ninT5, t_tup, at0, at1_0, List.isEmpty_nil, List.isEmpty_cons])
      refine (nameU (by omega) G1.wf (by omega)).wpr fun S2 G2 => ?_
      simp only [t_bl, wpO]
      have key : ∀ (c : Bool) (S4 : Store), c = (isName s || (isWorded s greatS || decide (s ∈ plain))) → Gr S S4 → wpr (sem T l 5 [.bl c] S4) (fun x => Later (sem T l) (gvs T) .nil (Later (sem T l) (gvs T) (.seq (.ife (.cmp .Eq (.var 3) (.cS ("set" : Str))) (.seq (.exp (.call 5 (.cons (.call 1 (.cons (.idx (.var 0) (.cI 1)) (.nil))) (.nil)))) (.nil)) (.nil)) (.seq (.ife (.cmp .In (.var 3) (.tup (.cons (.cS ("send" : Str)) (.cons (.cS ("super" : Str)) (.nil))))) (.seq (.exp (.call 5 (.cons (.cmp .Eq (.call 4 (.cons (.idx (.var 0) (.neg (.cI 2))) (.nil))) (.blt false .len (.cons (.idx (.var 0) (.neg (.cI 1))) (.nil)))) (.nil)))) (.nil)) (.nil)) close_look)) (fun _ => LN (vv (isName s || (isWorded s greatS || decide (s ∈ plain)), false, fun _ => true) deep b) S .non) (LN (vv (isName s || (isWorded s greatS || decide (s ∈ plain)), false, fun _ => true) deep b) S) (fun c _ => LE (vv (isName s || (isWorded s greatS || decide (s ∈ plain)), false, fun _ => true) deep b) S c)) (LN (vv (isName s || (isWorded s greatS || decide (s ∈ plain)), false, fun _ => true) deep b) S) (fun c _ => LE (vv (isName s || (isWorded s greatS || decide (s ∈ plain)), false, fun _ => true) deep b) S c) [some (.tup [.str (Str.ofString "name"), .str s]), some (.int deep), some (.bl b), some (.str (Str.ofString "name")), none]) (fun c S4 => LE (vv (isName s || (isWorded s greatS || decide (s ∈ plain)), false, fun _ => true) deep b) S c S4) := by
        intro c S4 hc G4
        refine (mustL (by omega) G4.wf).use (fun e S3 G3 => ?_) (fun e S3 G3 => ⟨by rw [hv, ← hc, e]; rfl, rfl, G4.trans G3⟩)
        rw [later_nil]
        iterate 2 (rw [later]; simp only [wrs_seqL, wS_asg, wS_ife, wS_ret, wS_nil, wS_exp, wE_cS, wE_cI, wE_cN, wE_cB, wE_call, wE_var, wE_glb, wE_bop, wE_idx, wE_lst, wE_tup, wE_blt, wE_met, wT_cmp, wT_and, wT_or, wT_nt, wT_one, wT_tru, wE_ite, wE_and, wE_or, wE_one, wE_nt, wE_cmp, wE_lc, wI_itr, wI_rng, wA_cons, wA_nil, wpO, wpF, List.set, List.getElem?_cons_zero, List.getElem?_cons_succ, Option.join_some, Bool.false_eq_true, if_false, if_true, wE_neg, wE_chn, wE_lset, wE_inW, wE_ixW, wS_fr, wS_rais, wT_chn, t_bl, later_nil, ofS_inj, decide_false, decide_true, Bool.or_false, Bool.false_or, Bool.or_true, Bool.true_or, Bool.not_false, Bool.not_true, Bool.and_true, Bool.true_and, reduceCtorEq, String.reduceEq, String.reduceNe, c_eq_str, c_ne_str, inT2, inT3, ninT3, ML.ix_tup, at2_0, at2_1, at2_m1, at2_m2, at3_0, at3_1, at3_2, at3_m1, at3_m2, at4_0, at4_1, at4_2, at4_3, at4_m1, at4_m2, Int.reduceNeg, nl0, nl1, nl2, nl3, nl4, true_and, list_tup, b_len_tup, inT4, ninT4, ninT5, t_tup, at0, at1_0, List.isEmpty_nil, List.isEmpty_cons])
        rw [later]
        exact closeL ih (by omega) (G4.trans G3) h0 (fun e => by cases e) (by rw [Ne, ofS_inj]; decide) rfl (by simp only [innerOf, ofS_inj, decide_false, decide_true, Bool.or_false, Bool.false_or, Bool.or_true, Bool.true_or, Bool.not_false, Bool.not_true, Bool.and_true, Bool.true_and, reduceCtorEq, String.reduceEq, String.reduceNe, c_eq_str, c_ne_str, inT2, inT3, ninT3, ML.ix_tup, at2_0, at2_1, at2_m1, at2_m2, at3_0, at3_1, at3_2, at3_m1, at3_m2, at4_0, at4_1, at4_2, at4_3, at4_m1, at4_m2, Int.reduceNeg, nl0, nl1, nl2, nl3, nl4, true_and, list_tup, b_len_tup, inT4, ninT4, ninT5, t_tup, at0, at1_0, List.isEmpty_nil, List.isEmpty_cons, if_false]; intro x hx; cases hx) (f := fun _ => (false, false, fun _ => true)) (by simp only [innerOf, ofS_inj, decide_false, decide_true, Bool.or_false, Bool.false_or, Bool.or_true, Bool.true_or, Bool.not_false, Bool.not_true, Bool.and_true, Bool.true_and, reduceCtorEq, String.reduceEq, String.reduceNe, c_eq_str, c_ne_str, inT2, inT3, ninT3, ML.ix_tup, at2_0, at2_1, at2_m1, at2_m2, at3_0, at3_1, at3_2, at3_m1, at3_m2, at4_0, at4_1, at4_2, at4_3, at4_m1, at4_m2, Int.reduceNeg, nl0, nl1, nl2, nl3, nl4, true_and, list_tup, b_len_tup, inT4, ninT4, ninT5, t_tup, at0, at1_0, List.isEmpty_nil, List.isEmpty_cons, if_false]; rw [hv, ← hc, e]; rfl)
      cases q1 : isName s with
      | true =>
        rw [q1] at key
        rw [if_pos rfl]
        exact key true S2 rfl (G1.trans G2)
      | false =>
        rw [q1] at key
        simp only [Bool.false_eq_true, if_false]
        refine (classU (by omega) G2.wf (by omega)).wpr fun S3 G3 => ?_
        simp only [t_bl, wpO]
        cases q2 : isWorded s greatS with
        | true =>
          rw [q2] at key
          rw [if_pos rfl]
          exact key true S3 rfl ((G1.trans G2).trans G3)
        | false =>
          rw [q2] at key
          simp only [Bool.false_eq_true, if_false, g7]
          rw [c_in_txt (show seqOf _ (D.cst (plain.map D.str)) = some (plain.map D.str) from rfl)]
          exact key _ S3 (by rw [Bool.false_or, Bool.false_or]) ((G1.trans G2).trans G3)
    | @set n s t f h1 h2 =>
      refine headL (by omega) hS (k0 := 3) (by decide +kernel) rfl (fun e S1 _ G1 => ⟨vv_no (nb (by rw [Ne, ofS_inj]; decide) e), rfl, G1⟩) fun e S1 G1 => ?_
      have hv := vv_yes (v := (isName s, false, inV f [t])) (nb (by rw [Ne, ofS_inj]; decide) e)
      have hl := h1.le
      rw [tail_is]
      simp only [wrs_seqL, wS_asg, wS_ife, wS_ret, wS_nil, wS_exp, wE_cS, wE_cI, wE_cN, wE_cB, wE_call, wE_var, wE_glb, wE_bop, wE_idx, wE_lst, wE_tup, wE_blt, wE_met, wT_cmp, wT_and, wT_or, wT_nt, wT_one, wT_tru, wE_ite, wE_and, wE_or, wE_one, wE_nt, wE_cmp, wE_lc, wI_itr, wI_rng, wA_cons, wA_nil, wpO, wpF, List.set, List.getElem?_cons_zero, List.getElem?_cons_succ, Option.join_some, Bool.false_eq_true, if_false, if_true, wE_neg, wE_chn, wE_lset, wE_inW, wE_ixW, wS_fr, wS_rais, wT_chn, t_bl, later_nil, ofS_inj, decide_false, decide_true, Bool.or_false, Bool.false_or, Bool.or_true, Bool.true_or, Bool.not_false, Bool.not_true, Bool.and_true, Bool.true_and, reduceCtorEq, String.reduceEq, String.reduceNe, c_eq_str, c_ne_str, inT2, inT3, ninT3, ML.ix_tup, at2_0, at2_1, at2_m1, at2_m2, at3_0, at3_1, at3_2, at3_m1, at3_m2, at4_0, at4_1, at4_2, at4_3, at4_m1, at4_m2, Int.reduceNeg, nl0, nl1, nl2, nl3, nl4, true_and, list_tup, b_len_tup, inT4, ninT4, ninT5, t_tup, at0, at1_0, List.isEmpty_nil, List.isEmpty_cons]
      iterate 3 (rw [later]; simp only [wrs_seqL, wS_asg, wS_ife, wS_ret, wS_nil, wS_exp, wE_cS, wE_cI, wE_cN, wE_cB, wE_call, wE_var, wE_glb, wE_bop, wE_idx, wE_lst, wE_tup, wE_blt, wE_met, wT_cmp, wT_and, wT_or, wT_nt, wT_one, wT_tru, wE_ite, wE_and, wE_or, wE_one, wE_nt, wE_cmp, wE_lc, wI_itr, wI_rng, wA_cons, wA_nil, wpO, wpF, List.set, List.getElem?_cons_zero, List.getElem?_cons_succ, Option.join_some, Bool.false_eq_true, if_false, if_true, wE_neg, wE_chn, wE_lset, wE_inW, wE_ixW, wS_fr, wS_rais, wT_chn, t_bl, later_nil, ofS_inj, decide_false, decide_true, Bool.or_false, Bool.false_or, Bool.or_true, Bool.true_or, Bool.not_false, Bool.not_true, Bool.and_true, Bool.true_and, reduceCtorEq, String.reduceEq, String.reduceNe, c_eq_str, c_ne_str, inT2, inT3, ninT3, ML.ix_tup, at2_0, at2_1, at2_m1, at2_m2, at3_0, at3_1, at3_2, at3_m1, at3_m2, at4_0, at4_1, at4_2, at4_3, at4_m1, at4_m2, Int.reduceNeg, nl0, nl1, nl2, nl3, nl4, true_and, list_tup, b_len_tup, inT4, ninT4, ninT5, t_tup, at0, at1_0, List.isEmpty_nil, List.isEmpty_cons])
      refine (nameU (by omega) G1.wf (by omega)).wpr fun S2 G2 => ?_
      refine (mustL (by omega) G2.wf).use (fun e S3 G3 => ?_) (fun e S3 G3 => ⟨by rw [hv, e]; rfl, rfl, (G1.trans G2).trans G3⟩)
      rw [later]
      simp only [wrs_seqL, wS_asg, wS_ife, wS_ret, wS_nil, wS_exp, wE_cS, wE_cI, wE_cN, wE_cB, wE_call, wE_var, wE_glb, wE_bop, wE_idx, wE_lst, wE_tup, wE_blt, wE_met, wT_cmp, wT_and, wT_or, wT_nt, wT_one, wT_tru, wE_ite, wE_and, wE_or, wE_one, wE_nt, wE_cmp, wE_lc, wI_itr, wI_rng, wA_cons, wA_nil, wpO, wpF, List.set, List.getElem?_cons_zero, List.getElem?_cons_succ, Option.join_some, Bool.false_eq_true, if_false, if_true, wE_neg, wE_chn, wE_lset, wE_inW, wE_ixW, wS_fr, wS_rais, wT_chn, t_bl, later_nil, ofS_inj, decide_false, decide_true, Bool.or_false, Bool.false_or, Bool.or_true, Bool.true_or, Bool.not_false, Bool.not_true, Bool.and_true, Bool.true_and, reduceCtorEq, String.reduceEq, String.reduceNe, c_eq_str, c_ne_str, inT2, inT3, ninT3, ML.ix_tup, at2_0, at2_1, at2_m1, at2_m2, at3_0, at3_1, at3_2, at3_m1, at3_m2, at4_0, at4_1, at4_2, at4_3, at4_m1, at4_m2, Int.reduceNeg, nl0, nl1, nl2, nl3, nl4, true_and, list_tup, b_len_tup, inT4, ninT4, ninT5, t_tup, at0, at1_0, List.isEmpty_nil, List.isEmpty_cons]
      rw [later]
      have ei : innerOf (.tup [.str (Str.ofString "set"), .str s, t]) = [t] := by simp only [innerOf, ofS_inj, decide_false, decide_true, Bool.or_false, Bool.false_or, Bool.or_true, Bool.true_or, Bool.not_false, Bool.not_true, Bool.and_true, Bool.true_and, reduceCtorEq, String.reduceEq, String.reduceNe, c_eq_str, c_ne_str, inT2, inT3, ninT3, ML.ix_tup, at2_0, at2_1, at2_m1, at2_m2, at3_0, at3_1, at3_2, at3_m1, at3_m2, at4_0, at4_1, at4_2, at4_3, at4_m1, at4_m2, Int.reduceNeg, nl0, nl1, nl2, nl3, nl4, true_and, list_tup, b_len_tup, inT4, ninT4, ninT5, t_tup, at0, at1_0, List.isEmpty_nil, List.isEmpty_cons, if_true]
      exact closeL ih (by omega) ((G1.trans G2).trans G3) h0 (fun e => by cases e) (by rw [Ne, ofS_inj]; decide) ei (f := f) (by intro x hx; rw [List.mem_singleton.mp hx]; exact h2) (by rw [hv, e]; rfl)
    | @back n t f h2 =>
      refine headL (by omega) hS (k0 := 2) (by decide +kernel) rfl (fun e S1 _ G1 => ⟨vv_no (by rw [decide_eq_true rfl] at e; exact e), rfl, G1⟩) fun e S1 G1 => ?_
      have hv := vv_yes (v := (true, true, inV f [t])) (by rw [decide_eq_true rfl] at e; exact e)
      rw [tail_is]
      simp only [wrs_seqL, wS_asg, wS_ife, wS_ret, wS_nil, wS_exp, wE_cS, wE_cI, wE_cN, wE_cB, wE_call, wE_var, wE_glb, wE_bop, wE_idx, wE_lst, wE_tup, wE_blt, wE_met, wT_cmp, wT_and, wT_or, wT_nt, wT_one, wT_tru, wE_ite, wE_and, wE_or, wE_one, wE_nt, wE_cmp, wE_lc, wI_itr, wI_rng, wA_cons, wA_nil, wpO, wpF, List.set, List.getElem?_cons_zero, List.getElem?_cons_succ, Option.join_some, Bool.false_eq_true, if_false, if_true, wE_neg, wE_chn, wE_lset, wE_inW, wE_ixW, wS_fr, wS_rais, wT_chn, t_bl, later_nil, ofS_inj, decide_false, decide_true, Bool.or_false, Bool.false_or, Bool.or_true, Bool.true_or, Bool.not_false, Bool.not_true, Bool.and_true, Bool.true_and, reduceCtorEq, String.reduceEq, String.reduceNe, c_eq_str, c_ne_str, inT2, inT3, ninT3, ML.ix_tup, at2_0, at2_1, at2_m1, at2_m2, at3_0, at3_1, at3_2, at3_m1, at3_m2, at4_0, at4_1, at4_2, at4_3, at4_m1, at4_m2, Int.reduceNeg, nl0, nl1, nl2, nl3, nl4, true_and, list_tup, b_len_tup, inT4, ninT4, ninT5, t_tup, at0, at1_0, List.isEmpty_nil, List.isEmpty_cons]
      iterate 4 (rw [later]; simp only [wrs_seqL, wS_asg, wS_ife, wS_ret, wS_nil, wS_exp, wE_cS, wE_cI, wE_cN, wE_cB, wE_call, wE_var, wE_glb, wE_bop, wE_idx, wE_lst, wE_tup, wE_blt, wE_met, wT_cmp, wT_and, wT_or, wT_nt, wT_one, wT_tru, wE_ite, wE_and, wE_or, wE_one, wE_nt, wE_cmp, wE_lc, wI_itr, wI_rng, wA_cons, wA_nil, wpO, wpF, List.set, List.getElem?_cons_zero, List.getElem?_cons_succ, Option.join_some, Bool.false_eq_true, if_false, if_true, wE_neg, wE_chn, wE_lset, wE_inW, wE_ixW, wS_fr, wS_rais, wT_chn, t_bl, later_nil, ofS_inj, decide_false, decide_true, Bool.or_false, Bool.false_or, Bool.or_true, Bool.true_or, Bool.not_false, Bool.not_true, Bool.and_true, Bool.true_and, reduceCtorEq, String.reduceEq, String.reduceNe, c_eq_str, c_ne_str, inT2, inT3, ninT3, ML.ix_tup, at2_0, at2_1, at2_m1, at2_m2, at3_0, at3_1, at3_2, at3_m1, at3_m2, at4_0, at4_1, at4_2, at4_3, at4_m1, at4_m2, Int.reduceNeg, nl0, nl1, nl2, nl3, nl4, true_and, list_tup, b_len_tup, inT4, ninT4, ninT5, t_tup, at0, at1_0, List.isEmpty_nil, List.isEmpty_cons])
      rw [later]
      have ei : innerOf (.tup [.str (Str.ofString "back"), t]) = [t] := by simp only [innerOf, ofS_inj, decide_false, decide_true, Bool.or_false, Bool.false_or, Bool.or_true, Bool.true_or, Bool.not_false, Bool.not_true, Bool.and_true, Bool.true_and, reduceCtorEq, String.reduceEq, String.reduceNe, c_eq_str, c_ne_str, inT2, inT3, ninT3, ML.ix_tup, at2_0, at2_1, at2_m1, at2_m2, at3_0, at3_1, at3_2, at3_m1, at3_m2, at4_0, at4_1, at4_2, at4_3, at4_m1, at4_m2, Int.reduceNeg, nl0, nl1, nl2, nl3, nl4, true_and, list_tup, b_len_tup, inT4, ninT4, ninT5, t_tup, at0, at1_0, List.isEmpty_nil, List.isEmpty_cons, if_true]
      exact closeL ih (by omega) G1 h0 (fun e => by cases e) (by rw [Ne, ofS_inj]; decide) ei (f := f) (by intro x hx; rw [List.mem_singleton.mp hx]; exact h2) (by rw [hv]; rfl)
    | @send n s t ts o f h1 h2 h3 h4 =>
      refine headL (by omega) hS (k0 := 4) (by decide +kernel) rfl (fun e S1 _ G1 => ⟨vv_no (nb (by rw [Ne, ofS_inj]; decide) e), rfl, G1⟩) fun e S1 G1 => ?_
      have hv := vv_yes (v := (decide (o = some ts.length), false, inV f (t :: ts))) (nb (by rw [Ne, ofS_inj]; decide) e)
      rw [tail_is]
      simp only [wrs_seqL, wS_asg, wS_ife, wS_ret, wS_nil, wS_exp, wE_cS, wE_cI, wE_cN, wE_cB, wE_call, wE_var, wE_glb, wE_bop, wE_idx, wE_lst, wE_tup, wE_blt, wE_met, wT_cmp, wT_and, wT_or, wT_nt, wT_one, wT_tru, wE_ite, wE_and, wE_or, wE_one, wE_nt, wE_cmp, wE_lc, wI_itr, wI_rng, wA_cons, wA_nil, wpO, wpF, List.set, List.getElem?_cons_zero, List.getElem?_cons_succ, Option.join_some, Bool.false_eq_true, if_false, if_true, wE_neg, wE_chn, wE_lset, wE_inW, wE_ixW, wS_fr, wS_rais, wT_chn, t_bl, later_nil, ofS_inj, decide_false, decide_true, Bool.or_false, Bool.false_or, Bool.or_true, Bool.true_or, Bool.not_false, Bool.not_true, Bool.and_true, Bool.true_and, reduceCtorEq, String.reduceEq, String.reduceNe, c_eq_str, c_ne_str, inT2, inT3, ninT3, ML.ix_tup, at2_0, at2_1, at2_m1, at2_m2, at3_0, at3_1, at3_2, at3_m1, at3_m2, at4_0, at4_1, at4_2, at4_3, at4_m1, at4_m2, Int.reduceNeg, nl0, nl1, nl2, nl3, nl4, true_and, list_tup, b_len_tup, inT4, ninT4, ninT5, t_tup, at0, at1_0, List.isEmpty_nil, List.isEmpty_cons]
      iterate 4 (rw [later]; simp only [wrs_seqL, wS_asg, wS_ife, wS_ret, wS_nil, wS_exp, wE_cS, wE_cI, wE_cN, wE_cB, wE_call, wE_var, wE_glb, wE_bop, wE_idx, wE_lst, wE_tup, wE_blt, wE_met, wT_cmp, wT_and, wT_or, wT_nt, wT_one, wT_tru, wE_ite, wE_and, wE_or, wE_one, wE_nt, wE_cmp, wE_lc, wI_itr, wI_rng, wA_cons, wA_nil, wpO, wpF, List.set, List.getElem?_cons_zero, List.getElem?_cons_succ, Option.join_some, Bool.false_eq_true, if_false, if_true, wE_neg, wE_chn, wE_lset, wE_inW, wE_ixW, wS_fr, wS_rais, wT_chn, t_bl, later_nil, ofS_inj, decide_false, decide_true, Bool.or_false, Bool.false_or, Bool.or_true, Bool.true_or, Bool.not_false, Bool.not_true, Bool.and_true, Bool.true_and, reduceCtorEq, String.reduceEq, String.reduceNe, c_eq_str, c_ne_str, inT2, inT3, ninT3, ML.ix_tup, at2_0, at2_1, at2_m1, at2_m2, at3_0, at3_1, at3_2, at3_m1, at3_m2, at4_0, at4_1, at4_2, at4_3, at4_m1, at4_m2, Int.reduceNeg, nl0, nl1, nl2, nl3, nl4, true_and, list_tup, b_len_tup, inT4, ninT4, ninT5, t_tup, at0, at1_0, List.isEmpty_nil, List.isEmpty_cons])
      refine (h2.own _ _ (by omega) G1.wf).wpr fun S2 G2 => ?_
      simp only [o_eq, wpO]
      refine (mustL (by omega) G2.wf).use (fun e S3 G3 => ?_) (fun e S3 G3 => ⟨by rw [hv, e]; rfl, rfl, (G1.trans G2).trans G3⟩)
      rw [later]
      have ei : innerOf (.tup [.str (Str.ofString "send"), t, .str s, .tup ts]) = t :: ts := by simp only [innerOf, ofS_inj, decide_false, decide_true, Bool.or_false, Bool.false_or, Bool.or_true, Bool.true_or, Bool.not_false, Bool.not_true, Bool.and_true, Bool.true_and, reduceCtorEq, String.reduceEq, String.reduceNe, c_eq_str, c_ne_str, inT2, inT3, ninT3, ML.ix_tup, at2_0, at2_1, at2_m1, at2_m2, at3_0, at3_1, at3_2, at3_m1, at3_m2, at4_0, at4_1, at4_2, at4_3, at4_m1, at4_m2, Int.reduceNeg, nl0, nl1, nl2, nl3, nl4, true_and, list_tup, b_len_tup, inT4, ninT4, ninT5, t_tup, at0, at1_0, List.isEmpty_nil, List.isEmpty_cons, if_true]; rfl
      exact closeL ih (by omega) ((G1.trans G2).trans G3) h0 (fun e => by cases e) (by rw [Ne, ofS_inj]; decide) ei (f := f) h4 (by rw [hv, e]; rfl)
    | @sup n s ts o f h1 h2 h3 h4 =>
      refine headL (by omega) hS (k0 := 3) (by decide +kernel) rfl (fun e S1 _ G1 => ⟨vv_no (nb (by rw [Ne, ofS_inj]; decide) e), rfl, G1⟩) fun e S1 G1 => ?_
      have hv := vv_yes (v := (decide (o = some ts.length), false, inV f ts)) (nb (by rw [Ne, ofS_inj]; decide) e)
      rw [tail_is]
      simp only [wrs_seqL, wS_asg, wS_ife, wS_ret, wS_nil, wS_exp, wE_cS, wE_cI, wE_cN, wE_cB, wE_call, wE_var, wE_glb, wE_bop, wE_idx, wE_lst, wE_tup, wE_blt, wE_met, wT_cmp, wT_and, wT_or, wT_nt, wT_one, wT_tru, wE_ite, wE_and, wE_or, wE_one, wE_nt, wE_cmp, wE_lc, wI_itr, wI_rng, wA_cons, wA_nil, wpO, wpF, List.set, List.getElem?_cons_zero, List.getElem?_cons_succ, Option.join_some, Bool.false_eq_true, if_false, if_true, wE_neg, wE_chn, wE_lset, wE_inW, wE_ixW, wS_fr, wS_rais, wT_chn, t_bl, later_nil, ofS_inj, decide_false, decide_true, Bool.or_false, Bool.false_or, Bool.or_true, Bool.true_or, Bool.not_false, Bool.not_true, Bool.and_true, Bool.true_and, reduceCtorEq, String.reduceEq, String.reduceNe, c_eq_str, c_ne_str, inT2, inT3, ninT3, ML.ix_tup, at2_0, at2_1, at2_m1, at2_m2, at3_0, at3_1, at3_2, at3_m1, at3_m2, at4_0, at4_1, at4_2, at4_3, at4_m1, at4_m2, Int.reduceNeg, nl0, nl1, nl2, nl3, nl4, true_and, list_tup, b_len_tup, inT4, ninT4, ninT5, t_tup, at0, at1_0, List.isEmpty_nil, List.isEmpty_cons]
      iterate 4 (rw [later]; simp only [wrs_seqL, wS_asg, wS_ife, wS_ret, wS_nil, wS_exp, wE_cS, wE_cI, wE_cN, wE_cB, wE_call, wE_var, wE_glb, wE_bop, wE_idx, wE_lst, wE_tup, wE_blt, wE_met, wT_cmp, wT_and, wT_or, wT_nt, wT_one, wT_tru, wE_ite, wE_and, wE_or, wE_one, wE_nt, wE_cmp, wE_lc, wI_itr, wI_rng, wA_cons, wA_nil, wpO, wpF, List.set, List.getElem?_cons_zero, List.getElem?_cons_succ, Option.join_some, Bool.false_eq_true, if_false, if_true, wE_neg, wE_chn, wE_lset, wE_inW, wE_ixW, wS_fr, wS_rais, wT_chn, t_bl, later_nil, ofS_inj, decide_false, decide_true, Bool.or_false, Bool.false_or, Bool.or_true, Bool.true_or, Bool.not_false, Bool.not_true, Bool.and_true, Bool.true_and, reduceCtorEq, String.reduceEq, String.reduceNe, c_eq_str, c_ne_str, inT2, inT3, ninT3, ML.ix_tup, at2_0, at2_1, at2_m1, at2_m2, at3_0, at3_1, at3_2, at3_m1, at3_m2, at4_0, at4_1, at4_2, at4_3, at4_m1, at4_m2, Int.reduceNeg, nl0, nl1, nl2, nl3, nl4, true_and, list_tup, b_len_tup, inT4, ninT4, ninT5, t_tup, at0, at1_0, List.isEmpty_nil, List.isEmpty_cons])
      refine (h2.own _ _ (by omega) G1.wf).wpr fun S2 G2 => ?_
      simp only [o_eq, wpO]
      refine (mustL (by omega) G2.wf).use (fun e S3 G3 => ?_) (fun e S3 G3 => ⟨by rw [hv, e]; rfl, rfl, (G1.trans G2).trans G3⟩)
      rw [later]
      have ei : innerOf (.tup [.str (Str.ofString "super"), .str s, .tup ts]) = ts := by simp only [innerOf, ofS_inj, decide_false, decide_true, Bool.or_false, Bool.false_or, Bool.or_true, Bool.true_or, Bool.not_false, Bool.not_true, Bool.and_true, Bool.true_and, reduceCtorEq, String.reduceEq, String.reduceNe, c_eq_str, c_ne_str, inT2, inT3, ninT3, ML.ix_tup, at2_0, at2_1, at2_m1, at2_m2, at3_0, at3_1, at3_2, at3_m1, at3_m2, at4_0, at4_1, at4_2, at4_3, at4_m1, at4_m2, Int.reduceNeg, nl0, nl1, nl2, nl3, nl4, true_and, list_tup, b_len_tup, inT4, ninT4, ninT5, t_tup, at0, at1_0, List.isEmpty_nil, List.isEmpty_cons, if_true, if_false]; rfl
      exact closeL ih (by omega) ((G1.trans G2).trans G3) h0 (fun e => by cases e) (by rw [Ne, ofS_inj]; decide) ei (f := f) h4 (by rw [hv, e]; rfl)
    | @blk n ps ms bs f h1 h2 h3 h4 h5 =>
      refine headL (by omega) hS (k0 := 4) (by decide +kernel) rfl (fun e S1 _ G1 => ⟨vv_no (nb (by rw [Ne, ofS_inj]; decide) e), rfl, G1⟩) fun e S1 G1 => ?_
      have hv := vv_yes (v := (decide (ps.length ≤ 2) && nmV (ps ++ ms), false, bodyV f bs)) (nb (by rw [Ne, ofS_inj]; decide) e)
      rw [tail_is]
      simp only [wrs_seqL, wS_asg, wS_ife, wS_ret, wS_nil, wS_exp, wE_cS, wE_cI, wE_cN, wE_cB, wE_call, wE_var, wE_glb, wE_bop, wE_idx, wE_lst, wE_tup, wE_blt, wE_met, wT_cmp, wT_and, wT_or, wT_nt, wT_one, wT_tru, wE_ite, wE_and, wE_or, wE_one, wE_nt, wE_cmp, wE_lc, wI_itr, wI_rng, wA_cons, wA_nil, wpO, wpF, List.set, List.getElem?_cons_zero, List.getElem?_cons_succ, Option.join_some, Bool.false_eq_true, if_false, if_true, wE_neg, wE_chn, wE_lset, wE_inW, wE_ixW, wS_fr, wS_rais, wT_chn, t_bl, later_nil, ofS_inj, decide_false, decide_true, Bool.or_false, Bool.false_or, Bool.or_true, Bool.true_or, Bool.not_false, Bool.not_true, Bool.and_true, Bool.true_and, reduceCtorEq, String.reduceEq, String.reduceNe, c_eq_str, c_ne_str, inT2, inT3, ninT3, ML.ix_tup, at2_0, at2_1, at2_m1, at2_m2, at3_0, at3_1, at3_2, at3_m1, at3_m2, at4_0, at4_1, at4_2, at4_3, at4_m1, at4_m2, Int.reduceNeg, nl0, nl1, nl2, nl3, nl4, true_and, list_tup, b_len_tup, inT4, ninT4, ninT5, t_tup, at0, at1_0, List.isEmpty_nil, List.isEmpty_cons]
      iterate 4 (rw [later]; simp only [wrs_seqL, wS_asg, wS_ife, wS_ret, wS_nil, wS_exp, wE_cS, wE_cI, wE_cN, wE_cB, wE_call, wE_var, wE_glb, wE_bop, wE_idx, wE_lst, wE_tup, wE_blt, wE_met, wT_cmp, wT_and, wT_or, wT_nt, wT_one, wT_tru, wE_ite, wE_and, wE_or, wE_one, wE_nt, wE_cmp, wE_lc, wI_itr, wI_rng, wA_cons, wA_nil, wpO, wpF, List.set, List.getElem?_cons_zero, List.getElem?_cons_succ, Option.join_some, Bool.false_eq_true, if_false, if_true, wE_neg, wE_chn, wE_lset, wE_inW, wE_ixW, wS_fr, wS_rais, wT_chn, t_bl, later_nil, ofS_inj, decide_false, decide_true, Bool.or_false, Bool.false_or, Bool.or_true, Bool.true_or, Bool.not_false, Bool.not_true, Bool.and_true, Bool.true_and, reduceCtorEq, String.reduceEq, String.reduceNe, c_eq_str, c_ne_str, inT2, inT3, ninT3, ML.ix_tup, at2_0, at2_1, at2_m1, at2_m2, at3_0, at3_1, at3_2, at3_m1, at3_m2, at4_0, at4_1, at4_2, at4_3, at4_m1, at4_m2, Int.reduceNeg, nl0, nl1, nl2, nl3, nl4, true_and, list_tup, b_len_tup, inT4, ninT4, ninT5, t_tup, at0, at1_0, List.isEmpty_nil, List.isEmpty_cons])
      rw [later]
      simp only [close_look, wrs_seqL, wS_asg, wS_ife, wS_ret, wS_nil, wS_exp, wE_cS, wE_cI, wE_cN, wE_cB, wE_call, wE_var, wE_glb, wE_bop, wE_idx, wE_lst, wE_tup, wE_blt, wE_met, wT_cmp, wT_and, wT_or, wT_nt, wT_one, wT_tru, wE_ite, wE_and, wE_or, wE_one, wE_nt, wE_cmp, wE_lc, wI_itr, wI_rng, wA_cons, wA_nil, wpO, wpF, List.set, List.getElem?_cons_zero, List.getElem?_cons_succ, Option.join_some, Bool.false_eq_true, if_false, if_true, wE_neg, wE_chn, wE_lset, wE_inW, wE_ixW, wS_fr, wS_rais, wT_chn, t_bl, later_nil, ofS_inj, decide_false, decide_true, Bool.or_false, Bool.false_or, Bool.or_true, Bool.true_or, Bool.not_false, Bool.not_true, Bool.and_true, Bool.true_and, reduceCtorEq, String.reduceEq, String.reduceNe, c_eq_str, c_ne_str, inT2, inT3, ninT3, ML.ix_tup, at2_0, at2_1, at2_m1, at2_m2, at3_0, at3_1, at3_2, at3_m1, at3_m2, at4_0, at4_1, at4_2, at4_3, at4_m1, at4_m2, Int.reduceNeg, nl0, nl1, nl2, nl3, nl4, true_and, list_tup, b_len_tup, inT4, ninT4, ninT5, t_tup, at0, at1_0, List.isEmpty_nil, List.isEmpty_cons]
      rw [add_tt (by rw [List.length_map, List.length_map]; omega)]
      simp only [← List.map_append]
      refine (lookNamesL (by omega) G1.wf (by rw [List.length_append]; omega) (fun x hx => (h3 x hx).le)).use (fun e2 S2 G2 => ?_) (fun e2 S2 G2 => ⟨by rw [hv, e2, Bool.and_false]; rfl, rfl, G1.trans G2⟩)
      rw [later]
      simp only [wrs_seqL, wS_asg, wS_ife, wS_ret, wS_nil, wS_exp, wE_cS, wE_cI, wE_cN, wE_cB, wE_call, wE_var, wE_glb, wE_bop, wE_idx, wE_lst, wE_tup, wE_blt, wE_met, wT_cmp, wT_and, wT_or, wT_nt, wT_one, wT_tru, wE_ite, wE_and, wE_or, wE_one, wE_nt, wE_cmp, wE_lc, wI_itr, wI_rng, wA_cons, wA_nil, wpO, wpF, List.set, List.getElem?_cons_zero, List.getElem?_cons_succ, Option.join_some, Bool.false_eq_true, if_false, if_true, wE_neg, wE_chn, wE_lset, wE_inW, wE_ixW, wS_fr, wS_rais, wT_chn, t_bl, later_nil, ofS_inj, decide_false, decide_true, Bool.or_false, Bool.false_or, Bool.or_true, Bool.true_or, Bool.not_false, Bool.not_true, Bool.and_true, Bool.true_and, reduceCtorEq, String.reduceEq, String.reduceNe, c_eq_str, c_ne_str, inT2, inT3, ninT3, ML.ix_tup, at2_0, at2_1, at2_m1, at2_m2, at3_0, at3_1, at3_2, at3_m1, at3_m2, at4_0, at4_1, at4_2, at4_3, at4_m1, at4_m2, Int.reduceNeg, nl0, nl1, nl2, nl3, nl4, true_and, list_tup, b_len_tup, inT4, ninT4, ninT5, t_tup, at0, at1_0, List.isEmpty_nil, List.isEmpty_cons, c_le, g10, List.length_map]
      rw [show decide ((ps.length : Int) ≤ 2) = decide (ps.length ≤ 2) by congr 1; exact propext (by omega)]
      refine (mustL (by omega) G2.wf).use (fun e3 S3 G3 => ?_) (fun e3 S3 G3 => ⟨by rw [hv, e3]; rfl, rfl, (G1.trans G2).trans G3⟩)
      rw [later]
      simp only [wrs_seqL, wS_asg, wS_ife, wS_ret, wS_nil, wS_exp, wE_cS, wE_cI, wE_cN, wE_cB, wE_call, wE_var, wE_glb, wE_bop, wE_idx, wE_lst, wE_tup, wE_blt, wE_met, wT_cmp, wT_and, wT_or, wT_nt, wT_one, wT_tru, wE_ite, wE_and, wE_or, wE_one, wE_nt, wE_cmp, wE_lc, wI_itr, wI_rng, wA_cons, wA_nil, wpO, wpF, List.set, List.getElem?_cons_zero, List.getElem?_cons_succ, Option.join_some, Bool.false_eq_true, if_false, if_true, wE_neg, wE_chn, wE_lset, wE_inW, wE_ixW, wS_fr, wS_rais, wT_chn, t_bl, later_nil, ofS_inj, decide_false, decide_true, Bool.or_false, Bool.false_or, Bool.or_true, Bool.true_or, Bool.not_false, Bool.not_true, Bool.and_true, Bool.true_and, reduceCtorEq, String.reduceEq, String.reduceNe, c_eq_str, c_ne_str, inT2, inT3, ninT3, ML.ix_tup, at2_0, at2_1, at2_m1, at2_m2, at3_0, at3_1, at3_2, at3_m1, at3_m2, at4_0, at4_1, at4_2, at4_3, at4_m1, at4_m2, Int.reduceNeg, nl0, nl1, nl2, nl3, nl4, true_and, list_tup, b_len_tup, inT4, ninT4, ninT5, t_tup, at0, at1_0, List.isEmpty_nil, List.isEmpty_cons, add_int]
      rw [show (deep : Int) + 1 = ((deep + 1 : Nat) : Int) by omega]
      refine (lookBodyL ih (by omega) G3.wf (by omega) h5).use (fun e4 S4 G4 => ?_) (fun e4 S4 G4 => ⟨by rw [hv, e2, e3]; exact e4, rfl, ((G1.trans G2).trans G3).trans G4⟩)
      try rw [later_nil]
      try rw [later_nil]
      exact ⟨by rw [hv, e2, e3]; exact e4, rfl, ((G1.trans G2).trans G3).trans G4⟩
end K10

namespace K10
open PySem L2 ML

def Gv (a : D) (S0 : Store) (d : D) (S : Store) : Prop := d = a ∧ Gr S0 S
theorem Gv.ups {a : D} {S0 : Store} {r : Rs D} (h : wpr r (Gv a S0) fun _ _ => False) : Ups r S0 a := .of h
theorem l2 {x y : D} : (([x, y].length : Nat) : Int) = 2 := rfl
theorem l3 {x y z : D} : (([x, y, z].length : Nat) : Int) = 3 := rfl
theorem l4 {x y z u : D} : (([x, y, z, u].length : Nat) : Int) = 4 := rfl
inductive MV : Nat → D → Bool → Prop
  | four {n : Nat} {s : Str} {o : Option Nat} {ps ms : List Str} {bs : List D} {f : D → V3} : SOk s → ArV s o → ps.length ≤ 10 → ms.length ≤ 10 → (∀ x ∈ ps ++ ms, SOk x) → bs.length ≤ 6 → (∀ x ∈ bs, XV n x (f x)) →
      MV n (.tup [.str s, .tup (ps.map D.str), .tup (ms.map D.str), .tup bs]) (decide (o = some ps.length) && (nmV (ps ++ ms) && bodyV f bs 1))
  | three {n : Nat} {a b c : D} : MV n (.tup [a, b, c]) false
  | one {n : Nat} {a : D} : MV n (.tup [a]) false
  | five {n : Nat} {a b c d e : D} : MV n (.tup [a, b, c, d, e]) false
theorem l1 {a : D} : (([a].length : Nat) : Int) = 1 := rfl
theorem l5 {a b c d e : D} : (([a, b, c, d, e].length : Nat) : Int) = 5 := rfl
theorem dz {i j : Int} (h : i ≠ j) : decide (i = j) = false := decide_eq_false h
theorem lookMethodL {L n : Nat} {d : D} {v : Bool} {S : Store} (hL : 2 * n + 8 ≤ L) (hS : S.WF) (h : MV n d v) : Lk v (sem T L 10 [d] S) S := by
  obtain ⟨l, rfl⟩ : ∃ l, L = l + 1 := ⟨L - 1, by omega⟩
  show wpr (endF (evS (sem T l) (gvs T) f_look_method.body [some d] S)) _ _
  rw [wrs_end]
  cases h with
  | three =>
    simp only [f_look_method, wrs_seqL, wS_asg, wS_ife, wS_ret, wS_nil, wS_exp, wE_cS, wE_cI, wE_cN, wE_cB, wE_call, wE_var, wE_glb, wE_bop, wE_idx, wE_lst, wE_tup, wE_blt, wE_met, wT_cmp, wT_and, wT_or, wT_nt, wT_one, wT_tru, wE_ite, wE_and, wE_or, wE_one, wE_nt, wE_cmp, wE_lc, wI_itr, wI_rng, wA_cons, wA_nil, wpO, wpF, List.set, List.getElem?_cons_zero, List.getElem?_cons_succ, Option.join_some, Bool.false_eq_true, if_false, if_true, wE_neg, wE_chn, wE_lset, wE_inW, wE_ixW, wS_fr, wS_rais, wT_chn, t_bl, later_nil, b_len_tup, c_eq_int, l3, dz (show (3 : Int) ≠ 4 by decide)]
    exact (mustL (by omega) hS).use (fun e => absurd e (by decide)) (fun _ S1 G1 => ⟨rfl, rfl, G1⟩)
  | one =>
    simp only [f_look_method, wrs_seqL, wS_asg, wS_ife, wS_ret, wS_nil, wS_exp, wE_cS, wE_cI, wE_cN, wE_cB, wE_call, wE_var, wE_glb, wE_bop, wE_idx, wE_lst, wE_tup, wE_blt, wE_met, wT_cmp, wT_and, wT_or, wT_nt, wT_one, wT_tru, wE_ite, wE_and, wE_or, wE_one, wE_nt, wE_cmp, wE_lc, wI_itr, wI_rng, wA_cons, wA_nil, wpO, wpF, List.set, List.getElem?_cons_zero, List.getElem?_cons_succ, Option.join_some, Bool.false_eq_true, if_false, if_true, wE_neg, wE_chn, wE_lset, wE_inW, wE_ixW, wS_fr, wS_rais, wT_chn, t_bl, later_nil, b_len_tup, c_eq_int, l1, dz (show (1 : Int) ≠ 4 by decide)]
    exact (mustL (by omega) hS).use (fun e => absurd e (by decide)) (fun _ S1 G1 => ⟨rfl, rfl, G1⟩)
  | five =>
    simp only [f_look_method, wrs_seqL, wS_asg, wS_ife, wS_ret, wS_nil, wS_exp, wE_cS, wE_cI, wE_cN, wE_cB, wE_call, wE_var, wE_glb, wE_bop, wE_idx, wE_lst, wE_tup, wE_blt, wE_met, wT_cmp, wT_and, wT_or, wT_nt, wT_one, wT_tru, wE_ite, wE_and, wE_or, wE_one, wE_nt, wE_cmp, wE_lc, wI_itr, wI_rng, wA_cons, wA_nil, wpO, wpF, List.set, List.getElem?_cons_zero, List.getElem?_cons_succ, Option.join_some, Bool.false_eq_true, if_false, if_true, wE_neg, wE_chn, wE_lset, wE_inW, wE_ixW, wS_fr, wS_rais, wT_chn, t_bl, later_nil, b_len_tup, c_eq_int, l5, dz (show (5 : Int) ≠ 4 by decide)]
    exact (mustL (by omega) hS).use (fun e => absurd e (by decide)) (fun _ S1 G1 => ⟨rfl, rfl, G1⟩)
  | @four s o ps ms bs f h1 h2 h3 h4 h5 h6 h7 =>
    simp only [f_look_method, wrs_seqL, wS_asg, wS_ife, wS_ret, wS_nil, wS_exp, wE_cS, wE_cI, wE_cN, wE_cB, wE_call, wE_var, wE_glb, wE_bop, wE_idx, wE_lst, wE_tup, wE_blt, wE_met, wT_cmp, wT_and, wT_or, wT_nt, wT_one, wT_tru, wE_ite, wE_and, wE_or, wE_one, wE_nt, wE_cmp, wE_lc, wI_itr, wI_rng, wA_cons, wA_nil, wpO, wpF, List.set, List.getElem?_cons_zero, List.getElem?_cons_succ, Option.join_some, Bool.false_eq_true, if_false, if_true, wE_neg, wE_chn, wE_lset, wE_inW, wE_ixW, wS_fr, wS_rais, wT_chn, t_bl, later_nil, ofS_inj, decide_false, decide_true, Bool.or_false, Bool.false_or, Bool.or_true, Bool.true_or, Bool.not_false, Bool.not_true, Bool.and_true, Bool.true_and, reduceCtorEq, String.reduceEq, String.reduceNe, c_eq_str, c_ne_str, inT2, inT3, ninT3, ML.ix_tup, at2_0, at2_1, at2_m1, at2_m2, at3_0, at3_1, at3_2, at3_m1, at3_m2, at4_0, at4_1, at4_2, at4_3, at4_m1, at4_m2, Int.reduceNeg, nl0, nl1, nl2, nl3, nl4, true_and, list_tup, b_len_tup, inT4, ninT4, ninT5, t_tup, at0, at1_0, List.isEmpty_nil, List.isEmpty_cons, c_eq_int, l4]
    refine (h2.own _ _ (by omega) hS).wpr fun S1 G1 => ?_
    simp only [List.length_map, o_eq, wpO]
    refine (mustL (by omega) G1.wf).use (fun e1 S2 G2 => ?_) (fun e1 S2 G2 => ⟨by rw [e1]; rfl, rfl, G1.trans G2⟩)
    rw [later]
    simp only [wrs_seqL, wS_asg, wS_ife, wS_ret, wS_nil, wS_exp, wE_cS, wE_cI, wE_cN, wE_cB, wE_call, wE_var, wE_glb, wE_bop, wE_idx, wE_lst, wE_tup, wE_blt, wE_met, wT_cmp, wT_and, wT_or, wT_nt, wT_one, wT_tru, wE_ite, wE_and, wE_or, wE_one, wE_nt, wE_cmp, wE_lc, wI_itr, wI_rng, wA_cons, wA_nil, wpO, wpF, List.set, List.getElem?_cons_zero, List.getElem?_cons_succ, Option.join_some, Bool.false_eq_true, if_false, if_true, wE_neg, wE_chn, wE_lset, wE_inW, wE_ixW, wS_fr, wS_rais, wT_chn, t_bl, later_nil, ofS_inj, decide_false, decide_true, Bool.or_false, Bool.false_or, Bool.or_true, Bool.true_or, Bool.not_false, Bool.not_true, Bool.and_true, Bool.true_and, reduceCtorEq, String.reduceEq, String.reduceNe, c_eq_str, c_ne_str, inT2, inT3, ninT3, ML.ix_tup, at2_0, at2_1, at2_m1, at2_m2, at3_0, at3_1, at3_2, at3_m1, at3_m2, at4_0, at4_1, at4_2, at4_3, at4_m1, at4_m2, Int.reduceNeg, nl0, nl1, nl2, nl3, nl4, true_and, list_tup, b_len_tup, inT4, ninT4, ninT5, t_tup, at0, at1_0, List.isEmpty_nil, List.isEmpty_cons]
    rw [add_tt (by rw [List.length_map, List.length_map]; omega)]
    simp only [← List.map_append]
    refine (lookNamesL (by omega) G2.wf (by rw [List.length_append]; omega) (fun x hx => (h5 x hx).le)).use (fun e2 S3 G3 => ?_) (fun e2 S3 G3 => ⟨by rw [e2, Bool.false_and, Bool.and_false], rfl, (G1.trans G2).trans G3⟩)
    rw [later]
    simp only [wrs_seqL, wS_asg, wS_ife, wS_ret, wS_nil, wS_exp, wE_cS, wE_cI, wE_cN, wE_cB, wE_call, wE_var, wE_glb, wE_bop, wE_idx, wE_lst, wE_tup, wE_blt, wE_met, wT_cmp, wT_and, wT_or, wT_nt, wT_one, wT_tru, wE_ite, wE_and, wE_or, wE_one, wE_nt, wE_cmp, wE_lc, wI_itr, wI_rng, wA_cons, wA_nil, wpO, wpF, List.set, List.getElem?_cons_zero, List.getElem?_cons_succ, Option.join_some, Bool.false_eq_true, if_false, if_true, wE_neg, wE_chn, wE_lset, wE_inW, wE_ixW, wS_fr, wS_rais, wT_chn, t_bl, later_nil, ofS_inj, decide_false, decide_true, Bool.or_false, Bool.false_or, Bool.or_true, Bool.true_or, Bool.not_false, Bool.not_true, Bool.and_true, Bool.true_and, reduceCtorEq, String.reduceEq, String.reduceNe, c_eq_str, c_ne_str, inT2, inT3, ninT3, ML.ix_tup, at2_0, at2_1, at2_m1, at2_m2, at3_0, at3_1, at3_2, at3_m1, at3_m2, at4_0, at4_1, at4_2, at4_3, at4_m1, at4_m2, Int.reduceNeg, nl0, nl1, nl2, nl3, nl4, true_and, list_tup, b_len_tup, inT4, ninT4, ninT5, t_tup, at0, at1_0, List.isEmpty_nil, List.isEmpty_cons]
    refine (lookBodyL (lookT n) (deep := 1) (f := f) (by omega) G3.wf (by omega) h7).use (fun e4 S4 G4 => ?_) (fun e4 S4 G4 => ⟨by rw [e4, Bool.and_false, Bool.and_false], rfl, ((G1.trans G2).trans G3).trans G4⟩)
    exact ⟨by rw [e1, e2, e4]; rfl, rfl, ((G1.trans G2).trans G3).trans G4⟩
def refD : D := .tup [.str (Str.ofString "refused"), .str (Str.ofString "tree")]
theorem refusalU {L : Nat} {S : Store} (hL : 1 ≤ L) (hS : S.WF) : Ups (sem T L 22 [.exn (Str.ofString "BadTree")] S) S refD := by
  obtain ⟨l, rfl⟩ : ∃ l, L = l + 1 := ⟨L - 1, by omega⟩
  refine Gv.ups ?_
  show wpr (endF (evS (sem T l) (gvs T) f_law_refusal.body [some (.exn (Str.ofString "BadTree")), none] S)) _ _
  rw [wrs_end]
  have et : List.lookup (Str.ofString "BadTree") [(Str.ofString "BadTree", true)] = some true := by decide +kernel
  have ef : List.lookup (Str.ofString "BadTree") [(Str.ofString "BadTree", false)] = some false := by decide +kernel
  simp only [f_law_refusal, wrs_seqL, wS_asg, wS_ife, wS_ret, wS_nil, wS_exp, wE_cS, wE_cI, wE_cN, wE_cB, wE_call, wE_var, wE_glb, wE_bop, wE_idx, wE_lst, wE_tup, wE_blt, wE_met, wT_cmp, wT_and, wT_or, wT_nt, wT_one, wT_tru, wE_ite, wE_and, wE_or, wE_one, wE_nt, wE_cmp, wE_lc, wI_itr, wI_rng, wA_cons, wA_nil, wpO, wpF, List.set, List.getElem?_cons_zero, List.getElem?_cons_succ, Option.join_some, Bool.false_eq_true, if_false, if_true, wE_neg, wE_chn, wE_lset, wE_inW, wE_ixW, wS_fr, wS_rais, wT_chn, t_bl, later_nil, c_is, ML.isNon]
  rw [later]
  simp only [wrs_seqL, wS_asg, wS_ife, wS_ret, wS_nil, wS_exp, wE_cS, wE_cI, wE_cN, wE_cB, wE_call, wE_var, wE_glb, wE_bop, wE_idx, wE_lst, wE_tup, wE_blt, wE_met, wT_cmp, wT_and, wT_or, wT_nt, wT_one, wT_tru, wE_ite, wE_and, wE_or, wE_one, wE_nt, wE_cmp, wE_lc, wI_itr, wI_rng, wA_cons, wA_nil, wpO, wpF, List.set, List.getElem?_cons_zero, List.getElem?_cons_succ, Option.join_some, Bool.false_eq_true, if_false, if_true, wE_neg, wE_chn, wE_lset, wE_inW, wE_ixW, wS_fr, wS_rais, wT_chn, t_bl, later_nil, wE_isE, isEP, et, ef]
  refine ⟨by show 3 ≤ nMax; decide, ?_⟩
  rw [later]
  simp only [wrs_seqL, wS_asg, wS_ife, wS_ret, wS_nil, wS_exp, wE_cS, wE_cI, wE_cN, wE_cB, wE_call, wE_var, wE_glb, wE_bop, wE_idx, wE_lst, wE_tup, wE_blt, wE_met, wT_cmp, wT_and, wT_or, wT_nt, wT_one, wT_tru, wE_ite, wE_and, wE_or, wE_one, wE_nt, wE_cmp, wE_lc, wI_itr, wI_rng, wA_cons, wA_nil, wpO, wpF, List.set, List.getElem?_cons_zero, List.getElem?_cons_succ, Option.join_some, Bool.false_eq_true, if_false, if_true, wE_neg, wE_chn, wE_lset, wE_inW, wE_ixW, wS_fr, wS_rais, wT_chn, t_bl, later_nil, wE_isE, isEP, et, ef]
  refine ⟨by show 3 ≤ nMax; decide, ?_⟩
  rw [add_ll (by decide)]
  simp only [wpF, Bool.false_eq_true, if_false]
  rw [later]
  simp only [wrs_seqL, wS_asg, wS_ife, wS_ret, wS_nil, wS_exp, wE_cS, wE_cI, wE_cN, wE_cB, wE_call, wE_var, wE_glb, wE_bop, wE_idx, wE_lst, wE_tup, wE_blt, wE_met, wT_cmp, wT_and, wT_or, wT_nt, wT_one, wT_tru, wE_ite, wE_and, wE_or, wE_one, wE_nt, wE_cmp, wE_lc, wI_itr, wI_rng, wA_cons, wA_nil, wpO, wpF, List.set, List.getElem?_cons_zero, List.getElem?_cons_succ, Option.join_some, Bool.false_eq_true, if_false, if_true, wE_neg, wE_chn, wE_lset, wE_inW, wE_ixW, wS_fr, wS_rais, wT_chn, t_bl, later_nil, wE_isE, isEP, et, ef]
  refine ⟨rfl, ?_⟩
  have ec : ∀ S, mfM false .count (.lst ([D.bl true, .bl false, .bl false] ++ [.bl false, .bl false, .bl false])) [.bl true] S = .ok (.int 1) S := fun S => rfl
  have ex : ∀ S, mfM false .index (.lst ([D.bl true, .bl false, .bl false] ++ [.bl false, .bl false, .bl false])) [.bl true] S = .ok (.int 0) S := fun S => rfl
  rw [ec, wpr_ok]
  simp only [c_ne_int, decide_true, Bool.not_true, Bool.false_eq_true, if_false, wpO]
  rw [later]
  simp only [wrs_seqL, wS_asg, wS_ife, wS_ret, wS_nil, wS_exp, wE_cS, wE_cI, wE_cN, wE_cB, wE_call, wE_var, wE_glb, wE_bop, wE_idx, wE_lst, wE_tup, wE_blt, wE_met, wT_cmp, wT_and, wT_or, wT_nt, wT_one, wT_tru, wE_ite, wE_and, wE_or, wE_one, wE_nt, wE_cmp, wE_lc, wI_itr, wI_rng, wA_cons, wA_nil, wpO, wpF, List.set, List.getElem?_cons_zero, List.getElem?_cons_succ, Option.join_some, Bool.false_eq_true, if_false, if_true, wE_neg, wE_chn, wE_lset, wE_inW, wE_ixW, wS_fr, wS_rais, wT_chn, t_bl, later_nil]
  refine ⟨by show 6 ≤ nMax; decide, rfl, ?_⟩
  rw [ex, wpr_ok]
  simp only [ix_lst, wpO]
  exact ⟨by show 2 ≤ nMax; decide, rfl, .refl hS⟩
end K10

namespace K10
open PySem L2 ML

theorem mem_pcs : ∀ (n : Nat) {l : List Nat}, l.length ≤ n → ∀ x ∈ l, x = 58 ∨ ∃ p ∈ pcs l, x ∈ p := by
  intro n
  induction n with
  | zero => intro l hl x hx; cases l with
    | nil => cases hx
    | cons _ _ => simp at hl
  | succ n ih =>
    intro l hl x hx
    by_cases hc : 58 ∈ l
    · obtain ⟨p, r, rfl, hp⟩ := first_of hc
      rw [pcs_cons hp]
      rcases List.mem_append.mp hx with hx | hx
      · exact .inr ⟨p, List.mem_cons_self .., hx⟩
      · rcases List.mem_cons.mp hx with hx | hx
        · exact .inl hx
        · rcases ih (l := r) (by rw [List.length_append, List.length_cons] at hl; omega) x hx with z | ⟨q, h1, h2⟩
          · exact .inl z
          · exact .inr ⟨q, List.mem_cons_of_mem _ h1, h2⟩
    · rw [pcs_none hc]
      exact .inr ⟨l, List.mem_cons_self .., hx⟩
theorem all_ok : ∀ x ∈ allS.cps.toList, x < 128 := by decide +kernel
theorem ok_of {s : Str} (h : ∀ x ∈ s.cps.toList, x < 128) : PySem.PyData.strOk s = true := by
  unfold PySem.PyData.strOk
  rw [Array.all_eq_true_iff_forall_mem]
  intro x hx
  have := h x (by simpa using hx)
  simp
  omega
theorem ok_nm {s : Str} (h : isName s = true) : PySem.PyData.strOk s = true := ok_of fun x hx => all_ok x (name_all h x hx)
theorem ok_ar {s : Str} {k : Nat} (h : Ar s k) : PySem.PyData.strOk s = true := by
  obtain ⟨_, ps, r, e, ha⟩ := h
  unfold arityD at ha
  split at ha
  · rename_i q; exact ok_nm q
  · split at ha
    · rename_i q
      obtain ⟨c, rfl⟩ := one_of q.1
      have q2 := q.2
      rw [in_one, decide_eq_true_eq] at q2
      have z : ∀ c ∈ signS.cps.toList, c < 128 := by decide +kernel
      refine ok_of fun x hx => ?_
      rw [tl_one, List.mem_singleton] at hx
      rw [hx]
      exact z c q2
    · split at ha
      · rename_i q
        obtain ⟨hr, _, _, hn⟩ := q
        rw [List.all_eq_true] at hn
        refine ok_of fun x hx => ?_
        rcases mem_pcs _ (Nat.le_refl _) x hx with z | ⟨p, h1, h2⟩
        · rw [z]; decide
        · rw [e] at h1
          rcases List.mem_append.mp h1 with h1 | h1
          · exact all_ok x (name_all (hn p h1) x h2)
          · rw [List.mem_singleton.mp h1, hr] at h2
            cases h2
      · cases ha
theorem pys_str : ∀ xs : List Str, pys (xs.map D.str) = some (xs.map PyData.str)
  | [] => rfl
  | x :: xs => by
    show (some (PyData.str x)).bind (fun a => (pys (xs.map D.str)).map (a :: ·)) = _
    rw [pys_str xs]
    rfl
theorem lay_str : ∀ {xs : List Str}, (∀ x ∈ xs, PySem.PyData.strOk x = true) → PyData.canLayAll0 (xs.map PyData.str) = true
  | [], _ => rfl
  | x :: xs, h => by
    show (PySem.PyData.strOk x && PyData.canLayAll0 (xs.map PyData.str)) = true
    rw [h x (List.mem_cons_self ..), lay_str fun y hy => h y (List.mem_cons_of_mem _ hy)]
    rfl
theorem depth_str : ∀ xs : List Str, PyData.depthAll (xs.map PyData.str) = 0
  | [] => rfl
  | x :: xs => by
    show max 0 (PyData.depthAll (xs.map PyData.str)) = 0
    rw [depth_str xs]
    rfl
theorem eqv_str : ∀ xs : List Str, PyData.eqvAll (xs.map PyData.str) (xs.map PyData.str) = true
  | [] => rfl
  | x :: xs => by
    show (x == x && PyData.eqvAll (xs.map PyData.str) (xs.map PyData.str)) = true
    rw [eqv_str xs, beq_self_eq_true]
    rfl
theorem shaped_l {xs : List Str} (h : ∀ x ∈ xs, PySem.PyData.strOk x = true) : SeqAt.shaped (.list (xs.map PyData.str)) = true := by
  unfold SeqAt.shaped
  show (PyData.canLayAll0 (xs.map PyData.str) && decide (PyData.depthAll (xs.map PyData.str) + 1 ≤ 64)) = true
  rw [lay_str h, depth_str]
  rfl
theorem shaped_t {xs : List Str} (h : ∀ x ∈ xs, PySem.PyData.strOk x = true) : SeqAt.shaped (.tuple (xs.map PyData.str)) = true := by
  unfold SeqAt.shaped
  show (PyData.canLayAll0 (xs.map PyData.str) && decide (PyData.depthAll (xs.map PyData.str) + 1 ≤ 64)) = true
  rw [lay_str h, depth_str]
  rfl

def XT (n : Nat) (d : D) : Prop := ∃ v, XV n d v
theorem XV.mono {n : Nat} {d : D} {v : V3} (h : XV n d v) : ∀ {m : Nat}, n ≤ m → XV m d v := by
  induction h with
  | emp => intro m hm; obtain ⟨k, rfl⟩ : ∃ k, m = k + 1 := ⟨m - 1, by omega⟩; exact .emp
  | num => intro m hm; obtain ⟨k, rfl⟩ : ∃ k, m = k + 1 := ⟨m - 1, by omega⟩; exact .num
  | num2 => intro m hm; obtain ⟨k, rfl⟩ : ∃ k, m = k + 1 := ⟨m - 1, by omega⟩; exact .num2
  | thing => intro m hm; obtain ⟨k, rfl⟩ : ∃ k, m = k + 1 := ⟨m - 1, by omega⟩; exact .thing
  | word a b => intro m hm; obtain ⟨k, rfl⟩ : ∃ k, m = k + 1 := ⟨m - 1, by omega⟩; exact .word a b
  | name a => intro m hm; obtain ⟨k, rfl⟩ : ∃ k, m = k + 1 := ⟨m - 1, by omega⟩; exact .name a
  | set a b ih => intro m hm; obtain ⟨k, rfl⟩ : ∃ k, m = k + 1 := ⟨m - 1, by omega⟩; exact .set a (ih (by omega))
  | send a b c d ih => intro m hm; obtain ⟨k, rfl⟩ : ∃ k, m = k + 1 := ⟨m - 1, by omega⟩; exact .send a b c fun x hx => ih x hx (by omega)
  | sup a b c d ih => intro m hm; obtain ⟨k, rfl⟩ : ∃ k, m = k + 1 := ⟨m - 1, by omega⟩; exact .sup a b c fun x hx => ih x hx (by omega)
  | blk a b c d e ih => intro m hm; obtain ⟨k, rfl⟩ : ∃ k, m = k + 1 := ⟨m - 1, by omega⟩; exact .blk a b c d fun x hx => ih x hx (by omega)
  | back a ih => intro m hm; obtain ⟨k, rfl⟩ : ∃ k, m = k + 1 := ⟨m - 1, by omega⟩; exact .back (ih (by omega))
theorem XT.mono {n m : Nat} {d : D} (h : XT n d) (hm : n ≤ m) : XT m d := by obtain ⟨v, h⟩ := h; exact ⟨v, h.mono hm⟩
theorem XT_fun {n : Nat} {xs : List D} (h : ∀ x ∈ xs, XT n x) : ∃ f : D → V3, ∀ x ∈ xs, XV n x (f x) := by
  classical
  refine ⟨fun x => if q : XT n x then Classical.choose q else (false, false, fun _ => true), fun x hx => ?_⟩
  have q := h x hx
  simp only [dif_pos q]
  exact Classical.choose_spec q
theorem vv_1 {v : V3} {deep : Nat} {b : Bool} (h : vv v deep b = true) : deep ≤ 12 ∧ v.1 = true ∧ v.2.2 (deep + 1) = true := by
  unfold vv at h
  simp only [Bool.and_eq_true, decide_eq_true_eq] at h
  exact ⟨h.1, h.2.1.1, h.2.2⟩
theorem inV_1 {f : D → V3} {xs : List D} {k : Nat} (h : inV f xs k = true) : ∀ x ∈ xs, vv (f x) k false = true := List.all_eq_true.mp h
theorem bodyV_1 {f : D → V3} {bs : List D} {k : Nat} (h : bodyV f bs k = true) : ∀ x ∈ bs, ∃ b, vv (f x) k b = true := fun x hx => by
  obtain ⟨j, hj, rfl⟩ := List.mem_iff_getElem.mp hx
  have := List.all_eq_true.mp h j (List.mem_range.mpr hj)
  rw [List.getD_eq_getElem?_getD, List.getElem?_eq_getElem hj, Option.getD_some] at this
  exact ⟨_, this⟩
/-- what is a tree is no deeper than that -/
theorem XV.cap {n : Nat} {d : D} {v : V3} (h : XV n d v) : ∀ {deep : Nat} {b : Bool}, vv v deep b = true → XV (13 - deep) d v := by
  induction h with
  | emp => intro deep b q; have := (vv_1 q).2.1; cases this
  | num2 => intro deep b q; have := (vv_1 q).2.1; cases this
  | thing => intro deep b q; have := (vv_1 q).2.1; cases this
  | num => intro deep b q; obtain ⟨q1, q2, q3⟩ := vv_1 q; rw [show 13 - deep = (13 - (deep + 1)) + 1 by omega]; exact .num
  | word a c => intro deep b q; obtain ⟨q1, q2, q3⟩ := vv_1 q; rw [show 13 - deep = (13 - (deep + 1)) + 1 by omega]; exact .word a c
  | name a => intro deep b q; obtain ⟨q1, q2, q3⟩ := vv_1 q; rw [show 13 - deep = (13 - (deep + 1)) + 1 by omega]; exact .name a
  | set a c ih => intro deep b q; obtain ⟨q1, q2, q3⟩ := vv_1 q; rw [show 13 - deep = (13 - (deep + 1)) + 1 by omega]; exact .set a (ih (inV_1 q3 _ (List.mem_cons_self ..)))
  | back a ih => intro deep b q; obtain ⟨q1, q2, q3⟩ := vv_1 q; rw [show 13 - deep = (13 - (deep + 1)) + 1 by omega]; exact .back (ih (inV_1 q3 _ (List.mem_cons_self ..)))
  | send a c d e ih => intro deep b q; obtain ⟨q1, q2, q3⟩ := vv_1 q; rw [show 13 - deep = (13 - (deep + 1)) + 1 by omega]; exact .send a c d fun x hx => ih x hx (inV_1 q3 x hx)
  | sup a c d e ih => intro deep b q; obtain ⟨q1, q2, q3⟩ := vv_1 q; rw [show 13 - deep = (13 - (deep + 1)) + 1 by omega]; exact .sup a c d fun x hx => ih x hx (inV_1 q3 x hx)
  | blk a c d e g ih =>
    intro deep b q
    obtain ⟨q1, q2, q3⟩ := vv_1 q
    rw [show 13 - deep = (13 - (deep + 1)) + 1 by omega]
    refine .blk a c d e fun x hx => ?_
    obtain ⟨b', z⟩ := bodyV_1 q3 x hx
    exact ih x hx z
/-! ### what may be compared -/
def PyX (n : Nat) (d : D) : Prop := ∃ p, py d = some p ∧ PyData.canLay0 p = true ∧ PyData.depth p ≤ n
theorem pys_x {n : Nat} : ∀ {xs : List D}, (∀ x ∈ xs, PyX n x) → ∃ ps, pys xs = some ps ∧ PyData.canLayAll0 ps = true ∧ PyData.depthAll ps ≤ n ∧ ps.length = xs.length
  | [], _ => ⟨[], rfl, rfl, Nat.zero_le _, rfl⟩
  | x :: xs, h => by
    obtain ⟨p, h1, h2, h3⟩ := h x (List.mem_cons_self ..)
    obtain ⟨ps, k1, k2, k3, k4⟩ := pys_x fun y hy => h y (List.mem_cons_of_mem _ hy)
    refine ⟨p :: ps, ?_, ?_, ?_, by simp [k4]⟩
    · show (py x).bind (fun a => (pys xs).map (a :: ·)) = _
      rw [h1, k1]; rfl
    · show (PyData.canLay0 p && PyData.canLayAll0 ps) = true
      rw [h2, k2]; rfl
    · show max (PyData.depth p) (PyData.depthAll ps) ≤ n
      omega
theorem pyx_tup {n : Nat} {xs : List D} (h : ∀ x ∈ xs, PyX n x) : PyX (n + 1) (.tup xs) := by
  obtain ⟨ps, k1, k2, k3, _⟩ := pys_x h
  refine ⟨.tuple ps, ?_, k2, ?_⟩
  · show (pys xs).map PyData.tuple = _
    rw [k1]; rfl
  · show PyData.depthAll ps + 1 ≤ n + 1
    omega
theorem PyX.mono {n m : Nat} {d : D} (h : PyX n d) (hm : n ≤ m) : PyX m d := by obtain ⟨p, a, b, c⟩ := h; exact ⟨p, a, b, by omega⟩
theorem pyx_str {n : Nat} {s : Str} (h : PySem.PyData.strOk s = true) : PyX n (.str s) := ⟨.str s, rfl, h, Nat.zero_le _⟩
theorem pyx_int {n : Nat} {i : Int} : PyX n (.int i) := ⟨.int i, rfl, rfl, Nat.zero_le _⟩
theorem pyx_strs {n : Nat} {xs : List Str} (h : ∀ x ∈ xs, SOk x) : PyX (n + 1) (.tup (xs.map D.str)) := pyx_tup fun x hx => by
  obtain ⟨s, hs, rfl⟩ := List.mem_map.mp hx
  exact pyx_str (h s hs).ok
theorem ok_words : PySem.PyData.strOk (Str.ofString "number") = true ∧ PySem.PyData.strOk (Str.ofString "word") = true ∧ PySem.PyData.strOk (Str.ofString "name") = true ∧ PySem.PyData.strOk (Str.ofString "set") = true ∧ PySem.PyData.strOk (Str.ofString "send") = true ∧ PySem.PyData.strOk (Str.ofString "super") = true ∧ PySem.PyData.strOk (Str.ofString "block") = true ∧ PySem.PyData.strOk (Str.ofString "back") = true ∧ PySem.PyData.strOk (Str.ofString "thing") = true := by decide +kernel
theorem all1 {n : Nat} {a b : D} (ha : PyX n a) (hb : PyX n b) : ∀ x ∈ [a, b], PyX n x := by
  intro x hx
  simp only [List.mem_cons, List.not_mem_nil, or_false] at hx
  rcases hx with rfl | rfl <;> assumption
theorem all3 {n : Nat} {a b c : D} (ha : PyX n a) (hb : PyX n b) (hc : PyX n c) : ∀ x ∈ [a, b, c], PyX n x := by
  intro x hx
  simp only [List.mem_cons, List.not_mem_nil, or_false] at hx
  rcases hx with rfl | rfl | rfl <;> assumption
theorem all4 {n : Nat} {a b c d : D} (ha : PyX n a) (hb : PyX n b) (hc : PyX n c) (hd : PyX n d) : ∀ x ∈ [a, b, c, d], PyX n x := by
  intro x hx
  simp only [List.mem_cons, List.not_mem_nil, or_false] at hx
  rcases hx with rfl | rfl | rfl | rfl <;> assumption
theorem XV.pyx {n : Nat} {d : D} {v : V3} (h : XV n d v) : PyX (2 * n) d := by
  obtain ⟨w1, w2, w3, w4, w5, w6, w7, w8, w9⟩ := ok_words
  induction h with
  | emp => exact (pyx_tup (n := 0) (fun x hx => by cases hx)).mono (by omega)
  | num => exact (pyx_tup (n := 0) (all1 (pyx_str w1) pyx_int)).mono (by omega)
  | num2 => exact (pyx_tup (n := 0) (all3 (pyx_str w1) pyx_int pyx_int)).mono (by omega)
  | thing => exact (pyx_tup (n := 0) (all1 (pyx_str w9) pyx_int)).mono (by omega)
  | word a c => exact (pyx_tup (n := 0) (all1 (pyx_str w2) (pyx_str a.ok))).mono (by omega)
  | name a => exact (pyx_tup (n := 0) (all1 (pyx_str w3) (pyx_str a.ok))).mono (by omega)
  | set a c ih => exact (pyx_tup (all3 (pyx_str w4) (pyx_str a.ok) ih)).mono (by omega)
  | back a ih => exact (pyx_tup (all1 (pyx_str w8) ih)).mono (by omega)
  | send a c d e ih => exact (pyx_tup (all4 (pyx_str w5) ((ih _ (List.mem_cons_self ..)).mono (Nat.le_succ _)) (pyx_str a.ok) (pyx_tup fun x hx => ih x (List.mem_cons_of_mem _ hx)))).mono (by omega)
  | sup a c d e ih => exact (pyx_tup (all3 (pyx_str w6) (pyx_str a.ok) (pyx_tup fun x hx => ih x hx))).mono (by omega)
  | blk a c d e g ih => exact (pyx_tup (all4 (pyx_str w7) (pyx_strs fun x hx => d x (List.mem_append_left _ hx)) (pyx_strs fun x hx => d x (List.mem_append_right _ hx)) (pyx_tup fun x hx => ih x hx))).mono (by omega)
/-- a row of trees against () -/
theorem eq_none {S : Store} {n : Nat} {xs : List D} (h : ∀ x ∈ xs, XT n x) (hn : n ≤ 30) : cmpP S .Eq (.tup xs) (.tup []) = some xs.isEmpty := by
  obtain ⟨ps, k1, k2, k3, k4⟩ := pys_x fun x hx => by obtain ⟨v, z⟩ := h x hx; exact z.pyx
  show (match py (.tup xs), py (.tup []) with
    | some a, some b => if (SeqAt.shaped a && SeqAt.shaped b) = true then some (PyData.eqv a b) else none
    | _, _ => none) = _
  rw [show py (.tup xs) = some (.tuple ps) by show (pys xs).map PyData.tuple = _; rw [k1]; rfl, show py (.tup []) = some (.tuple []) from rfl]
  have e1 : SeqAt.shaped (.tuple ps) = true := by
    unfold SeqAt.shaped
    show (PyData.canLayAll0 ps && decide (PyData.depthAll ps + 1 ≤ 64)) = true
    rw [k2, decide_eq_true (by omega)]; rfl
  simp only [e1, show SeqAt.shaped (.tuple []) = true from rfl, Bool.and_self, if_true]
  cases xs with
  | nil => cases ps with
    | nil => rfl
    | cons _ _ => cases k4
  | cons _ _ => cases ps with
    | nil => cases k4
    | cons _ _ => rfl
/-! ### drawn trees are such -/
theorem wd_all {s f : Str} (h : isWorded s f = true) : ∀ x ∈ s.cps.toList, x ∈ allS.cps.toList := by
  unfold isWorded inAll at h
  simp only [Bool.and_eq_true, List.all_eq_true] at h
  intro x hx
  have z := h.2 x hx
  rw [in_one, decide_eq_true_eq] at z
  exact z
theorem plain_ok : ∀ s ∈ plain, PySem.PyData.strOk s = true := by decide +kernel
theorem nm_ok {s : Str} (h : isName s = true) : SOk s := ⟨by have := name_len h; omega, ok_nm h⟩
theorem ar_ok {s : Str} {k : Nat} (h : Ar s k) : SOk s := ⟨by have := h.1; omega, ok_ar h⟩
theorem WT.xt : ∀ {n : Nat} {b : Bool} {d : D}, WT n b d → XT n d := by
  intro n b d h
  induction h with
  | num a b => exact ⟨_, .num⟩
  | word a => obtain ⟨o, z⟩ := arV (ar_ok a).le; exact ⟨_, .word (ar_ok a) z⟩
  | @name n b s h1 h2 =>
    refine ⟨_, .name ⟨by omega, ?_⟩⟩
    rcases h1 with h1 | h1 | h1
    · exact ok_nm h1
    · exact ok_of fun x hx => all_ok x (wd_all h1 x hx)
    · exact plain_ok s h1
  | set a c ih => obtain ⟨v, z⟩ := ih; exact ⟨_, .set (f := fun _ => v) (nm_ok a) z⟩
  | @send n b t s ts h1 h2 h3 h4 ih1 ih2 =>
    obtain ⟨f, hf⟩ := XT_fun (xs := t :: ts) fun x hx => (List.mem_cons.mp hx).elim (fun e => e ▸ ih1) (ih2 x)
    obtain ⟨o, z⟩ := arV (ar_ok h1).le
    exact ⟨_, .send (ar_ok h1) z h2 hf⟩
  | @sup n b s ts h1 h2 h3 ih =>
    obtain ⟨f, hf⟩ := XT_fun ih
    obtain ⟨o, z⟩ := arV (ar_ok h1).le
    exact ⟨_, .sup (ar_ok h1) z h2 hf⟩
  | @blk n b ps ms bs h1 h2 h3 h4 h5 h6 ih =>
    obtain ⟨f, hf⟩ := XT_fun (xs := bs) fun x hx => by
      obtain ⟨j, hj, rfl⟩ := List.mem_iff_getElem.mp hx
      exact ih j _ (List.getElem?_eq_getElem hj)
    exact ⟨_, .blk (by omega) (by omega) (fun x hx => nm_ok (h3 x hx)) (by omega) hf⟩
  | back a ih => obtain ⟨v, z⟩ := ih; exact ⟨_, .back (f := fun _ => v) z⟩
end K10

namespace K10
open PySem L2 ML

theorem met_nd : ∀ {xs : List Str}, xs.Nodup → met xs = xs := by
  intro xs h
  have gen : ∀ (xs a : List Str), (a ++ xs).Nodup → xs.foldl metS a = a ++ xs := by
    intro xs
    induction xs with
    | nil => intro a _; simp
    | cons x xs ih =>
      intro a h
      have hx : ¬ (a.any (· == x) = true) := by
        rw [List.any_eq_true]
        rintro ⟨y, hy, e⟩
        have e' := eq_of_beq e
        subst e'
        exact (List.nodup_append.mp h).2.2 y hy y (List.mem_cons_self ..) rfl
      show xs.foldl metS (metS a x) = _
      have e1 : metS a x = a ++ [x] := if_neg hx
      rw [e1, ih (a ++ [x]) (by rw [List.append_assoc]; exact h), List.append_assoc]
      rfl
  exact gen xs [] h

theorem wf0 : S0.WF := fun n h => rfl
theorem XV.det {n m : Nat} {d : D} {v v' : V3} (h : XV n d v) (h' : XV m d v') (deep : Nat) (b : Bool) : vv v deep b = vv v' deep b := by
  have a := lookT n (2 * n + 2 * m + 5) deep b d v S0 (by omega) wf0 h
  have c := lookT m (2 * n + 2 * m + 5) deep b d v' S0 (by omega) wf0 h'
  unfold Lk at a c
  revert a c
  cases sem T (2 * n + 2 * m + 5) 9 [d, .int deep, .bl b] S0 with
  | ok x S => exact fun a c => a.1.trans c.1.symm
  | exc x S => exact fun a c => a.1.trans c.1.symm
  | bad => exact fun a _ => a.elim
theorem ar_some {s : Str} {k : Nat} {o : Option Nat} (h : Ar s k) (h' : ArV s o) : o = some k := by
  obtain ⟨S1, e1, _⟩ := arityU (L := 3) (by decide) wf0 h
  obtain ⟨S2, e2, _⟩ := h'.own 3 S0 (by decide) wf0
  rw [e1] at e2
  injection e2 with e3 _
  cases o with
  | none => cases e3
  | some j =>
    have : (k : Int) = (j : Int) := D.int.inj e3
    rw [show j = k by omega]
theorem nmV_ok {xs : List Str} (h : ∀ x ∈ xs, isName x = true) (nd : xs.Nodup) : nmV xs = true := by
  unfold nmV
  rw [List.all_eq_true.mpr h, met_nd nd, decide_eq_true rfl]
  rfl
theorem vv_of {v : V3} {deep : Nat} {b : Bool} (h1 : deep ≤ 12) (h2 : v.1 = true) (h3 : (!v.2.1 || b) = true) (h4 : v.2.2 (deep + 1) = true) : vv v deep b = true := by
  unfold vv
  rw [decide_eq_true h1, h2, h3, h4]
  rfl
def Good (n : Nat) (b : Bool) (d : D) : Prop := ∃ v, XV n d v ∧ ∀ deep, deep + n ≤ 13 → vv v deep b = true
theorem in_ok {n : Nat} {f : D → V3} {xs : List D} {deep : Nat} (hf : ∀ x ∈ xs, XV n x (f x)) (hg : ∀ x ∈ xs, Good n false x) (hd : deep + 1 + n ≤ 13 + 1) : ∀ k, k + n ≤ 13 → inV f xs k = true := fun k hk =>
  List.all_eq_true.mpr fun x hx => by
    obtain ⟨v, h1, h2⟩ := hg x hx
    rw [(hf x hx).det h1]
    exact h2 k hk
theorem body_ok {n : Nat} {f : D → V3} {bs : List D} (hf : ∀ x ∈ bs, XV n x (f x)) (hg : ∀ (k : Nat) (x : D), bs[k]? = some x → Good n (decide (k + 1 = bs.length)) x) : ∀ k, k + n ≤ 13 → bodyV f bs k = true := fun k hk =>
  body_true fun j hj => by
    obtain ⟨v, h1, h2⟩ := hg j _ (List.getElem?_eq_getElem hj)
    rw [(hf _ (List.getElem_mem hj)).det h1]
    exact h2 k hk
theorem Good.xt {n : Nat} {b : Bool} {d : D} (h : Good n b d) : XT n d := by obtain ⟨v, h, _⟩ := h; exact ⟨v, h⟩
theorem WT.good : ∀ {n : Nat} {b : Bool} {d : D}, WT n b d → Good n b d := by
  intro n b d h
  induction h with
  | @num n b i h1 h2 => exact ⟨_, .num, fun deep hd => vv_of (by omega) (by show (decide (0 ≤ i) && decide (i ≤ 999999)) = true; rw [decide_eq_true h1, decide_eq_true h2]; rfl) rfl rfl⟩
  | @word n b s k h1 =>
    obtain ⟨o, z⟩ := arV (ar_ok h1).le
    exact ⟨_, .word (ar_ok h1) z, fun deep hd => vv_of (by omega) (by rw [ar_some h1 z]; rfl) rfl rfl⟩
  | @name n b s h1 h2 =>
    refine ⟨_, .name ⟨by omega, ?_⟩, fun deep hd => vv_of (by omega) ?_ rfl rfl⟩
    · rcases h1 with h1 | h1 | h1
      · exact ok_nm h1
      · exact ok_of fun x hx => all_ok x (wd_all h1 x hx)
      · exact plain_ok s h1
    · show (isName s || (isWorded s greatS || decide (s ∈ plain))) = true
      rcases h1 with h1 | h1 | h1
      · rw [h1]; rfl
      · rw [h1, Bool.true_or, Bool.or_true]
      · rw [decide_eq_true h1, Bool.or_true, Bool.or_true]
  | @set n b s t h1 h2 ih =>
    obtain ⟨v, z, g⟩ := ih
    refine ⟨_, .set (f := fun _ => v) (nm_ok h1) z, fun deep hd => vv_of (by omega) h1 rfl ?_⟩
    exact List.all_eq_true.mpr fun x hx => g _ (by omega)
  | @send n b t s ts h1 h2 h3 h4 ih1 ih2 =>
    have hg : ∀ x ∈ t :: ts, Good n false x := fun x hx => (List.mem_cons.mp hx).elim (fun e => e ▸ ih1) (ih2 x)
    obtain ⟨f, hf⟩ := XT_fun fun x hx => (hg x hx).xt
    obtain ⟨o, z⟩ := arV (ar_ok h1).le
    exact ⟨_, .send (ar_ok h1) z h2 hf, fun deep hd => vv_of (by omega) (decide_eq_true (ar_some h1 z)) rfl (in_ok (deep := deep) hf hg (by omega) _ (by omega))⟩
  | @sup n b s ts h1 h2 h3 ih =>
    obtain ⟨f, hf⟩ := XT_fun fun x hx => (ih x hx).xt
    obtain ⟨o, z⟩ := arV (ar_ok h1).le
    exact ⟨_, .sup (ar_ok h1) z h2 hf, fun deep hd => vv_of (by omega) (decide_eq_true (ar_some h1 z)) rfl (in_ok (deep := deep) hf ih (by omega) _ (by omega))⟩
  | @blk n b ps ms bs h1 h2 h3 h4 h5 h6 ih =>
    obtain ⟨f, hf⟩ := XT_fun (xs := bs) fun x hx => by
      obtain ⟨j, hj, rfl⟩ := List.mem_iff_getElem.mp hx
      exact (ih j _ (List.getElem?_eq_getElem hj)).xt
    refine ⟨_, .blk (by omega) (by omega) (fun x hx => nm_ok (h3 x hx)) (by omega) hf, fun deep hd => vv_of (by omega) ?_ rfl (body_ok hf ih _ (by omega))⟩
    show (decide (ps.length ≤ 2) && nmV (ps ++ ms)) = true
    rw [decide_eq_true h1, nmV_ok h3 h4]; rfl
  | @back n t h2 ih =>
    obtain ⟨v, z, g⟩ := ih
    refine ⟨_, .back (f := fun _ => v) z, fun deep hd => vv_of (by omega) rfl rfl ?_⟩
    exact List.all_eq_true.mpr fun x hx => g _ (by omega)
/-- a method whose trees are none of them spoilt -/
def MG (n c : Nat) (d : D) (v : Bool) : Prop := ∃ (s : Str) (o : Option Nat) (ps ms : List Str) (bs : List D) (f : D → V3), d = .tup [.str s, .tup (ps.map D.str), .tup (ms.map D.str), .tup bs] ∧ SOk s ∧ ArV s o ∧ ps.length ≤ 3 ∧ ms.length ≤ 2 ∧ (∀ x ∈ ps ++ ms, SOk x) ∧ bs.length ≤ c ∧ (∀ x ∈ bs, XV n x (f x)) ∧
  v = (decide (o = some ps.length) && (nmV (ps ++ ms) && bodyV f bs 1))
theorem MethB.mg {N c : Nat} {d : D} (h : MethB N c d) (hN : N ≤ 12) : MG N c d true := by
  obtain ⟨s, ps, ms, bs, rfl, h1, h2, h3, h4, h5, h6, h7⟩ := h
  obtain ⟨o, z⟩ := arV (ar_ok h1).le
  have hg : ∀ (k : Nat) (x : D), bs[k]? = some x → Good N (decide (k + 1 = bs.length)) x := fun k x hk => (h7 k x hk).good
  obtain ⟨f, hf⟩ := XT_fun (xs := bs) fun x hx => by
    obtain ⟨j, hj, rfl⟩ := List.mem_iff_getElem.mp hx
    exact (hg j _ (List.getElem?_eq_getElem hj)).xt
  refine ⟨s, o, ps, ms, bs, f, rfl, ar_ok h1, z, h2, h3, fun x hx => nm_ok (h4 x hx), h6, hf, ?_⟩
  rw [decide_eq_true (ar_some h1 z), nmV_ok h4 h5, body_ok hf hg 1 (by omega)]
  rfl
theorem MG.mv {n c : Nat} {d : D} {v : Bool} (h : MG n c d v) (hc : c ≤ 6) : MV n d v := by
  obtain ⟨s, o, ps, ms, bs, f, rfl, h1, h2, h3, h4, h5, h6, h7, rfl⟩ := h
  exact .four h1 h2 (by omega) (by omega) h5 (by omega) h7
/-- of a method no tree is too deep -/
theorem MG.cap {n c : Nat} {d : D} (h : MG n c d true) : MG 12 c d true := by
  obtain ⟨s, o, ps, ms, bs, f, rfl, h1, h2, h3, h4, h5, h6, h7, hv⟩ := h
  refine ⟨s, o, ps, ms, bs, f, rfl, h1, h2, h3, h4, h5, h6, fun x hx => ?_, hv⟩
  have hv' := hv.symm
  simp only [Bool.and_eq_true] at hv'
  obtain ⟨b, z⟩ := bodyV_1 hv'.2.2 x hx
  exact (h7 x hx).cap z
end K10

namespace K10
open PySem L2 ML

theorem five_iff {s : Str} : s ∈ five ↔ s.length = 1 ∧ subIn s signS = true := by
  constructor
  · intro h
    have z : ∀ x ∈ five, x.length = 1 ∧ subIn x signS = true := by decide +kernel
    exact z s h
  · rintro ⟨h1, h2⟩
    obtain ⟨c, rfl⟩ := one_of h1
    rw [in_one, decide_eq_true_eq] at h2
    have z : ∀ c ∈ signS.cps.toList, oneStr c ∈ five := by decide +kernel
    exact z c h2
theorem split_mk (s : Str) : Txt.split s colS = (pcs s.cps.toList).map mk := by
  have e := TL.split_spl s colS (by show colS.cps.toList ≠ []; rw [col_tl]; simp) (TL.kind_ok (by decide +kernel))
  have e2 : (Txt.split s colS).map (fun x => mk (TL.tl x)) = (pcs s.cps.toList).map mk := by
    refine (List.map_map (f := TL.tl) (g := mk)).symm.trans ?_
    rw [e]
    show (TL.spl colS.cps.toList 0 [] s.cps.toList).map mk = _
    rw [col_tl]
    rfl
  rw [← e2]
  symm
  refine (List.map_congr_left fun x _ => mk_tl x).trans (List.map_id _)
theorem atI_last {α : Type} {xs : List α} {x : α} : atI (xs ++ [x]) (-1) = some x := by
  unfold atI ixN
  have e : (-1 + ((xs.length : Int) + 1)).toNat = xs.length := by omega
  have e2 : (1 : Int) ≤ (xs.length : Int) + 1 := by omega
  simp [e, e2]

/-! ### messages -/
theorem ar_cases {s : Str} {k : Nat} (h : Ar s k) : (isName s = true ∧ k = 0) ∨ (isName s = false ∧ s ∈ five ∧ k = 1) ∨
    (isName s = false ∧ s ∉ five ∧ 1 ≤ k ∧ k ≤ 3 ∧ ∃ ps, pcs s.cps.toList = ps ++ [[]] ∧ ps.length = k ∧ ∀ p ∈ ps, isName (mk p) = true) := by
  obtain ⟨_, ps, r, e, ha⟩ := h
  unfold arityD at ha
  split at ha
  · rename_i q
    exact .inl ⟨q, by have := D.int.inj ha; omega⟩
  · rename_i q
    have q : isName s = false := by simpa using q
    split at ha
    · rename_i q2
      exact .inr (.inl ⟨q, five_iff.mpr q2, by have := D.int.inj ha; omega⟩)
    · rename_i q2
      split at ha
      · rename_i q3
        have := D.int.inj ha
        refine .inr (.inr ⟨q, fun z => q2 (five_iff.mp z), by omega, by omega, ps, by rw [e, q3.1], by omega, List.all_eq_true.mp q3.2.2.2⟩)
      · cases ha
def rkOf (s : Str) : Nat := if isName s = true then 1 else if s ∈ five then 2 else 3
theorem rk_le (s : Str) : 1 ≤ rkOf s ∧ rkOf s ≤ 3 := by
  unfold rkOf
  split
  · decide
  · split <;> decide
/-- of a message its keywords, or itself -/
def hdW (s : Str) : List Str := if 58 ∈ s.cps.toList then (pcs s.cps.toList).dropLast.map (fun p => mk (p ++ [58])) else [s]
def zipW : List Str → List (List Str) → List Str
  | w :: ws, p :: ps => (w :: p) ++ zipW ws ps
  | _, _ => []
def laid (s : Str) (parts : List (List Str)) : List Str := if parts.isEmpty then [s] else zipW (hdW s) parts
theorem pcs_col {l : List Nat} {ps : List (List Nat)} {r : List Nat} (h : pcs l = ps ++ [r]) (hp : ps ≠ []) : 58 ∈ l := by
  apply Classical.byContradiction
  intro z
  rw [pcs_none z] at h
  cases ps with
  | nil => exact hp rfl
  | cons a ps => cases ps <;> simp at h
theorem pcs_ends : ∀ (n : Nat) {l : List Nat} {ps : List (List Nat)}, l.length ≤ n → pcs l = ps ++ [[]] → ps ≠ [] → ∃ l', l = l' ++ [58] := by
  intro n
  induction n with
  | zero =>
    intro l ps hl h hp
    have := pcs_col h hp
    cases l with
    | nil => cases this
    | cons _ _ => simp at hl
  | succ n ih =>
    intro l ps hl h hp
    obtain ⟨p, r, rfl, hq⟩ := first_of (pcs_col h hp)
    rw [pcs_cons hq] at h
    cases ps with
    | nil => exact absurd rfl hp
    | cons a ps =>
      rw [List.cons_append] at h
      injection h with _ h
      by_cases hr : ps = []
      · subst hr
        rw [List.nil_append] at h
        have : r = [] := by
          by_cases c : 58 ∈ r
          · obtain ⟨p', r', rfl, hq'⟩ := first_of c
            rw [pcs_cons hq'] at h
            injection h with _ h
            have : pcs r' ≠ [] := by
              by_cases c' : 58 ∈ r'
              · obtain ⟨p2, r2, rfl, hq2⟩ := first_of c'
                rw [pcs_cons hq2]; simp
              · rw [pcs_none c']; simp
            exact absurd h this
          · rw [pcs_none c] at h
            injection h
        subst this
        exact ⟨p, rfl⟩
      · obtain ⟨l', rfl⟩ := ih (l := r) (by rw [List.length_append, List.length_cons] at hl; omega) h hr
        exact ⟨p ++ 58 :: l', by simp⟩
theorem ends_col {l : List Nat} : Txt.endswith (mk (l ++ [58])) colS = true := by
  unfold Txt.endswith
  rw [PySem.StrLaws.subAt_eq, mk_len, col_len, col_tl, tl_mk, List.length_append]
  show (decide (0 + 1 ≤ l.length + 1) && (((l ++ [58]).drop (l.length + 1 - 1)).take 1 == [58])) = true
  rw [Nat.add_sub_cancel, List.drop_left, decide_eq_true (by omega)]
  rfl
theorem five_ends : ∀ s ∈ five, Txt.endswith s colS = false := by decide +kernel
theorem rankU {L k : Nat} {s : Str} {S : Store} (hL : 3 ≤ L) (hS : S.WF) (h : Ar s k) : Ups (sem T L 11 [.str s] S) S (.int (rkOf s : Int)) := by
  obtain ⟨l, rfl⟩ : ∃ n, L = n + 1 := ⟨L - 1, by omega⟩
  refine Gv.ups ?_
  show wpr (endF (evS (sem T l) (gvs T) f_rank_of.body [some (.str s)] S)) _ _
  rw [wrs_end]
  have ecol : Str.ofString ":" = colS := rfl
  simp only [f_rank_of, wrs_seqL, wS_asg, wS_ife, wS_ret, wS_nil, wS_exp, wE_cS, wE_cI, wE_cN, wE_cB, wE_call, wE_var, wE_glb, wE_bop, wE_idx, wE_lst, wE_tup, wE_blt, wE_met, wT_cmp, wT_and, wT_or, wT_nt, wT_one, wT_tru, wE_ite, wE_and, wE_or, wE_one, wE_nt, wE_cmp, wE_lc, wI_itr, wI_rng, wA_cons, wA_nil, wpO, wpF, List.set, List.getElem?_cons_zero, List.getElem?_cons_succ, Option.join_some, Bool.false_eq_true, if_false, if_true, wE_neg, wE_chn, wE_lset, wE_inW, wE_ixW, wS_fr, wS_rais, wT_chn, t_bl, later_nil, ecol]
  have hl : s.length ≤ 60 := h.1
  refine (nameU (by omega) hS (by omega)).wpr fun S1 G1 => ?_
  simp only [t_bl, wpO]
  cases q : isName s with
  | true =>
    rw [if_pos rfl]
    exact ⟨by unfold rkOf; rw [q]; rfl, G1⟩
  | false =>
    rw [if_neg Bool.false_ne_true]
    rw [later]
    simp only [wrs_seqL, wS_asg, wS_ife, wS_ret, wS_nil, wS_exp, wE_cS, wE_cI, wE_cN, wE_cB, wE_call, wE_var, wE_glb, wE_bop, wE_idx, wE_lst, wE_tup, wE_blt, wE_met, wT_cmp, wT_and, wT_or, wT_nt, wT_one, wT_tru, wE_ite, wE_and, wE_or, wE_one, wE_nt, wE_cmp, wE_lc, wI_itr, wI_rng, wA_cons, wA_nil, wpO, wpF, List.set, List.getElem?_cons_zero, List.getElem?_cons_succ, Option.join_some, Bool.false_eq_true, if_false, if_true, wE_neg, wE_chn, wE_lset, wE_inW, wE_ixW, wS_fr, wS_rais, wT_chn, t_bl, later_nil, ecol]
    refine ⟨rfl, ?_⟩
    have em : ∀ S, mfM false .endswith (.str s) [.str colS] S = .ok (.bl (Txt.endswith s colS)) S := fun S => rfl
    rw [em, wpr_ok]
    simp only [t_bl, wpO]
    rcases ar_cases h with ⟨z, _⟩ | ⟨_, h5, _⟩ | ⟨_, h5, k1, k3, ps, e, el, hp⟩
    · rw [q] at z; cases z
    · rw [five_ends s h5, if_neg Bool.false_ne_true]
      exact ⟨by unfold rkOf; rw [q, if_neg Bool.false_ne_true, if_pos h5]; rfl, G1⟩
    · obtain ⟨l', el'⟩ := pcs_ends _ (Nat.le_refl _) e (by intro z; rw [z] at el; simp at el; omega)
      have es : s = mk (l' ++ [58]) := by rw [← el', mk_tl]
      have : Txt.endswith s colS = true := by rw [es]; exact ends_col
      rw [this, if_pos rfl]
      exact ⟨by unfold rkOf; rw [q, if_neg Bool.false_ne_true, if_neg h5]; rfl, G1⟩
/-! ### words laid -/
def lw (ws : List Str) : D := .lst (ws.map D.str)
theorem zip_take : ∀ {ws : List Str} {ps : List (List Str)} {j : Nat} (h1 : j < ws.length) (h2 : j < ps.length), zipW (ws.take (j + 1)) (ps.take (j + 1)) = zipW (ws.take j) (ps.take j) ++ (ws[j] :: ps[j])
  | [], _, _, h1, _ => absurd h1 (Nat.not_lt_zero _)
  | _ :: _, [], _, _, h2 => absurd h2 (Nat.not_lt_zero _)
  | w :: ws, p :: ps, 0, _, _ => by simp [zipW]
  | w :: ws, p :: ps, j + 1, h1, h2 => by
    have := zip_take (ws := ws) (ps := ps) (j := j) (by simpa using h1) (by simpa using h2)
    simp only [List.take_succ_cons, zipW, List.getElem_cons_succ] at this ⊢
    rw [this, List.append_assoc]
theorem zip_len {M : Nat} : ∀ {ws : List Str} {ps : List (List Str)}, (∀ p ∈ ps, p.length ≤ M) → (zipW ws ps).length ≤ ps.length * (M + 1)
  | [], _, _ => by simp [zipW]
  | _ :: _, [], _ => by simp [zipW]
  | w :: ws, p :: ps, h => by
    have i := zip_len (M := M) (ws := ws) (ps := ps) fun q hq => h q (List.mem_cons_of_mem _ hq)
    have j := h p (List.mem_cons_self ..)
    simp only [zipW, List.length_append, List.length_cons] at i ⊢
    rw [Nat.succ_mul]
    omega
def pD (parts : List (List Str)) : D := .lst (parts.map lw)
theorem hd_len {s : Str} {k : Nat} (h : Ar s k) (hk : 1 ≤ k) : (hdW s).length = k := by
  rcases ar_cases h with ⟨_, z⟩ | ⟨_, h5, z⟩ | ⟨_, h5, k1, k3, ps, e, el, hp⟩
  · omega
  · have nc : ∀ s ∈ five, 58 ∉ s.cps.toList := by decide +kernel
    unfold hdW
    rw [if_neg (nc s h5), z]; rfl
  · unfold hdW
    rw [if_pos (pcs_col e (by intro z; rw [z] at el; simp at el; omega)), e, List.dropLast_concat, List.length_map, el]
theorem ix_nat {S : Store} {xs : List D} {j : Nat} (h : j < xs.length) : ixP S (.lst xs) (.int (j : Int)) = some xs[j] := by
  rw [ix_lst]; exact atI_nat' (List.getElem?_eq_getElem h)
theorem add_lw {S : Store} {xs ys : List D} (h : xs.length + ys.length ≤ 16000000) : binP S .Add (.lst xs) (.lst ys) = some (.newl (xs ++ ys)) := by
  show guardP (decide (xs.length + ys.length ≤ nMax)) _ = _
  rw [decide_eq_true (show xs.length + ys.length ≤ nMax from h)]
  rfl
end K10

namespace K10
open PySem L2 ML

theorem ext_loc {S : Store} {f : Nat} {xs ys : List D} (h : S.ob f = some (.lst xs)) (hl : xs.length + ys.length ≤ 16000000) : isTy S Mf.extend.ty (.loc f) = true ∧ mfM false .extend (.loc f) [.lst ys] S = .ok .non (S.set f (.lst (xs ++ ys))) := by
  constructor
  · show (("list" : String) == "list" && (obLst (S.ob f)).isSome) = true
    rw [h]
    rfl
  · show (match S.ob f with
      | some (.lst xs) => if xs.length + ys.length ≤ nMax then Rs.ok D.non (S.set f (.lst (xs ++ ys))) else .bad
      | _ => .bad) = _
    rw [h]
    exact if_pos hl
theorem app_loc {S : Store} {f : Nat} {xs : List D} {y : D} (h : S.ob f = some (.lst xs)) (hl : xs.length < 16000000) : isTy S Mf.append.ty (.loc f) = true ∧ mfM false .append (.loc f) [y] S = .ok .non (S.set f (.lst (xs ++ [y]))) := by
  constructor
  · show (("list" : String) == "list" && (obLst (S.ob f)).isSome) = true
    rw [h]
    rfl
  · show (match S.ob f with
      | some (.lst xs) => if xs.length < nMax then Rs.ok D.non (S.set f (.lst (xs ++ [y]))) else .bad
      | _ => .bad) = _
    rw [h]
    exact if_pos hl
theorem pD_len {parts : List (List Str)} : (parts.map lw).length = parts.length := List.length_map ..
theorem wordsOfU {L k : Nat} {s : Str} {S : Store} (hL : 1 ≤ L) (hS : S.WF) (h : Ar s k) (hk : 1 ≤ k) : ∃ ws : List Str, Ups (sem T L 3 [.str s] S) S (lw ws) ∧ (if ws.isEmpty then [s] else ws) = hdW s := by
  obtain ⟨n, rfl⟩ : ∃ n, L = n + 1 := ⟨L - 1, by omega⟩
  obtain ⟨ps, r, e, _, _, u⟩ := ok_words_of (n := n) (s := s) hS (by have := h.1; omega)
  rcases ar_cases h with ⟨_, z⟩ | ⟨_, h5, z⟩ | ⟨_, h5, k1, k3, ps', e', el, hp⟩
  · omega
  · have nc : ∀ s ∈ five, 58 ∉ s.cps.toList := by decide +kernel
    have ne : ∀ s ∈ five, s.cps.toList ≠ [] := by decide +kernel
    rw [pcs_none (nc s h5)] at e
    have : ps = [] ∧ r = s.cps.toList := by
      cases ps with
      | nil => simp at e; exact ⟨rfl, e.symm⟩
      | cons a ps => cases ps <;> simp at e
    obtain ⟨rfl, rfl⟩ := this
    rw [if_neg (ne s h5)] at u
    refine ⟨[], u, ?_⟩
    unfold hdW
    rw [if_neg (nc s h5)]; rfl
  · obtain ⟨rfl, er⟩ := List.append_inj' (e.symm.trans e') rfl
    have er : r = [] := by simpa using er
    subst er
    rw [if_pos rfl] at u
    refine ⟨ps.map fun p => mk (p ++ [58]), ?_, ?_⟩
    · unfold lw
      rw [List.map_map]
      exact u
    · have hne : ps ≠ [] := by intro z; rw [z] at el; simp at el; omega
      unfold hdW
      rw [if_pos (pcs_col e hne), e, List.dropLast_concat]
      cases ps with
      | nil => exact absurd rfl hne
      | cons _ _ => rfl
theorem laidU {L k M : Nat} {s : Str} {parts : List (List Str)} {S : Store} (hL : 3 ≤ L) (hS : S.WF) (h : Ar s k) (hp : parts.length = k) (hk3 : k ≤ 3) (hM : ∀ p ∈ parts, p.length ≤ M) (hB : M ≤ 1000000) : Ups (sem T L 13 [.str s, pD parts] S) S (lw (laid s parts)) := by
  obtain ⟨l, rfl⟩ : ∃ n, L = n + 1 := ⟨L - 1, by omega⟩
  refine Gv.ups ?_
  show wpr (endF (evS (sem T l) (gvs T) f_laid_words.body [some (.str s), some (pD parts), none, none, none] S)) _ _
  rw [wrs_end]
  simp only [f_laid_words, wrs_seqL, wS_asg, wS_ife, wS_ret, wS_nil, wS_exp, wE_cS, wE_cI, wE_cN, wE_cB, wE_call, wE_var, wE_glb, wE_bop, wE_idx, wE_lst, wE_tup, wE_blt, wE_met, wT_cmp, wT_and, wT_or, wT_nt, wT_one, wT_tru, wE_ite, wE_and, wE_or, wE_one, wE_nt, wE_cmp, wE_lc, wI_itr, wI_rng, wA_cons, wA_nil, wpO, wpF, List.set, List.getElem?_cons_zero, List.getElem?_cons_succ, Option.join_some, Bool.false_eq_true, if_false, if_true, wE_neg, wE_chn, wE_lset, wE_inW, wE_ixW, wS_fr, wS_rais, wT_chn, t_bl, later_nil, pD, t_lst]
  cases parts with
  | nil =>
    simp only [List.map_nil, List.isEmpty_nil, Bool.not_true, Bool.not_false, if_true, nl1, true_and]
    exact ⟨rfl, .refl hS⟩
  | cons p0 ps0 =>
    generalize hq : p0 :: ps0 = parts at *
    have hne : parts ≠ [] := by rw [← hq]; simp
    have hemp : (parts.map lw).isEmpty = false := by rw [← hq]; rfl
    have hk1 : 1 ≤ k := by rw [← hp, ← hq]; simp
    rw [hemp]
    simp only [Bool.not_false, Bool.not_true, Bool.false_eq_true, if_false]
    rw [later]
    obtain ⟨ws, u, ew⟩ := wordsOfU (L := l) (by omega) hS h hk1
    simp only [wrs_seqL, wS_asg, wS_ife, wS_ret, wS_nil, wS_exp, wE_cS, wE_cI, wE_cN, wE_cB, wE_call, wE_var, wE_glb, wE_bop, wE_idx, wE_lst, wE_tup, wE_blt, wE_met, wT_cmp, wT_and, wT_or, wT_nt, wT_one, wT_tru, wE_ite, wE_and, wE_or, wE_one, wE_nt, wE_cmp, wE_lc, wI_itr, wI_rng, wA_cons, wA_nil, wpO, wpF, List.set, List.getElem?_cons_zero, List.getElem?_cons_succ, Option.join_some, Bool.false_eq_true, if_false, if_true, wE_neg, wE_chn, wE_lset, wE_inW, wE_ixW, wS_fr, wS_rais, wT_chn, t_bl, later_nil]
    refine u.wpr fun S1 G1 => ?_
    simp only [lw, t_lst, wpO]
    have hdl := hd_len h hk1
    have key : ∀ d : D, d = lw (hdW s) → Later (sem T l) (gvs T) (.seq (.asg 3 (.lst true (.nil))) (.seq (.fr 4 (.rng (.blt false .len (.cons (.var 2) (.nil)))) (.seq (.exp (.met false .extend (.var 3) (.cons (.bop false .Add (.lst false (.cons (.idx (.var 2) (.var 4)) (.nil))) (.idx (.var 1) (.var 4))) (.nil)))) (.nil))) (.seq (.ret (.frz (.var 3))) (.nil)))) (fun _ => Gv (lw (laid s parts)) S .non) (Gv (lw (laid s parts)) S) (fun _ _ _ => False) [some (.str s), some (.lst (parts.map lw)), some d, none, none] S1 := by
      rintro d rfl
      rw [later]
      simp only [wrs_seqL, wS_asg, wS_ife, wS_ret, wS_nil, wS_exp, wE_cS, wE_cI, wE_cN, wE_cB, wE_call, wE_var, wE_glb, wE_bop, wE_idx, wE_lst, wE_tup, wE_blt, wE_met, wT_cmp, wT_and, wT_or, wT_nt, wT_one, wT_tru, wE_ite, wE_and, wE_or, wE_one, wE_nt, wE_cmp, wE_lc, wI_itr, wI_rng, wA_cons, wA_nil, wpO, wpF, List.set, List.getElem?_cons_zero, List.getElem?_cons_succ, Option.join_some, Bool.false_eq_true, if_false, if_true, wE_neg, wE_chn, wE_lset, wE_inW, wE_ixW, wS_fr, wS_rais, wT_chn, t_bl, later_nil, nl0, true_and]
      rw [later]
      simp only [wrs_seqL, wS_asg, wS_ife, wS_ret, wS_nil, wS_exp, wE_cS, wE_cI, wE_cN, wE_cB, wE_call, wE_var, wE_glb, wE_bop, wE_idx, wE_lst, wE_tup, wE_blt, wE_met, wT_cmp, wT_and, wT_or, wT_nt, wT_one, wT_tru, wE_ite, wE_and, wE_or, wE_one, wE_nt, wE_cmp, wE_lc, wI_itr, wI_rng, wA_cons, wA_nil, wpO, wpF, List.set, List.getElem?_cons_zero, List.getElem?_cons_succ, Option.join_some, Bool.false_eq_true, if_false, if_true, wE_neg, wE_chn, wE_lset, wE_inW, wE_ixW, wS_fr, wS_rais, wT_chn, t_bl, later_nil, lw, b_len_lst, List.length_map]
      refine ⟨⟨Int.le_trans (by omega : ((hdW s).length : Int) ≤ 3) (by decide), Int.le_trans (by decide) (by omega : (0 : Int) ≤ ((hdW s).length : Int))⟩, ?_⟩
      refine wrs_for (fun j env S' => (∃ v, env = [some (.str s), some (.lst (parts.map lw)), some (lw (hdW s)), some (.loc S1.nx), v]) ∧ Gr S1 S' ∧ S1.nx < S'.nx ∧ S'.ob S1.nx = some (.lst ((zipW ((hdW s).take j) (parts.take j)).map D.str))) ⟨⟨_, rfl⟩, Gr.new G1.wf, Nat.lt_succ_self _, by rw [Store.new_ob]; simp [zipW]⟩ ?_ ?_
      · rintro j x env S' hj ⟨⟨v, rfl⟩, G, nx, ob⟩
        have hj' : j < (hdW s).length := by
          have := (List.getElem?_eq_some_iff.mp hj).1
          rw [intL_len] at this
          omega
        have hj2 : j < parts.length := by omega
        have hx : x = .int (j : Int) := by
          unfold intL at hj
          rw [List.getElem?_map, List.getElem?_range (by omega)] at hj
          have := Option.some.inj hj
          rw [← this]
          simp
        subst hx
        simp only [wrs_seqL, wS_asg, wS_ife, wS_ret, wS_nil, wS_exp, wE_cS, wE_cI, wE_cN, wE_cB, wE_call, wE_var, wE_glb, wE_bop, wE_idx, wE_lst, wE_tup, wE_blt, wE_met, wT_cmp, wT_and, wT_or, wT_nt, wT_one, wT_tru, wE_ite, wE_and, wE_or, wE_one, wE_nt, wE_cmp, wE_lc, wI_itr, wI_rng, wA_cons, wA_nil, wpO, wpF, List.set, List.getElem?_cons_zero, List.getElem?_cons_succ, Option.join_some, Bool.false_eq_true, if_false, if_true, wE_neg, wE_chn, wE_lset, wE_inW, wE_ixW, wS_fr, wS_rais, wT_chn, t_bl, later_nil, lw]
        have e1 : ∀ S, ixP S (.lst ((hdW s).map D.str)) (.int (j : Int)) = some (.str (hdW s)[j]) := fun S => by rw [ix_nat (by rw [List.length_map]; exact hj')]; simp
        have e2 : ∀ S, ixP S (.lst (parts.map lw)) (.int (j : Int)) = some (lw parts[j]) := fun S => by rw [ix_nat (by rw [List.length_map]; exact hj2)]; simp
        have hpl := hM _ (List.getElem_mem hj2)
        have hzl : (zipW ((hdW s).take j) (parts.take j)).length ≤ 3 * (M + 1) := Nat.le_trans (zip_len fun p hp => hM p (List.mem_of_mem_take hp)) (Nat.mul_le_mul_right _ (by rw [List.length_take]; omega))
        have ex := ext_loc (ys := ((hdW s)[j] :: parts[j]).map D.str) ob (by rw [List.length_map, List.length_map, List.length_cons]; omega)
        refine ⟨ex.1, ?_⟩
        simp only [e1, e2, wpO, lw, nl1, true_and]
        rw [add_lw (by rw [List.length_map]; show 1 + _ ≤ _; omega)]
        simp only [wpF]
        rw [show [D.str (hdW s)[j]] ++ (parts[j]).map D.str = ((hdW s)[j] :: parts[j]).map D.str from rfl, ex.2, wpr_ok]
        refine ⟨⟨_, rfl⟩, G.set (Nat.le_refl _) nx, nx, ?_⟩
        rw [Store.set_ob, zip_take hj' hj2, List.map_append]
      · rintro env S' ⟨⟨v, rfl⟩, G, nx, ob⟩
        rw [later]
        simp only [wE_frz, wrs_seqL, wS_asg, wS_ife, wS_ret, wS_nil, wS_exp, wE_cS, wE_cI, wE_cN, wE_cB, wE_call, wE_var, wE_glb, wE_bop, wE_idx, wE_lst, wE_tup, wE_blt, wE_met, wT_cmp, wT_and, wT_or, wT_nt, wT_one, wT_tru, wE_ite, wE_and, wE_or, wE_one, wE_nt, wE_cmp, wE_lc, wI_itr, wI_rng, wA_cons, wA_nil, wpO, wpF, List.set, List.getElem?_cons_zero, List.getElem?_cons_succ, Option.join_some, Bool.false_eq_true, if_false, if_true, wE_neg, wE_chn, wE_lset, wE_inW, wE_ixW, wS_fr, wS_rais, wT_chn, t_bl, later_nil, ob, obl]
        refine ⟨?_, (G1.trans G).del G1.nx⟩
        rw [intL_len, Int.toNat_natCast, List.take_length, hdl, ← hp, List.take_length]
        unfold laid
        have : parts.isEmpty = false := by rw [← hq]; rfl
        rw [this]; rfl
    cases qw : ws.isEmpty with
    | true =>
      rw [qw] at ew
      have : (ws.map D.str).isEmpty = true := by cases ws with | nil => rfl | cons _ _ => cases qw
      rw [this]
      simp only [Bool.not_true, Bool.false_eq_true, if_false, nl1, true_and]
      exact key _ (by rw [← ew]; rfl)
    | false =>
      rw [qw] at ew
      have : (ws.map D.str).isEmpty = false := by cases ws with | nil => cases qw | cons _ _ => rfl
      rw [this]
      simp only [Bool.not_false, if_true]
      exact key _ (by rw [← ew]; rfl)
end K10

namespace K10
open PySem L2 ML

theorem col_app {s : Str} : colS ++ s = mk (58 :: s.cps.toList) := TL.ext_tl (by rw [TL.tl_append]; show colS.cps.toList ++ s.cps.toList = _; rw [col_tl]; rfl)
theorem lawLaidU {L k M : Nat} {s : Str} {parts : List (List Str)} {S : Store} (hL : 1 ≤ L) (hS : S.WF) (h : Ar s k) (hp : parts.length = k) (hk3 : k ≤ 3) (hM : ∀ p ∈ parts, p.length ≤ M) (hB : M ≤ 1000000) : Ups (sem T L 33 [.str s, pD parts] S) S (lw (laid s parts)) := by
  obtain ⟨l, rfl⟩ : ∃ n, L = n + 1 := ⟨L - 1, by omega⟩
  refine Gv.ups ?_
  show wpr (endF (evS (sem T l) (gvs T) f_law_laid.body [some (.str s), some (pD parts), none, none] S)) _ _
  rw [wrs_end]
  have ecol : Str.ofString ":" = colS := rfl
  have hsl := h.1
  simp only [f_law_laid, wrs_seqL, wS_asg, wS_ife, wS_ret, wS_nil, wS_exp, wE_cS, wE_cI, wE_cN, wE_cB, wE_call, wE_var, wE_glb, wE_bop, wE_idx, wE_lst, wE_tup, wE_blt, wE_met, wT_cmp, wT_and, wT_or, wT_nt, wT_one, wT_tru, wE_ite, wE_and, wE_or, wE_one, wE_nt, wE_cmp, wE_lc, wI_itr, wI_rng, wA_cons, wA_nil, wpO, wpF, List.set, List.getElem?_cons_zero, List.getElem?_cons_succ, Option.join_some, Bool.false_eq_true, if_false, if_true, wE_neg, wE_chn, wE_lset, wE_inW, wE_ixW, wS_fr, wS_rais, wT_chn, t_bl, later_nil, ecol, c_notin_str, in_col, pD, t_lst]
  rcases ar_cases h with ⟨hn, z⟩ | ⟨_, h5, z⟩ | ⟨_, h5, k1, k3, ps, e, el, hps⟩
  · rw [decide_eq_false (name_nocol hn)]
    simp only [Bool.not_false, if_true, nl1, true_and]
    have : parts = [] := List.length_eq_zero_iff.mp (by omega)
    subst this
    simp only [List.map_nil, List.isEmpty_nil, Bool.not_true, Bool.false_eq_true, if_false, nl0, true_and]
    rw [add_lw (by show 1 + 0 ≤ 16000000; decide)]
    simp only [wpF]
    exact ⟨rfl, .refl hS⟩
  · have nc : ∀ s ∈ five, 58 ∉ s.cps.toList := by decide +kernel
    rw [decide_eq_false (nc s h5)]
    simp only [Bool.not_false, if_true, nl1, true_and]
    cases parts with
    | nil => simp at hp; omega
    | cons p ps =>
      have : ps = [] := List.length_eq_zero_iff.mp (by simp at hp; omega)
      subst this
      have hpl := hM p (List.mem_cons_self ..)
      simp only [List.map_cons, List.map_nil, List.isEmpty_cons, Bool.not_false, if_true, ix_lst, at1_0, wpO, lw]
      rw [add_lw (by rw [List.length_map]; show 1 + _ ≤ _; omega)]
      simp only [wpF]
      refine ⟨?_, .refl hS⟩
      unfold laid hdW
      rw [if_neg (nc s h5)]
      simp [zipW, lw]
  · have hne : ps ≠ [] := by intro z; rw [z] at el; simp at el; omega
    rw [decide_eq_true (pcs_col e hne)]
    simp only [Bool.not_true, Bool.false_eq_true, if_false]
    rw [later]
    simp only [wrs_seqL, wS_asg, wS_ife, wS_ret, wS_nil, wS_exp, wE_cS, wE_cI, wE_cN, wE_cB, wE_call, wE_var, wE_glb, wE_bop, wE_idx, wE_lst, wE_tup, wE_blt, wE_met, wT_cmp, wT_and, wT_or, wT_nt, wT_one, wT_tru, wE_ite, wE_and, wE_or, wE_one, wE_nt, wE_cmp, wE_lc, wI_itr, wI_rng, wA_cons, wA_nil, wpO, wpF, List.set, List.getElem?_cons_zero, List.getElem?_cons_succ, Option.join_some, Bool.false_eq_true, if_false, if_true, wE_neg, wE_chn, wE_lset, wE_inW, wE_ixW, wS_fr, wS_rais, wT_chn, t_bl, later_nil, nl0, true_and]
    rw [later]
    simp only [wrs_seqL, wS_asg, wS_ife, wS_ret, wS_nil, wS_exp, wE_cS, wE_cI, wE_cN, wE_cB, wE_call, wE_var, wE_glb, wE_bop, wE_idx, wE_lst, wE_tup, wE_blt, wE_met, wT_cmp, wT_and, wT_or, wT_nt, wT_one, wT_tru, wE_ite, wE_and, wE_or, wE_one, wE_nt, wE_cmp, wE_lc, wI_itr, wI_rng, wA_cons, wA_nil, wpO, wpF, List.set, List.getElem?_cons_zero, List.getElem?_cons_succ, Option.join_some, Bool.false_eq_true, if_false, if_true, wE_neg, wE_chn, wE_lset, wE_inW, wE_ixW, wS_fr, wS_rais, wT_chn, t_bl, later_nil, b_len_lst, List.length_map]
    have hdl := hd_len h k1
    have hhd : hdW s = ps.map fun p => mk (p ++ [58]) := by unfold hdW; rw [if_pos (pcs_col e hne), e, List.dropLast_concat]
    refine ⟨⟨Int.le_trans (by omega : (parts.length : Int) ≤ 3) (by decide), Int.le_trans (by decide) (by omega : (0 : Int) ≤ (parts.length : Int))⟩, ?_⟩
    refine wrs_for (fun j env S' => (∃ v, env = [some (.str s), some (.lst (parts.map lw)), some (lw (zipW ((hdW s).take j) (parts.take j))), v]) ∧ Gr S S') ⟨⟨_, rfl⟩, .refl hS⟩ ?_ ?_
    · rintro j x env S' hj ⟨⟨v, rfl⟩, G⟩
      have hj2 : j < parts.length := by
        have := (List.getElem?_eq_some_iff.mp hj).1
        rw [intL_len] at this
        omega
      have hj' : j < (hdW s).length := by omega
      have hx : x = .int (j : Int) := by
        unfold intL at hj
        rw [List.getElem?_map, List.getElem?_range (by omega)] at hj
        have := Option.some.inj hj
        rw [← this]
        simp
      subst hx
      have hjp : j < ps.length := by omega
      have em : ∀ S, mfM false .split (.str s) [.str colS] S = .ok (.lst ((ps.map mk ++ [mk []]).map D.str)) S := fun S => by
        show finO false (if (colS.length == 0) = false ∧ s.length + 2 ≤ nMax then some (PR.newl ((Txt.split s colS).map .str)) else none) S = _
        rw [if_pos ⟨by rw [col_len]; rfl, Nat.le_trans (by omega : s.length + 2 ≤ 1000) (by decide)⟩, split_mk, e, List.map_append]
        rfl
      simp only [wrs_seqL, wS_asg, wS_ife, wS_ret, wS_nil, wS_exp, wE_cS, wE_cI, wE_cN, wE_cB, wE_call, wE_var, wE_glb, wE_bop, wE_idx, wE_lst, wE_tup, wE_blt, wE_met, wT_cmp, wT_and, wT_or, wT_nt, wT_one, wT_tru, wE_ite, wE_and, wE_or, wE_one, wE_nt, wE_cmp, wE_lc, wI_itr, wI_rng, wA_cons, wA_nil, wpO, wpF, List.set, List.getElem?_cons_zero, List.getElem?_cons_succ, Option.join_some, Bool.false_eq_true, if_false, if_true, wE_neg, wE_chn, wE_lset, wE_inW, wE_ixW, wS_fr, wS_rais, wT_chn, t_bl, later_nil, ecol]
      refine ⟨rfl, ?_⟩
      rw [em, wpr_ok]
      have e1 : ∀ S, ixP S (.lst ((ps.map mk ++ [mk []]).map D.str)) (.int (j : Int)) = some (.str (mk ps[j])) := fun S => by
        rw [ix_nat (by simp; omega)]
        simp [List.getElem_append_left, hjp]
      have e2 : ∀ S, ixP S (.lst (parts.map lw)) (.int (j : Int)) = some (lw parts[j]) := fun S => by rw [ix_nat (by rw [List.length_map]; exact hj2)]; simp
      have hpn := name_len (hps _ (List.getElem_mem hjp))
      simp only [e1, e2, wpO]
      rw [add_str (by rw [col_len]; omega)]
      simp only [wpF, ap_col, nl1, true_and, lw]
      have hpl := hM _ (List.getElem_mem hj2)
      have hzl : (zipW ((hdW s).take j) (parts.take j)).length ≤ 3 * (M + 1) := Nat.le_trans (zip_len fun p hp => hM p (List.mem_of_mem_take hp)) (Nat.mul_le_mul_right _ (by rw [List.length_take]; omega))
      rw [add_lw (by rw [List.length_map]; show _ + 1 ≤ _; omega)]
      simp only [wpF]
      rw [add_lw (by rw [List.length_append, List.length_map, List.length_map]; show _ + 1 + _ ≤ _; omega)]
      simp only [wpF]
      refine ⟨⟨some (.int (j : Int)), ?_⟩, G⟩
      rw [zip_take hj' hj2]
      have : (hdW s)[j] = mk (ps[j] ++ [58]) := by
        have : (hdW s)[j]? = some (mk (ps[j] ++ [58])) := by rw [hhd, List.getElem?_map, List.getElem?_eq_getElem hjp]; rfl
        exact (List.getElem?_eq_some_iff.mp this).2
      rw [this]
      simp [lw]
    · rintro env S' ⟨⟨v, rfl⟩, G⟩
      rw [later]
      simp only [wrs_seqL, wS_asg, wS_ife, wS_ret, wS_nil, wS_exp, wE_cS, wE_cI, wE_cN, wE_cB, wE_call, wE_var, wE_glb, wE_bop, wE_idx, wE_lst, wE_tup, wE_blt, wE_met, wT_cmp, wT_and, wT_or, wT_nt, wT_one, wT_tru, wE_ite, wE_and, wE_or, wE_one, wE_nt, wE_cmp, wE_lc, wI_itr, wI_rng, wA_cons, wA_nil, wpO, wpF, List.set, List.getElem?_cons_zero, List.getElem?_cons_succ, Option.join_some, Bool.false_eq_true, if_false, if_true, wE_neg, wE_chn, wE_lset, wE_inW, wE_ixW, wS_fr, wS_rais, wT_chn, t_bl, later_nil]
      refine ⟨?_, G⟩
      rw [intL_len, Int.toNat_natCast, List.take_length, hp, ← hdl, List.take_length]
      unfold laid
      have : parts.isEmpty = false := by cases parts with | nil => simp at hp; omega | cons _ _ => rfl
      rw [this]; rfl
/-! ### trees and their words -/
abbrev W2 := List Str × Nat
def br (w : W2) (most : Nat) : List Str := if most < w.2 then [Str.ofString "("] ++ w.1 ++ [Str.ofString ")"] else w.1
def preW (ws : List (List Str)) : Nat → List Str
  | 0 => []
  | j + 1 => preW ws j ++ ((if 0 < j then [Str.ofString "."] else []) ++ ws.getD j [])
def topW (ms : List Str) : List Str := if ms.isEmpty then [] else [Str.ofString "|"] ++ ms ++ [Str.ofString "|"]
def rowW (f : D → W2) (ms : List Str) (bs : List D) : List Str := topW ms ++ preW (bs.map fun x => (f x).1) bs.length
def parW (ps : List Str) : List Str := ps.map (fun p => colS ++ p) ++ (if ps.isEmpty then [] else [Str.ofString "|"])
inductive WV : Nat → Bool → D → W2 → Prop
  | num {n : Nat} {b : Bool} {i : Int} : 0 ≤ i → i ≤ 999999 → WV (n + 1) b (.tup [.str "number", .int i]) ([Str.ofString (toString i)], 0)
  | word {n : Nat} {b : Bool} {s : Str} {k : Nat} : Ar s k → WV (n + 1) b (.tup [.str "word", .str s]) ([Str.ofString "#" ++ s], 0)
  | name {n : Nat} {b : Bool} {s : Str} : s.length ≤ 12 → WV (n + 1) b (.tup [.str "name", .str s]) ([s], 0)
  | set {n : Nat} {b : Bool} {s : Str} {t : D} {w : W2} : isName s = true → WV n false t w → WV (n + 1) b (.tup [.str "set", .str s, t]) ([s, Str.ofString ":="] ++ w.1, 4)
  | send {n : Nat} {b : Bool} {t : D} {s : Str} {ts : List D} {w : W2} {f : D → W2} : Ar s ts.length → ts.length ≤ 3 → WV n false t w → (∀ x ∈ ts, WV n false x (f x)) →
      WV (n + 1) b (.tup [.str "send", t, .str s, .tup ts]) (br w (min (rkOf s) 2) ++ laid s (ts.map fun x => br (f x) (rkOf s - 1)), rkOf s)
  | sup {n : Nat} {b : Bool} {s : Str} {ts : List D} {f : D → W2} : Ar s ts.length → ts.length ≤ 3 → (∀ x ∈ ts, WV n false x (f x)) →
      WV (n + 1) b (.tup [.str "super", .str s, .tup ts]) ([Str.ofString "super"] ++ laid s (ts.map fun x => br (f x) (rkOf s - 1)), rkOf s)
  | blk {n : Nat} {b : Bool} {ps ms : List Str} {bs : List D} {f : D → W2} : ps.length ≤ 2 → ms.length ≤ 2 → (∀ x ∈ ps ++ ms, isName x = true) → bs.length ≤ 4 →
      (∀ (k : Nat) (x : D), bs[k]? = some x → WV n (decide (k + 1 = bs.length)) x (f x)) → WV (n + 1) b (.tup [.str "block", .tup (ps.map D.str), .tup (ms.map D.str), .tup bs]) ([Str.ofString "["] ++ parW ps ++ rowW f ms bs ++ [Str.ofString "]"], 0)
  | back {n : Nat} {t : D} {w : W2} : WV n false t w → WV (n + 1) true (.tup [.str "back", t]) ([Str.ofString "^"] ++ w.1, 0)
theorem WV.any {n : Nat} {b : Bool} {d : D} {w : W2} (h : WV n false d w) : WV n b d w := by
  cases h with
  | num a b => exact .num a b
  | word a => exact .word a
  | name a => exact .name a
  | set a b => exact .set a b
  | send a b c d => exact .send a b c d
  | sup a b c => exact .sup a b c
  | blk a b c d e => exact .blk a b c d e
theorem WV_fun {n : Nat} {xs : List D} (h : ∀ x ∈ xs, ∃ w, WV n false x w) : ∃ f : D → W2, ∀ x ∈ xs, WV n false x (f x) := by
  classical
  refine ⟨fun x => if q : ∃ w, WV n false x w then Classical.choose q else ([], 0), fun x hx => ?_⟩
  have q := h x hx
  simp only [dif_pos q]
  exact Classical.choose_spec q
theorem WV_row {n : Nat} {bs : List D} (h : ∀ (k : Nat) (x : D), bs[k]? = some x → ∃ w, WV n (decide (k + 1 = bs.length)) x w) : ∃ f : D → W2, ∀ (k : Nat) (x : D), bs[k]? = some x → WV n (decide (k + 1 = bs.length)) x (f x) := by
  classical
  refine ⟨fun x => if q : ∃ w, WV n false x w then Classical.choose q else if q : ∃ w, WV n true x w then Classical.choose q else ([], 0), fun k x hx => ?_⟩
  have q := h k x hx
  by_cases q1 : ∃ w, WV n false x w
  · simp only [dif_pos q1]
    exact (Classical.choose_spec q1).any
  · simp only [dif_neg q1]
    cases z : decide (k + 1 = bs.length) with
    | false => rw [z] at q; exact absurd q q1
    | true =>
      rw [z] at q
      simp only [dif_pos q]
      exact Classical.choose_spec q
theorem WT.wv {n : Nat} {b : Bool} {d : D} (h : WT n b d) : ∃ w, WV n b d w := by
  induction h with
  | num a b => exact ⟨_, .num a b⟩
  | word a => exact ⟨_, .word a⟩
  | name a b => exact ⟨_, .name b⟩
  | set a b ih => obtain ⟨w, z⟩ := ih; exact ⟨_, .set a z⟩
  | send a b c d ih1 ih2 => obtain ⟨w, z⟩ := ih1; obtain ⟨f, hf⟩ := WV_fun ih2; exact ⟨_, .send a b z hf⟩
  | sup a b c ih => obtain ⟨f, hf⟩ := WV_fun ih; exact ⟨_, .sup a b hf⟩
  | blk a b c d e f ih => obtain ⟨g, hg⟩ := WV_row ih; exact ⟨_, .blk a b c e hg⟩
  | back a ih => obtain ⟨w, z⟩ := ih; exact ⟨_, .back z⟩
end K10

namespace K10
open PySem L2 ML

/-! ### how many words -/
def Q4 (n : Nat) : Nat := 14 * 4 ^ n
theorem Q4_up (n : Nat) : Q4 (n + 1) = 4 * Q4 n := by unfold Q4; rw [Nat.pow_succ]; omega
theorem Q4_ge (n : Nat) : 14 ≤ Q4 n := by
  induction n with
  | zero => decide
  | succ n ih => rw [Q4_up]; omega
theorem br_len {w : W2} {m : Nat} : (br w m).length ≤ w.1.length + 2 := by
  unfold br
  split
  · simp
  · omega
theorem laid_len {s : Str} {parts : List (List Str)} {M : Nat} (h : ∀ p ∈ parts, p.length ≤ M) : (laid s parts).length ≤ 1 + parts.length * (M + 1) := by
  unfold laid
  split
  · simp
  · have := zip_len (ws := hdW s) h
    omega
theorem pre_len {ws : List (List Str)} {M : Nat} (h : ∀ p ∈ ws, p.length ≤ M) : ∀ j, (preW ws j).length ≤ j * (M + 1)
  | 0 => by simp [preW]
  | j + 1 => by
    have i := pre_len h j
    have e : (ws.getD j []).length ≤ M := by
      rw [List.getD_eq_getElem?_getD]
      cases q : ws[j]? with
      | none => simp
      | some p => exact h p (List.mem_of_getElem? q)
    have e2 : (if 0 < j then [Str.ofString "."] else []).length ≤ 1 := by split <;> simp
    unfold preW
    rw [List.length_append, List.length_append, Nat.succ_mul]
    omega
theorem top_len {ms : List Str} : (topW ms).length ≤ ms.length + 2 := by
  unfold topW
  split
  · simp
  · simp
theorem par_len {ps : List Str} : (parW ps).length ≤ ps.length + 1 := by
  unfold parW
  rw [List.length_append, List.length_map]
  split <;> simp
theorem wv_len : ∀ {n : Nat} {b : Bool} {d : D} {w : W2}, WV (n + 1) b d w → w.1.length + 5 ≤ Q4 n := by
  intro n
  induction n with
  | zero =>
    intro b d w h
    cases h with
    | num _ _ => show 1 + 5 ≤ 14; decide
    | word _ => show 1 + 5 ≤ 14; decide
    | name _ => show 1 + 5 ≤ 14; decide
    | set _ h => cases h
    | back h => cases h
    | send _ _ h _ => cases h
    | @sup _ _ s ts f h1 h2 h3 =>
      have : ts = [] := by cases ts with
        | nil => rfl
        | cons x xs => have := h3 x (List.mem_cons_self ..); cases this
      subst this
      show 1 + 1 + 5 ≤ 14; decide
    | @blk _ _ ps ms bs f h1 h2 h3 h4 h5 =>
      have : bs = [] := by cases bs with
        | nil => rfl
        | cons x xs => have := h5 0 x rfl; cases this
      subst this
      have a := par_len (ps := ps)
      have c := top_len (ms := ms)
      unfold rowW
      simp only [List.length_append, List.length_cons, List.length_nil, preW]
      show _ ≤ 14
      omega
  | succ n ih =>
    intro b d w h
    have q := Q4_ge n
    rw [Q4_up]
    cases h with
    | num _ _ => show 1 + 5 ≤ _; omega
    | word _ => show 1 + 5 ≤ _; omega
    | name _ => show 1 + 5 ≤ _; omega
    | set _ h => have := ih h; simp only [List.length_append, List.length_cons, List.length_nil]; omega
    | back h => have := ih h; simp only [List.length_append, List.length_cons, List.length_nil]; omega
    | @send _ _ t s ts w f h1 h2 h3 h4 =>
      have a := ih h3
      have c := br_len (w := w) (m := min (rkOf s) 2)
      have e := laid_len (s := s) (parts := ts.map fun x => br (f x) (rkOf s - 1)) (M := Q4 n - 3) fun p hp => by
        obtain ⟨x, hx, rfl⟩ := List.mem_map.mp hp
        have := ih (h4 x hx)
        have := br_len (w := f x) (m := rkOf s - 1)
        omega
      rw [List.length_map] at e
      have e2 : ts.length * (Q4 n - 3 + 1) ≤ 3 * (Q4 n - 3 + 1) := Nat.mul_le_mul_right _ h2
      rw [List.length_append]
      omega
    | @sup _ _ s ts f h1 h2 h4 =>
      have e := laid_len (s := s) (parts := ts.map fun x => br (f x) (rkOf s - 1)) (M := Q4 n - 3) fun p hp => by
        obtain ⟨x, hx, rfl⟩ := List.mem_map.mp hp
        have := ih (h4 x hx)
        have := br_len (w := f x) (m := rkOf s - 1)
        omega
      rw [List.length_map] at e
      have e2 : ts.length * (Q4 n - 3 + 1) ≤ 3 * (Q4 n - 3 + 1) := Nat.mul_le_mul_right _ h2
      rw [List.length_append]
      show 1 + _ + 5 ≤ _
      omega
    | @blk _ _ ps ms bs f h1 h2 h3 h4 h5 =>
      have a := par_len (ps := ps)
      have c := top_len (ms := ms)
      have e := pre_len (ws := bs.map fun x => (f x).1) (M := Q4 n - 5) (fun p hp => by
        obtain ⟨x, hx, rfl⟩ := List.mem_map.mp hp
        obtain ⟨k, hk⟩ := List.mem_iff_getElem?.mp hx
        have := ih (h5 k x hk)
        omega) bs.length
      have e2 : bs.length * (Q4 n - 5 + 1) ≤ 4 * (Q4 n - 5 + 1) := Nat.mul_le_mul_right _ h4
      unfold rowW
      simp only [List.length_append, List.length_cons, List.length_nil]
      omega
end K10

namespace K10
open PySem L2 ML

theorem treeRankU {L n : Nat} {b : Bool} {d : D} {w : W2} {S : Store} (hL : 4 ≤ L) (hS : S.WF) (h : WV n b d w) : Ups (sem T L 12 [d] S) S (.int (w.2 : Int)) := by
  obtain ⟨l, rfl⟩ : ∃ n, L = n + 1 := ⟨L - 1, by omega⟩
  refine Gv.ups ?_
  show wpr (endF (evS (sem T l) (gvs T) f_tree_rank.body [some d] S)) _ _
  rw [wrs_end]
  cases h with
  | send h1 _ _ _ =>
    simp only [f_tree_rank, wrs_seqL, wS_asg, wS_ife, wS_ret, wS_nil, wS_exp, wE_cS, wE_cI, wE_cN, wE_cB, wE_call, wE_var, wE_glb, wE_bop, wE_idx, wE_lst, wE_tup, wE_blt, wE_met, wT_cmp, wT_and, wT_or, wT_nt, wT_one, wT_tru, wE_ite, wE_and, wE_or, wE_one, wE_nt, wE_cmp, wE_lc, wI_itr, wI_rng, wA_cons, wA_nil, wpO, wpF, List.set, List.getElem?_cons_zero, List.getElem?_cons_succ, Option.join_some, Bool.false_eq_true, if_false, if_true, wE_neg, wE_chn, wE_lset, wE_inW, wE_ixW, wS_fr, wS_rais, wT_chn, t_bl, later_nil, ofS_inj, decide_false, decide_true, Bool.or_false, Bool.false_or, Bool.or_true, Bool.true_or, Bool.not_false, Bool.not_true, Bool.and_true, Bool.true_and, reduceCtorEq, String.reduceEq, String.reduceNe, c_eq_str, c_ne_str, inT2, inT3, ninT3, ML.ix_tup, at2_0, at2_1, at2_m1, at2_m2, at3_0, at3_1, at3_2, at3_m1, at3_m2, at4_0, at4_1, at4_2, at4_3, at4_m1, at4_m2, Int.reduceNeg, nl0, nl1, nl2, nl3, nl4, true_and, list_tup, b_len_tup, inT4, ninT4, ninT5, t_tup, at0, at1_0, List.isEmpty_nil, List.isEmpty_cons]
    exact (rankU (by omega) hS h1).wpr fun S1 G1 => ⟨rfl, G1⟩
  | sup h1 _ _ =>
    simp only [f_tree_rank, wrs_seqL, wS_asg, wS_ife, wS_ret, wS_nil, wS_exp, wE_cS, wE_cI, wE_cN, wE_cB, wE_call, wE_var, wE_glb, wE_bop, wE_idx, wE_lst, wE_tup, wE_blt, wE_met, wT_cmp, wT_and, wT_or, wT_nt, wT_one, wT_tru, wE_ite, wE_and, wE_or, wE_one, wE_nt, wE_cmp, wE_lc, wI_itr, wI_rng, wA_cons, wA_nil, wpO, wpF, List.set, List.getElem?_cons_zero, List.getElem?_cons_succ, Option.join_some, Bool.false_eq_true, if_false, if_true, wE_neg, wE_chn, wE_lset, wE_inW, wE_ixW, wS_fr, wS_rais, wT_chn, t_bl, later_nil, ofS_inj, decide_false, decide_true, Bool.or_false, Bool.false_or, Bool.or_true, Bool.true_or, Bool.not_false, Bool.not_true, Bool.and_true, Bool.true_and, reduceCtorEq, String.reduceEq, String.reduceNe, c_eq_str, c_ne_str, inT2, inT3, ninT3, ML.ix_tup, at2_0, at2_1, at2_m1, at2_m2, at3_0, at3_1, at3_2, at3_m1, at3_m2, at4_0, at4_1, at4_2, at4_3, at4_m1, at4_m2, Int.reduceNeg, nl0, nl1, nl2, nl3, nl4, true_and, list_tup, b_len_tup, inT4, ninT4, ninT5, t_tup, at0, at1_0, List.isEmpty_nil, List.isEmpty_cons]
    exact (rankU (by omega) hS h1).wpr fun S1 G1 => ⟨rfl, G1⟩
  | num _ _ =>
    simp only [f_tree_rank, wrs_seqL, wS_asg, wS_ife, wS_ret, wS_nil, wS_exp, wE_cS, wE_cI, wE_cN, wE_cB, wE_call, wE_var, wE_glb, wE_bop, wE_idx, wE_lst, wE_tup, wE_blt, wE_met, wT_cmp, wT_and, wT_or, wT_nt, wT_one, wT_tru, wE_ite, wE_and, wE_or, wE_one, wE_nt, wE_cmp, wE_lc, wI_itr, wI_rng, wA_cons, wA_nil, wpO, wpF, List.set, List.getElem?_cons_zero, List.getElem?_cons_succ, Option.join_some, Bool.false_eq_true, if_false, if_true, wE_neg, wE_chn, wE_lset, wE_inW, wE_ixW, wS_fr, wS_rais, wT_chn, t_bl, later_nil, ofS_inj, decide_false, decide_true, Bool.or_false, Bool.false_or, Bool.or_true, Bool.true_or, Bool.not_false, Bool.not_true, Bool.and_true, Bool.true_and, reduceCtorEq, String.reduceEq, String.reduceNe, c_eq_str, c_ne_str, inT2, inT3, ninT3, ML.ix_tup, at2_0, at2_1, at2_m1, at2_m2, at3_0, at3_1, at3_2, at3_m1, at3_m2, at4_0, at4_1, at4_2, at4_3, at4_m1, at4_m2, Int.reduceNeg, nl0, nl1, nl2, nl3, nl4, true_and, list_tup, b_len_tup, inT4, ninT4, ninT5, t_tup, at0, at1_0, List.isEmpty_nil, List.isEmpty_cons]
    rw [later]
    simp only [wrs_seqL, wS_asg, wS_ife, wS_ret, wS_nil, wS_exp, wE_cS, wE_cI, wE_cN, wE_cB, wE_call, wE_var, wE_glb, wE_bop, wE_idx, wE_lst, wE_tup, wE_blt, wE_met, wT_cmp, wT_and, wT_or, wT_nt, wT_one, wT_tru, wE_ite, wE_and, wE_or, wE_one, wE_nt, wE_cmp, wE_lc, wI_itr, wI_rng, wA_cons, wA_nil, wpO, wpF, List.set, List.getElem?_cons_zero, List.getElem?_cons_succ, Option.join_some, Bool.false_eq_true, if_false, if_true, wE_neg, wE_chn, wE_lset, wE_inW, wE_ixW, wS_fr, wS_rais, wT_chn, t_bl, later_nil, ofS_inj, decide_false, decide_true, Bool.or_false, Bool.false_or, Bool.or_true, Bool.true_or, Bool.not_false, Bool.not_true, Bool.and_true, Bool.true_and, reduceCtorEq, String.reduceEq, String.reduceNe, c_eq_str, c_ne_str, inT2, inT3, ninT3, ML.ix_tup, at2_0, at2_1, at2_m1, at2_m2, at3_0, at3_1, at3_2, at3_m1, at3_m2, at4_0, at4_1, at4_2, at4_3, at4_m1, at4_m2, Int.reduceNeg, nl0, nl1, nl2, nl3, nl4, true_and, list_tup, b_len_tup, inT4, ninT4, ninT5, t_tup, at0, at1_0, List.isEmpty_nil, List.isEmpty_cons]
    exact ⟨rfl, .refl hS⟩
  | word _ =>
    simp only [f_tree_rank, wrs_seqL, wS_asg, wS_ife, wS_ret, wS_nil, wS_exp, wE_cS, wE_cI, wE_cN, wE_cB, wE_call, wE_var, wE_glb, wE_bop, wE_idx, wE_lst, wE_tup, wE_blt, wE_met, wT_cmp, wT_and, wT_or, wT_nt, wT_one, wT_tru, wE_ite, wE_and, wE_or, wE_one, wE_nt, wE_cmp, wE_lc, wI_itr, wI_rng, wA_cons, wA_nil, wpO, wpF, List.set, List.getElem?_cons_zero, List.getElem?_cons_succ, Option.join_some, Bool.false_eq_true, if_false, if_true, wE_neg, wE_chn, wE_lset, wE_inW, wE_ixW, wS_fr, wS_rais, wT_chn, t_bl, later_nil, ofS_inj, decide_false, decide_true, Bool.or_false, Bool.false_or, Bool.or_true, Bool.true_or, Bool.not_false, Bool.not_true, Bool.and_true, Bool.true_and, reduceCtorEq, String.reduceEq, String.reduceNe, c_eq_str, c_ne_str, inT2, inT3, ninT3, ML.ix_tup, at2_0, at2_1, at2_m1, at2_m2, at3_0, at3_1, at3_2, at3_m1, at3_m2, at4_0, at4_1, at4_2, at4_3, at4_m1, at4_m2, Int.reduceNeg, nl0, nl1, nl2, nl3, nl4, true_and, list_tup, b_len_tup, inT4, ninT4, ninT5, t_tup, at0, at1_0, List.isEmpty_nil, List.isEmpty_cons]
    rw [later]
    simp only [wrs_seqL, wS_asg, wS_ife, wS_ret, wS_nil, wS_exp, wE_cS, wE_cI, wE_cN, wE_cB, wE_call, wE_var, wE_glb, wE_bop, wE_idx, wE_lst, wE_tup, wE_blt, wE_met, wT_cmp, wT_and, wT_or, wT_nt, wT_one, wT_tru, wE_ite, wE_and, wE_or, wE_one, wE_nt, wE_cmp, wE_lc, wI_itr, wI_rng, wA_cons, wA_nil, wpO, wpF, List.set, List.getElem?_cons_zero, List.getElem?_cons_succ, Option.join_some, Bool.false_eq_true, if_false, if_true, wE_neg, wE_chn, wE_lset, wE_inW, wE_ixW, wS_fr, wS_rais, wT_chn, t_bl, later_nil, ofS_inj, decide_false, decide_true, Bool.or_false, Bool.false_or, Bool.or_true, Bool.true_or, Bool.not_false, Bool.not_true, Bool.and_true, Bool.true_and, reduceCtorEq, String.reduceEq, String.reduceNe, c_eq_str, c_ne_str, inT2, inT3, ninT3, ML.ix_tup, at2_0, at2_1, at2_m1, at2_m2, at3_0, at3_1, at3_2, at3_m1, at3_m2, at4_0, at4_1, at4_2, at4_3, at4_m1, at4_m2, Int.reduceNeg, nl0, nl1, nl2, nl3, nl4, true_and, list_tup, b_len_tup, inT4, ninT4, ninT5, t_tup, at0, at1_0, List.isEmpty_nil, List.isEmpty_cons]
    exact ⟨rfl, .refl hS⟩
  | name _ =>
    simp only [f_tree_rank, wrs_seqL, wS_asg, wS_ife, wS_ret, wS_nil, wS_exp, wE_cS, wE_cI, wE_cN, wE_cB, wE_call, wE_var, wE_glb, wE_bop, wE_idx, wE_lst, wE_tup, wE_blt, wE_met, wT_cmp, wT_and, wT_or, wT_nt, wT_one, wT_tru, wE_ite, wE_and, wE_or, wE_one, wE_nt, wE_cmp, wE_lc, wI_itr, wI_rng, wA_cons, wA_nil, wpO, wpF, List.set, List.getElem?_cons_zero, List.getElem?_cons_succ, Option.join_some, Bool.false_eq_true, if_false, if_true, wE_neg, wE_chn, wE_lset, wE_inW, wE_ixW, wS_fr, wS_rais, wT_chn, t_bl, later_nil, ofS_inj, decide_false, decide_true, Bool.or_false, Bool.false_or, Bool.or_true, Bool.true_or, Bool.not_false, Bool.not_true, Bool.and_true, Bool.true_and, reduceCtorEq, String.reduceEq, String.reduceNe, c_eq_str, c_ne_str, inT2, inT3, ninT3, ML.ix_tup, at2_0, at2_1, at2_m1, at2_m2, at3_0, at3_1, at3_2, at3_m1, at3_m2, at4_0, at4_1, at4_2, at4_3, at4_m1, at4_m2, Int.reduceNeg, nl0, nl1, nl2, nl3, nl4, true_and, list_tup, b_len_tup, inT4, ninT4, ninT5, t_tup, at0, at1_0, List.isEmpty_nil, List.isEmpty_cons]
    rw [later]
    simp only [wrs_seqL, wS_asg, wS_ife, wS_ret, wS_nil, wS_exp, wE_cS, wE_cI, wE_cN, wE_cB, wE_call, wE_var, wE_glb, wE_bop, wE_idx, wE_lst, wE_tup, wE_blt, wE_met, wT_cmp, wT_and, wT_or, wT_nt, wT_one, wT_tru, wE_ite, wE_and, wE_or, wE_one, wE_nt, wE_cmp, wE_lc, wI_itr, wI_rng, wA_cons, wA_nil, wpO, wpF, List.set, List.getElem?_cons_zero, List.getElem?_cons_succ, Option.join_some, Bool.false_eq_true, if_false, if_true, wE_neg, wE_chn, wE_lset, wE_inW, wE_ixW, wS_fr, wS_rais, wT_chn, t_bl, later_nil, ofS_inj, decide_false, decide_true, Bool.or_false, Bool.false_or, Bool.or_true, Bool.true_or, Bool.not_false, Bool.not_true, Bool.and_true, Bool.true_and, reduceCtorEq, String.reduceEq, String.reduceNe, c_eq_str, c_ne_str, inT2, inT3, ninT3, ML.ix_tup, at2_0, at2_1, at2_m1, at2_m2, at3_0, at3_1, at3_2, at3_m1, at3_m2, at4_0, at4_1, at4_2, at4_3, at4_m1, at4_m2, Int.reduceNeg, nl0, nl1, nl2, nl3, nl4, true_and, list_tup, b_len_tup, inT4, ninT4, ninT5, t_tup, at0, at1_0, List.isEmpty_nil, List.isEmpty_cons]
    exact ⟨rfl, .refl hS⟩
  | set _ _ =>
    simp only [f_tree_rank, wrs_seqL, wS_asg, wS_ife, wS_ret, wS_nil, wS_exp, wE_cS, wE_cI, wE_cN, wE_cB, wE_call, wE_var, wE_glb, wE_bop, wE_idx, wE_lst, wE_tup, wE_blt, wE_met, wT_cmp, wT_and, wT_or, wT_nt, wT_one, wT_tru, wE_ite, wE_and, wE_or, wE_one, wE_nt, wE_cmp, wE_lc, wI_itr, wI_rng, wA_cons, wA_nil, wpO, wpF, List.set, List.getElem?_cons_zero, List.getElem?_cons_succ, Option.join_some, Bool.false_eq_true, if_false, if_true, wE_neg, wE_chn, wE_lset, wE_inW, wE_ixW, wS_fr, wS_rais, wT_chn, t_bl, later_nil, ofS_inj, decide_false, decide_true, Bool.or_false, Bool.false_or, Bool.or_true, Bool.true_or, Bool.not_false, Bool.not_true, Bool.and_true, Bool.true_and, reduceCtorEq, String.reduceEq, String.reduceNe, c_eq_str, c_ne_str, inT2, inT3, ninT3, ML.ix_tup, at2_0, at2_1, at2_m1, at2_m2, at3_0, at3_1, at3_2, at3_m1, at3_m2, at4_0, at4_1, at4_2, at4_3, at4_m1, at4_m2, Int.reduceNeg, nl0, nl1, nl2, nl3, nl4, true_and, list_tup, b_len_tup, inT4, ninT4, ninT5, t_tup, at0, at1_0, List.isEmpty_nil, List.isEmpty_cons]
    rw [later]
    simp only [wrs_seqL, wS_asg, wS_ife, wS_ret, wS_nil, wS_exp, wE_cS, wE_cI, wE_cN, wE_cB, wE_call, wE_var, wE_glb, wE_bop, wE_idx, wE_lst, wE_tup, wE_blt, wE_met, wT_cmp, wT_and, wT_or, wT_nt, wT_one, wT_tru, wE_ite, wE_and, wE_or, wE_one, wE_nt, wE_cmp, wE_lc, wI_itr, wI_rng, wA_cons, wA_nil, wpO, wpF, List.set, List.getElem?_cons_zero, List.getElem?_cons_succ, Option.join_some, Bool.false_eq_true, if_false, if_true, wE_neg, wE_chn, wE_lset, wE_inW, wE_ixW, wS_fr, wS_rais, wT_chn, t_bl, later_nil, ofS_inj, decide_false, decide_true, Bool.or_false, Bool.false_or, Bool.or_true, Bool.true_or, Bool.not_false, Bool.not_true, Bool.and_true, Bool.true_and, reduceCtorEq, String.reduceEq, String.reduceNe, c_eq_str, c_ne_str, inT2, inT3, ninT3, ML.ix_tup, at2_0, at2_1, at2_m1, at2_m2, at3_0, at3_1, at3_2, at3_m1, at3_m2, at4_0, at4_1, at4_2, at4_3, at4_m1, at4_m2, Int.reduceNeg, nl0, nl1, nl2, nl3, nl4, true_and, list_tup, b_len_tup, inT4, ninT4, ninT5, t_tup, at0, at1_0, List.isEmpty_nil, List.isEmpty_cons]
    exact ⟨rfl, .refl hS⟩
  | blk _ _ _ _ _ =>
    simp only [f_tree_rank, wrs_seqL, wS_asg, wS_ife, wS_ret, wS_nil, wS_exp, wE_cS, wE_cI, wE_cN, wE_cB, wE_call, wE_var, wE_glb, wE_bop, wE_idx, wE_lst, wE_tup, wE_blt, wE_met, wT_cmp, wT_and, wT_or, wT_nt, wT_one, wT_tru, wE_ite, wE_and, wE_or, wE_one, wE_nt, wE_cmp, wE_lc, wI_itr, wI_rng, wA_cons, wA_nil, wpO, wpF, List.set, List.getElem?_cons_zero, List.getElem?_cons_succ, Option.join_some, Bool.false_eq_true, if_false, if_true, wE_neg, wE_chn, wE_lset, wE_inW, wE_ixW, wS_fr, wS_rais, wT_chn, t_bl, later_nil, ofS_inj, decide_false, decide_true, Bool.or_false, Bool.false_or, Bool.or_true, Bool.true_or, Bool.not_false, Bool.not_true, Bool.and_true, Bool.true_and, reduceCtorEq, String.reduceEq, String.reduceNe, c_eq_str, c_ne_str, inT2, inT3, ninT3, ML.ix_tup, at2_0, at2_1, at2_m1, at2_m2, at3_0, at3_1, at3_2, at3_m1, at3_m2, at4_0, at4_1, at4_2, at4_3, at4_m1, at4_m2, Int.reduceNeg, nl0, nl1, nl2, nl3, nl4, true_and, list_tup, b_len_tup, inT4, ninT4, ninT5, t_tup, at0, at1_0, List.isEmpty_nil, List.isEmpty_cons]
    rw [later]
    simp only [wrs_seqL, wS_asg, wS_ife, wS_ret, wS_nil, wS_exp, wE_cS, wE_cI, wE_cN, wE_cB, wE_call, wE_var, wE_glb, wE_bop, wE_idx, wE_lst, wE_tup, wE_blt, wE_met, wT_cmp, wT_and, wT_or, wT_nt, wT_one, wT_tru, wE_ite, wE_and, wE_or, wE_one, wE_nt, wE_cmp, wE_lc, wI_itr, wI_rng, wA_cons, wA_nil, wpO, wpF, List.set, List.getElem?_cons_zero, List.getElem?_cons_succ, Option.join_some, Bool.false_eq_true, if_false, if_true, wE_neg, wE_chn, wE_lset, wE_inW, wE_ixW, wS_fr, wS_rais, wT_chn, t_bl, later_nil, ofS_inj, decide_false, decide_true, Bool.or_false, Bool.false_or, Bool.or_true, Bool.true_or, Bool.not_false, Bool.not_true, Bool.and_true, Bool.true_and, reduceCtorEq, String.reduceEq, String.reduceNe, c_eq_str, c_ne_str, inT2, inT3, ninT3, ML.ix_tup, at2_0, at2_1, at2_m1, at2_m2, at3_0, at3_1, at3_2, at3_m1, at3_m2, at4_0, at4_1, at4_2, at4_3, at4_m1, at4_m2, Int.reduceNeg, nl0, nl1, nl2, nl3, nl4, true_and, list_tup, b_len_tup, inT4, ninT4, ninT5, t_tup, at0, at1_0, List.isEmpty_nil, List.isEmpty_cons]
    exact ⟨rfl, .refl hS⟩
  | back _ =>
    simp only [f_tree_rank, wrs_seqL, wS_asg, wS_ife, wS_ret, wS_nil, wS_exp, wE_cS, wE_cI, wE_cN, wE_cB, wE_call, wE_var, wE_glb, wE_bop, wE_idx, wE_lst, wE_tup, wE_blt, wE_met, wT_cmp, wT_and, wT_or, wT_nt, wT_one, wT_tru, wE_ite, wE_and, wE_or, wE_one, wE_nt, wE_cmp, wE_lc, wI_itr, wI_rng, wA_cons, wA_nil, wpO, wpF, List.set, List.getElem?_cons_zero, List.getElem?_cons_succ, Option.join_some, Bool.false_eq_true, if_false, if_true, wE_neg, wE_chn, wE_lset, wE_inW, wE_ixW, wS_fr, wS_rais, wT_chn, t_bl, later_nil, ofS_inj, decide_false, decide_true, Bool.or_false, Bool.false_or, Bool.or_true, Bool.true_or, Bool.not_false, Bool.not_true, Bool.and_true, Bool.true_and, reduceCtorEq, String.reduceEq, String.reduceNe, c_eq_str, c_ne_str, inT2, inT3, ninT3, ML.ix_tup, at2_0, at2_1, at2_m1, at2_m2, at3_0, at3_1, at3_2, at3_m1, at3_m2, at4_0, at4_1, at4_2, at4_3, at4_m1, at4_m2, Int.reduceNeg, nl0, nl1, nl2, nl3, nl4, true_and, list_tup, b_len_tup, inT4, ninT4, ninT5, t_tup, at0, at1_0, List.isEmpty_nil, List.isEmpty_cons]
    rw [later]
    simp only [wrs_seqL, wS_asg, wS_ife, wS_ret, wS_nil, wS_exp, wE_cS, wE_cI, wE_cN, wE_cB, wE_call, wE_var, wE_glb, wE_bop, wE_idx, wE_lst, wE_tup, wE_blt, wE_met, wT_cmp, wT_and, wT_or, wT_nt, wT_one, wT_tru, wE_ite, wE_and, wE_or, wE_one, wE_nt, wE_cmp, wE_lc, wI_itr, wI_rng, wA_cons, wA_nil, wpO, wpF, List.set, List.getElem?_cons_zero, List.getElem?_cons_succ, Option.join_some, Bool.false_eq_true, if_false, if_true, wE_neg, wE_chn, wE_lset, wE_inW, wE_ixW, wS_fr, wS_rais, wT_chn, t_bl, later_nil, ofS_inj, decide_false, decide_true, Bool.or_false, Bool.false_or, Bool.or_true, Bool.true_or, Bool.not_false, Bool.not_true, Bool.and_true, Bool.true_and, reduceCtorEq, String.reduceEq, String.reduceNe, c_eq_str, c_ne_str, inT2, inT3, ninT3, ML.ix_tup, at2_0, at2_1, at2_m1, at2_m2, at3_0, at3_1, at3_2, at3_m1, at3_m2, at4_0, at4_1, at4_2, at4_3, at4_m1, at4_m2, Int.reduceNeg, nl0, nl1, nl2, nl3, nl4, true_and, list_tup, b_len_tup, inT4, ninT4, ninT5, t_tup, at0, at1_0, List.isEmpty_nil, List.isEmpty_cons]
    exact ⟨rfl, .refl hS⟩
def PW (n : Nat) : Prop := ∀ (L : Nat) (b : Bool) (d : D) (w : W2) (S : Store), 2 * n + 6 ≤ L → n ≤ 7 → S.WF → WV n b d w → Ups (sem T L 16 [d] S) S (lw w.1)
theorem wv_le {n : Nat} {b : Bool} {d : D} {w : W2} (h : WV n b d w) (hn : n ≤ 7) : w.1.length ≤ 60000 := by
  cases n with
  | zero => cases h
  | succ n =>
    have a := wv_len h
    have c : Q4 n ≤ Q4 6 := Nat.mul_le_mul_left _ (Nat.pow_le_pow_right (by decide) (by omega))
    have d : Q4 6 = 57344 := by decide
    omega
theorem br_le {n : Nat} {b : Bool} {d : D} {w : W2} {m : Nat} (h : WV n b d w) (hn : n ≤ 7) : (br w m).length ≤ 60002 := by
  have := wv_le h hn
  have := br_len (w := w) (m := m)
  omega
theorem bracketU {n : Nat} (ih : PW n) {L m : Nat} {b : Bool} {d : D} {w : W2} {S : Store} (hL : 2 * n + 7 ≤ L) (hn : n ≤ 7) (hS : S.WF) (h : WV n b d w) : Ups (sem T L 14 [d, .int (m : Int)] S) S (lw (br w m)) := by
  obtain ⟨l, rfl⟩ : ∃ n, L = n + 1 := ⟨L - 1, by omega⟩
  refine Gv.ups ?_
  show wpr (endF (evS (sem T l) (gvs T) f_bracketed.body [some d, some (.int (m : Int))] S)) _ _
  rw [wrs_end]
  have hl := wv_le h hn
  simp only [f_bracketed, wrs_seqL, wS_asg, wS_ife, wS_ret, wS_nil, wS_exp, wE_cS, wE_cI, wE_cN, wE_cB, wE_call, wE_var, wE_glb, wE_bop, wE_idx, wE_lst, wE_tup, wE_blt, wE_met, wT_cmp, wT_and, wT_or, wT_nt, wT_one, wT_tru, wE_ite, wE_and, wE_or, wE_one, wE_nt, wE_cmp, wE_lc, wI_itr, wI_rng, wA_cons, wA_nil, wpO, wpF, List.set, List.getElem?_cons_zero, List.getElem?_cons_succ, Option.join_some, Bool.false_eq_true, if_false, if_true, wE_neg, wE_chn, wE_lset, wE_inW, wE_ixW, wS_fr, wS_rais, wT_chn, t_bl, later_nil]
  refine (treeRankU (by omega) hS h).wpr fun S1 G1 => ?_
  simp only [c_gt, wpO]
  by_cases q : m < w.2
  · rw [decide_eq_true (by omega : (m : Int) < (w.2 : Int)), if_pos rfl]
    simp only [nl1, true_and]
    refine (ih l b d w S1 (by omega) hn G1.wf h).wpr fun S2 G2 => ?_
    simp only [lw]
    rw [add_lw (by rw [List.length_map]; show 1 + _ ≤ _; omega)]
    simp only [wpF]
    rw [add_lw (by rw [List.length_append, List.length_map]; show 1 + _ + 1 ≤ _; omega)]
    simp only [wpF]
    refine ⟨?_, G1.trans G2⟩
    unfold br
    rw [if_pos q]
    simp [lw]
  · rw [decide_eq_false (by omega : ¬ (m : Int) < (w.2 : Int)), if_neg Bool.false_ne_true]
    rw [later]
    simp only [wrs_seqL, wS_asg, wS_ife, wS_ret, wS_nil, wS_exp, wE_cS, wE_cI, wE_cN, wE_cB, wE_call, wE_var, wE_glb, wE_bop, wE_idx, wE_lst, wE_tup, wE_blt, wE_met, wT_cmp, wT_and, wT_or, wT_nt, wT_one, wT_tru, wE_ite, wE_and, wE_or, wE_one, wE_nt, wE_cmp, wE_lc, wI_itr, wI_rng, wA_cons, wA_nil, wpO, wpF, List.set, List.getElem?_cons_zero, List.getElem?_cons_succ, Option.join_some, Bool.false_eq_true, if_false, if_true, wE_neg, wE_chn, wE_lset, wE_inW, wE_ixW, wS_fr, wS_rais, wT_chn, t_bl, later_nil]
    refine (ih l b d w S1 (by omega) hn G1.wf h).wpr fun S2 G2 => ⟨?_, G1.trans G2⟩
    unfold br
    rw [if_neg q]
theorem list_tupN {S : Store} {xs : List D} : bfP S .list [.tup xs] = some (.newl xs) := rfl
theorem bodyWU {n : Nat} (ih : PW n) {L : Nat} {ms : List Str} {bs : List D} {f : D → W2} {S : Store} (hL : 2 * n + 7 ≤ L) (hn : n ≤ 7) (hS : S.WF) (hm : ms.length ≤ 10) (hb : bs.length ≤ 10) (h : ∀ (k : Nat) (x : D), bs[k]? = some x → WV n (decide (k + 1 = bs.length)) x (f x)) :
    Ups (sem T L 15 [.tup (ms.map D.str), .tup bs] S) S (lw (rowW f ms bs)) := by
  obtain ⟨l, rfl⟩ : ∃ n, L = n + 1 := ⟨L - 1, by omega⟩
  refine Gv.ups ?_
  show wpr (endF (evS (sem T l) (gvs T) f_body_words.body [some (.tup (ms.map D.str)), some (.tup bs), none, none] S)) _ _
  rw [wrs_end]
  have htl := top_len (ms := ms)
  have key : ∀ S1, Gr S S1 → Later (sem T l) (gvs T) (.seq (.fr 3 (.rng (.blt false .len (.cons (.var 1) (.nil)))) (.seq (.ife (.cmp .Gt (.var 3) (.cI 0)) (.seq (.exp (.met false .append (.var 2) (.cons (.cS ("." : Str)) (.nil)))) (.nil)) (.nil)) (.seq (.exp (.met false .extend (.var 2) (.cons (.call 16 (.cons (.idx (.var 1) (.var 3)) (.nil))) (.nil)))) (.nil)))) (.seq (.ret (.frz (.var 2))) (.nil))) (fun _ => Gv (lw (rowW f ms bs)) S .non) (Gv (lw (rowW f ms bs)) S) (fun _ _ _ => False) [some (.tup (ms.map D.str)), some (.tup bs), some (.loc S1.nx), none] (S1.new (.lst ((topW ms).map D.str))) := by
    intro S1 G1
    rw [later]
    simp only [wrs_seqL, wS_asg, wS_ife, wS_ret, wS_nil, wS_exp, wE_cS, wE_cI, wE_cN, wE_cB, wE_call, wE_var, wE_glb, wE_bop, wE_idx, wE_lst, wE_tup, wE_blt, wE_met, wT_cmp, wT_and, wT_or, wT_nt, wT_one, wT_tru, wE_ite, wE_and, wE_or, wE_one, wE_nt, wE_cmp, wE_lc, wI_itr, wI_rng, wA_cons, wA_nil, wpO, wpF, List.set, List.getElem?_cons_zero, List.getElem?_cons_succ, Option.join_some, Bool.false_eq_true, if_false, if_true, wE_neg, wE_chn, wE_lset, wE_inW, wE_ixW, wS_fr, wS_rais, wT_chn, t_bl, later_nil, b_len_tup]
    refine ⟨⟨Int.le_trans (by omega : (bs.length : Int) ≤ 10) (by decide), Int.le_trans (by decide) (by omega : (0 : Int) ≤ (bs.length : Int))⟩, ?_⟩
    refine wrs_for (fun j env S' => (∃ v, env = [some (.tup (ms.map D.str)), some (.tup bs), some (.loc S1.nx), v]) ∧ Gr S1 S' ∧ S1.nx < S'.nx ∧ S'.ob S1.nx = some (.lst ((topW ms ++ preW (bs.map fun x => (f x).1) j).map D.str))) ⟨⟨_, rfl⟩, Gr.new G1.wf, Nat.lt_succ_self _, by rw [Store.new_ob]; simp [preW]⟩ ?_ ?_
    · rintro j x env S' hj ⟨⟨v, rfl⟩, G, nx, ob⟩
      have hj' : j < bs.length := by
        have := (List.getElem?_eq_some_iff.mp hj).1
        rw [intL_len] at this
        omega
      have hx : x = .int (j : Int) := by
        unfold intL at hj
        rw [List.getElem?_map, List.getElem?_range (by omega)] at hj
        have := Option.some.inj hj
        rw [← this]
        simp
      subst hx
      have hw := h j _ (List.getElem?_eq_getElem hj')
      have hwl := wv_le hw hn
      have hpl : (preW (bs.map fun x => (f x).1) j).length ≤ 10 * 60001 := by
        refine Nat.le_trans (pre_len (M := 60000) (fun p hp => ?_) j) (Nat.mul_le_mul_right _ (by omega))
        obtain ⟨x, hx, rfl⟩ := List.mem_map.mp hp
        obtain ⟨k, hk⟩ := List.mem_iff_getElem?.mp hx
        exact wv_le (h k x hk) hn
      have e1 : ∀ S, ixP S (.tup bs) (.int (j : Int)) = some bs[j] := fun S => atI_nat' (List.getElem?_eq_getElem hj')
      have egd : (bs.map fun x => (f x).1).getD j [] = (f bs[j]).1 := by
        rw [List.getD_eq_getElem?_getD, List.getElem?_map, List.getElem?_eq_getElem hj']; rfl
      have step : ∀ S2, Gr S1 S2 → S1.nx < S2.nx → S2.ob S1.nx = some (.lst ((topW ms ++ preW (bs.map fun x => (f x).1) j ++ (if 0 < j then [Str.ofString "."] else [])).map D.str)) →
          Later (sem T l) (gvs T) (.seq (.exp (.met false .extend (.var 2) (.cons (.call 16 (.cons (.idx (.var 1) (.var 3)) (.nil))) (.nil)))) (.nil)) (fun env S' => (∃ v, env = [some (.tup (ms.map D.str)), some (.tup bs), some (.loc S1.nx), v]) ∧ Gr S1 S' ∧ S1.nx < S'.nx ∧ S'.ob S1.nx = some (.lst ((topW ms ++ preW (bs.map fun x => (f x).1) (j + 1)).map D.str))) (Gv (lw (rowW f ms bs)) S) (fun _ _ _ => False) [some (.tup (ms.map D.str)), some (.tup bs), some (.loc S1.nx), some (.int (j : Int))] S2 := by
        intro S2 G2 nx2 ob2
        rw [later]
        simp only [wrs_seqL, wS_asg, wS_ife, wS_ret, wS_nil, wS_exp, wE_cS, wE_cI, wE_cN, wE_cB, wE_call, wE_var, wE_glb, wE_bop, wE_idx, wE_lst, wE_tup, wE_blt, wE_met, wT_cmp, wT_and, wT_or, wT_nt, wT_one, wT_tru, wE_ite, wE_and, wE_or, wE_one, wE_nt, wE_cmp, wE_lc, wI_itr, wI_rng, wA_cons, wA_nil, wpO, wpF, List.set, List.getElem?_cons_zero, List.getElem?_cons_succ, Option.join_some, Bool.false_eq_true, if_false, if_true, wE_neg, wE_chn, wE_lset, wE_inW, wE_ixW, wS_fr, wS_rais, wT_chn, t_bl, later_nil, e1]
        have hdot : (if 0 < j then [Str.ofString "."] else []).length ≤ 1 := by split <;> simp
        have ex0 := ext_loc (ys := (f bs[j]).1.map D.str) ob2 (by simp only [List.length_map, List.length_append]; omega)
        refine ⟨ex0.1, ?_⟩
        refine (ih l _ _ _ S2 (by omega) hn G2.wf hw).wpr fun S3 G3 => ?_
        have ob3 := (G3.ob _ nx2).trans ob2
        have ex := ext_loc (ys := (f bs[j]).1.map D.str) ob3 (by simp only [List.length_map, List.length_append]; omega)
        rw [lw, ex.2, wpr_ok]
        refine ⟨⟨_, rfl⟩, (G2.trans G3).set (Nat.le_refl _) (Nat.lt_of_lt_of_le nx2 G3.nx), Nat.lt_of_lt_of_le nx2 G3.nx, ?_⟩
        rw [Store.set_ob, show preW (bs.map fun x => (f x).1) (j + 1) = preW (bs.map fun x => (f x).1) j ++ ((if 0 < j then [Str.ofString "."] else []) ++ (bs.map fun x => (f x).1).getD j []) from rfl, egd]
        simp only [List.map_append, List.append_assoc]
      simp only [wrs_seqL, wS_asg, wS_ife, wS_ret, wS_nil, wS_exp, wE_cS, wE_cI, wE_cN, wE_cB, wE_call, wE_var, wE_glb, wE_bop, wE_idx, wE_lst, wE_tup, wE_blt, wE_met, wT_cmp, wT_and, wT_or, wT_nt, wT_one, wT_tru, wE_ite, wE_and, wE_or, wE_one, wE_nt, wE_cmp, wE_lc, wI_itr, wI_rng, wA_cons, wA_nil, wpO, wpF, List.set, List.getElem?_cons_zero, List.getElem?_cons_succ, Option.join_some, Bool.false_eq_true, if_false, if_true, wE_neg, wE_chn, wE_lset, wE_inW, wE_ixW, wS_fr, wS_rais, wT_chn, t_bl, later_nil, c_gt]
      by_cases j0 : 0 < j
      · rw [decide_eq_true (by omega : (0 : Int) < (j : Int)), if_pos rfl]
        have ex := app_loc (y := .str (Str.ofString ".")) ob (by simp only [List.length_map, List.length_append]; omega)
        refine ⟨ex.1, ?_⟩
        rw [ex.2, wpr_ok]
        refine step _ (G.set (Nat.le_refl _) nx) nx ?_
        rw [Store.set_ob, if_pos j0]
        simp
      · rw [decide_eq_false (by omega : ¬ (0 : Int) < (j : Int)), if_neg Bool.false_ne_true]
        refine step _ G nx ?_
        rw [ob, if_neg j0]
        simp
    · rintro env S' ⟨⟨v, rfl⟩, G, nx, ob⟩
      rw [later]
      simp only [wE_frz, wrs_seqL, wS_asg, wS_ife, wS_ret, wS_nil, wS_exp, wE_cS, wE_cI, wE_cN, wE_cB, wE_call, wE_var, wE_glb, wE_bop, wE_idx, wE_lst, wE_tup, wE_blt, wE_met, wT_cmp, wT_and, wT_or, wT_nt, wT_one, wT_tru, wE_ite, wE_and, wE_or, wE_one, wE_nt, wE_cmp, wE_lc, wI_itr, wI_rng, wA_cons, wA_nil, wpO, wpF, List.set, List.getElem?_cons_zero, List.getElem?_cons_succ, Option.join_some, Bool.false_eq_true, if_false, if_true, wE_neg, wE_chn, wE_lset, wE_inW, wE_ixW, wS_fr, wS_rais, wT_chn, t_bl, later_nil, ob, obl]
      refine ⟨?_, (G1.trans G).del G1.nx⟩
      rw [intL_len, Int.toNat_natCast]
      rfl
  simp only [f_body_words, wrs_seqL, wS_asg, wS_ife, wS_ret, wS_nil, wS_exp, wE_cS, wE_cI, wE_cN, wE_cB, wE_call, wE_var, wE_glb, wE_bop, wE_idx, wE_lst, wE_tup, wE_blt, wE_met, wT_cmp, wT_and, wT_or, wT_nt, wT_one, wT_tru, wE_ite, wE_and, wE_or, wE_one, wE_nt, wE_cmp, wE_lc, wI_itr, wI_rng, wA_cons, wA_nil, wpO, wpF, List.set, List.getElem?_cons_zero, List.getElem?_cons_succ, Option.join_some, Bool.false_eq_true, if_false, if_true, wE_neg, wE_chn, wE_lset, wE_inW, wE_ixW, wS_fr, wS_rais, wT_chn, t_bl, later_nil, t_tup]
  cases ms with
  | nil =>
    simp only [List.map_nil, List.isEmpty_nil, Bool.not_true, Bool.false_eq_true, if_false, nl0, true_and]
    exact key S (.refl hS)
  | cons m0 ms0 =>
    simp only [List.map_cons, List.isEmpty_cons, Bool.not_false, if_true, nl1, true_and, list_tupN]
    rw [add_lw (by simp only [List.length_cons, List.length_map, List.length_nil] at hm ⊢; omega)]
    simp only [wpF, Bool.false_eq_true, if_false, nl1, true_and]
    rw [add_lw (by simp only [List.length_append, List.length_cons, List.length_map, List.length_nil] at hm ⊢; omega)]
    simp only [wpF, if_true]
    have := key S (.refl hS)
    simpa [topW] using this
end K10

namespace K10
open PySem L2 ML

theorem str_int {S : Store} {i : Int} (h0 : 0 ≤ i) (h1 : i ≤ 999999) : bfP S .str [.int i] = some (.val (.str (Str.ofString (toString i)))) := if_pos (by
  have : i.natAbs < 1000000 := by omega
  exact Nat.lt_trans this (by decide))
theorem str_str {S : Store} {s : Str} : bfP S .str [.str s] = some (.val (.str s)) := rfl
theorem min_int {S : Store} {i j : Int} : bfP S .min [.int i, .int j] = some (.val (.int (if j < i then j else i))) := rfl
theorem hash_len : (Str.ofString "#").length = 1 := by decide +kernel
theorem parts_map {ts : List D} {f : D → W2} {m : Nat} : D.lst (ts.map fun x => lw (br (f x) m)) = pD (ts.map fun x => br (f x) m) := by
  unfold pD; rw [List.map_map]; rfl
theorem parts_le {n : Nat} {ts : List D} {f : D → W2} {m : Nat} (h : ∀ x ∈ ts, WV n false x (f x)) (hn : n ≤ 7) : ∀ p ∈ ts.map (fun x => br (f x) m), p.length ≤ 60002 := fun p hp => by
  obtain ⟨x, hx, rfl⟩ := List.mem_map.mp hp
  exact br_le (h x hx) hn
theorem laid_le {n : Nat} {s : Str} {ts : List D} {f : D → W2} {m : Nat} (h : ∀ x ∈ ts, WV n false x (f x)) (hn : n ≤ 7) (ht : ts.length ≤ 3) : (laid s (ts.map fun x => br (f x) m)).length ≤ 200000 := by
  have := laid_len (s := s) (parts_le (m := m) h hn)
  rw [List.length_map] at this
  have e2 : ts.length * (60002 + 1) ≤ 3 * (60002 + 1) := Nat.mul_le_mul_right _ ht
  omega
theorem row_le {n : Nat} {ms : List Str} {bs : List D} {f : D → W2} (h : ∀ (k : Nat) (x : D), bs[k]? = some x → WV n (decide (k + 1 = bs.length)) x (f x)) (hn : n ≤ 7) (hm : ms.length ≤ 10) (hb : bs.length ≤ 10) : (rowW f ms bs).length ≤ 700000 := by
  have a := top_len (ms := ms)
  have e := pre_len (ws := bs.map fun x => (f x).1) (M := 60000) (fun p hp => by
    obtain ⟨x, hx, rfl⟩ := List.mem_map.mp hp
    obtain ⟨k, hk⟩ := List.mem_iff_getElem?.mp hx
    exact wv_le (h k x hk) hn) bs.length
  have e2 : bs.length * (60000 + 1) ≤ 10 * (60000 + 1) := Nat.mul_le_mul_right _ hb
  unfold rowW
  rw [List.length_append]
  omega
theorem treeW : ∀ n, PW n := by
  intro n
  induction n with
  | zero => intro L b d w S _ _ _ h; cases h
  | succ n ih =>
    intro L b d w S hL hn hS h
    obtain ⟨l, rfl⟩ : ∃ n, L = n + 1 := ⟨L - 1, by omega⟩
    refine Gv.ups ?_
    show wpr (endF (evS (sem T l) (gvs T) f_tree_words.body [some d, none, none, none, none, none, none] S)) _ _
    rw [wrs_end]
    cases h with
    | @num n b i h1 h2 =>
      simp only [f_tree_words, wrs_seqL, wS_asg, wS_ife, wS_ret, wS_nil, wS_exp, wE_cS, wE_cI, wE_cN, wE_cB, wE_call, wE_var, wE_glb, wE_bop, wE_idx, wE_lst, wE_tup, wE_blt, wE_met, wT_cmp, wT_and, wT_or, wT_nt, wT_one, wT_tru, wE_ite, wE_and, wE_or, wE_one, wE_nt, wE_cmp, wE_lc, wI_itr, wI_rng, wA_cons, wA_nil, wpO, wpF, List.set, List.getElem?_cons_zero, List.getElem?_cons_succ, Option.join_some, Bool.false_eq_true, if_false, if_true, wE_neg, wE_chn, wE_lset, wE_inW, wE_ixW, wS_fr, wS_rais, wT_chn, t_bl, later_nil, ofS_inj, decide_false, decide_true, Bool.or_false, Bool.false_or, Bool.or_true, Bool.true_or, Bool.not_false, Bool.not_true, Bool.and_true, Bool.true_and, reduceCtorEq, String.reduceEq, String.reduceNe, c_eq_str, c_ne_str, inT2, inT3, ninT3, ML.ix_tup, at2_0, at2_1, at2_m1, at2_m2, at3_0, at3_1, at3_2, at3_m1, at3_m2, at4_0, at4_1, at4_2, at4_3, at4_m1, at4_m2, Int.reduceNeg, nl0, nl1, nl2, nl3, nl4, true_and, list_tup, b_len_tup, inT4, ninT4, ninT5, t_tup, at0, at1_0, List.isEmpty_nil, List.isEmpty_cons]
      rw [later]
      simp only [wrs_seqL, wS_asg, wS_ife, wS_ret, wS_nil, wS_exp, wE_cS, wE_cI, wE_cN, wE_cB, wE_call, wE_var, wE_glb, wE_bop, wE_idx, wE_lst, wE_tup, wE_blt, wE_met, wT_cmp, wT_and, wT_or, wT_nt, wT_one, wT_tru, wE_ite, wE_and, wE_or, wE_one, wE_nt, wE_cmp, wE_lc, wI_itr, wI_rng, wA_cons, wA_nil, wpO, wpF, List.set, List.getElem?_cons_zero, List.getElem?_cons_succ, Option.join_some, Bool.false_eq_true, if_false, if_true, wE_neg, wE_chn, wE_lset, wE_inW, wE_ixW, wS_fr, wS_rais, wT_chn, t_bl, later_nil, ofS_inj, decide_false, decide_true, Bool.or_false, Bool.false_or, Bool.or_true, Bool.true_or, Bool.not_false, Bool.not_true, Bool.and_true, Bool.true_and, reduceCtorEq, String.reduceEq, String.reduceNe, c_eq_str, c_ne_str, inT2, inT3, ninT3, ML.ix_tup, at2_0, at2_1, at2_m1, at2_m2, at3_0, at3_1, at3_2, at3_m1, at3_m2, at4_0, at4_1, at4_2, at4_3, at4_m1, at4_m2, Int.reduceNeg, nl0, nl1, nl2, nl3, nl4, true_and, list_tup, b_len_tup, inT4, ninT4, ninT5, t_tup, at0, at1_0, List.isEmpty_nil, List.isEmpty_cons, str_int h1 h2]
      exact ⟨rfl, .refl hS⟩
    | @name n b s h1 =>
      simp only [f_tree_words, wrs_seqL, wS_asg, wS_ife, wS_ret, wS_nil, wS_exp, wE_cS, wE_cI, wE_cN, wE_cB, wE_call, wE_var, wE_glb, wE_bop, wE_idx, wE_lst, wE_tup, wE_blt, wE_met, wT_cmp, wT_and, wT_or, wT_nt, wT_one, wT_tru, wE_ite, wE_and, wE_or, wE_one, wE_nt, wE_cmp, wE_lc, wI_itr, wI_rng, wA_cons, wA_nil, wpO, wpF, List.set, List.getElem?_cons_zero, List.getElem?_cons_succ, Option.join_some, Bool.false_eq_true, if_false, if_true, wE_neg, wE_chn, wE_lset, wE_inW, wE_ixW, wS_fr, wS_rais, wT_chn, t_bl, later_nil, ofS_inj, decide_false, decide_true, Bool.or_false, Bool.false_or, Bool.or_true, Bool.true_or, Bool.not_false, Bool.not_true, Bool.and_true, Bool.true_and, reduceCtorEq, String.reduceEq, String.reduceNe, c_eq_str, c_ne_str, inT2, inT3, ninT3, ML.ix_tup, at2_0, at2_1, at2_m1, at2_m2, at3_0, at3_1, at3_2, at3_m1, at3_m2, at4_0, at4_1, at4_2, at4_3, at4_m1, at4_m2, Int.reduceNeg, nl0, nl1, nl2, nl3, nl4, true_and, list_tup, b_len_tup, inT4, ninT4, ninT5, t_tup, at0, at1_0, List.isEmpty_nil, List.isEmpty_cons]
      rw [later]
      simp only [wrs_seqL, wS_asg, wS_ife, wS_ret, wS_nil, wS_exp, wE_cS, wE_cI, wE_cN, wE_cB, wE_call, wE_var, wE_glb, wE_bop, wE_idx, wE_lst, wE_tup, wE_blt, wE_met, wT_cmp, wT_and, wT_or, wT_nt, wT_one, wT_tru, wE_ite, wE_and, wE_or, wE_one, wE_nt, wE_cmp, wE_lc, wI_itr, wI_rng, wA_cons, wA_nil, wpO, wpF, List.set, List.getElem?_cons_zero, List.getElem?_cons_succ, Option.join_some, Bool.false_eq_true, if_false, if_true, wE_neg, wE_chn, wE_lset, wE_inW, wE_ixW, wS_fr, wS_rais, wT_chn, t_bl, later_nil, ofS_inj, decide_false, decide_true, Bool.or_false, Bool.false_or, Bool.or_true, Bool.true_or, Bool.not_false, Bool.not_true, Bool.and_true, Bool.true_and, reduceCtorEq, String.reduceEq, String.reduceNe, c_eq_str, c_ne_str, inT2, inT3, ninT3, ML.ix_tup, at2_0, at2_1, at2_m1, at2_m2, at3_0, at3_1, at3_2, at3_m1, at3_m2, at4_0, at4_1, at4_2, at4_3, at4_m1, at4_m2, Int.reduceNeg, nl0, nl1, nl2, nl3, nl4, true_and, list_tup, b_len_tup, inT4, ninT4, ninT5, t_tup, at0, at1_0, List.isEmpty_nil, List.isEmpty_cons, str_str]
      exact ⟨rfl, .refl hS⟩
    | @word n b s k h1 =>
      have := h1.1
      simp only [f_tree_words, wrs_seqL, wS_asg, wS_ife, wS_ret, wS_nil, wS_exp, wE_cS, wE_cI, wE_cN, wE_cB, wE_call, wE_var, wE_glb, wE_bop, wE_idx, wE_lst, wE_tup, wE_blt, wE_met, wT_cmp, wT_and, wT_or, wT_nt, wT_one, wT_tru, wE_ite, wE_and, wE_or, wE_one, wE_nt, wE_cmp, wE_lc, wI_itr, wI_rng, wA_cons, wA_nil, wpO, wpF, List.set, List.getElem?_cons_zero, List.getElem?_cons_succ, Option.join_some, Bool.false_eq_true, if_false, if_true, wE_neg, wE_chn, wE_lset, wE_inW, wE_ixW, wS_fr, wS_rais, wT_chn, t_bl, later_nil, ofS_inj, decide_false, decide_true, Bool.or_false, Bool.false_or, Bool.or_true, Bool.true_or, Bool.not_false, Bool.not_true, Bool.and_true, Bool.true_and, reduceCtorEq, String.reduceEq, String.reduceNe, c_eq_str, c_ne_str, inT2, inT3, ninT3, ML.ix_tup, at2_0, at2_1, at2_m1, at2_m2, at3_0, at3_1, at3_2, at3_m1, at3_m2, at4_0, at4_1, at4_2, at4_3, at4_m1, at4_m2, Int.reduceNeg, nl0, nl1, nl2, nl3, nl4, true_and, list_tup, b_len_tup, inT4, ninT4, ninT5, t_tup, at0, at1_0, List.isEmpty_nil, List.isEmpty_cons]
      iterate 2 (rw [later]; simp only [wrs_seqL, wS_asg, wS_ife, wS_ret, wS_nil, wS_exp, wE_cS, wE_cI, wE_cN, wE_cB, wE_call, wE_var, wE_glb, wE_bop, wE_idx, wE_lst, wE_tup, wE_blt, wE_met, wT_cmp, wT_and, wT_or, wT_nt, wT_one, wT_tru, wE_ite, wE_and, wE_or, wE_one, wE_nt, wE_cmp, wE_lc, wI_itr, wI_rng, wA_cons, wA_nil, wpO, wpF, List.set, List.getElem?_cons_zero, List.getElem?_cons_succ, Option.join_some, Bool.false_eq_true, if_false, if_true, wE_neg, wE_chn, wE_lset, wE_inW, wE_ixW, wS_fr, wS_rais, wT_chn, t_bl, later_nil, ofS_inj, decide_false, decide_true, Bool.or_false, Bool.false_or, Bool.or_true, Bool.true_or, Bool.not_false, Bool.not_true, Bool.and_true, Bool.true_and, reduceCtorEq, String.reduceEq, String.reduceNe, c_eq_str, c_ne_str, inT2, inT3, ninT3, ML.ix_tup, at2_0, at2_1, at2_m1, at2_m2, at3_0, at3_1, at3_2, at3_m1, at3_m2, at4_0, at4_1, at4_2, at4_3, at4_m1, at4_m2, Int.reduceNeg, nl0, nl1, nl2, nl3, nl4, true_and, list_tup, b_len_tup, inT4, ninT4, ninT5, t_tup, at0, at1_0, List.isEmpty_nil, List.isEmpty_cons])
      rw [add_str (by rw [hash_len]; omega)]
      exact ⟨rfl, .refl hS⟩
    | @set n b s t w h1 h2 =>
      have hl := wv_le h2 (by omega)
      simp only [f_tree_words, wrs_seqL, wS_asg, wS_ife, wS_ret, wS_nil, wS_exp, wE_cS, wE_cI, wE_cN, wE_cB, wE_call, wE_var, wE_glb, wE_bop, wE_idx, wE_lst, wE_tup, wE_blt, wE_met, wT_cmp, wT_and, wT_or, wT_nt, wT_one, wT_tru, wE_ite, wE_and, wE_or, wE_one, wE_nt, wE_cmp, wE_lc, wI_itr, wI_rng, wA_cons, wA_nil, wpO, wpF, List.set, List.getElem?_cons_zero, List.getElem?_cons_succ, Option.join_some, Bool.false_eq_true, if_false, if_true, wE_neg, wE_chn, wE_lset, wE_inW, wE_ixW, wS_fr, wS_rais, wT_chn, t_bl, later_nil, ofS_inj, decide_false, decide_true, Bool.or_false, Bool.false_or, Bool.or_true, Bool.true_or, Bool.not_false, Bool.not_true, Bool.and_true, Bool.true_and, reduceCtorEq, String.reduceEq, String.reduceNe, c_eq_str, c_ne_str, inT2, inT3, ninT3, ML.ix_tup, at2_0, at2_1, at2_m1, at2_m2, at3_0, at3_1, at3_2, at3_m1, at3_m2, at4_0, at4_1, at4_2, at4_3, at4_m1, at4_m2, Int.reduceNeg, nl0, nl1, nl2, nl3, nl4, true_and, list_tup, b_len_tup, inT4, ninT4, ninT5, t_tup, at0, at1_0, List.isEmpty_nil, List.isEmpty_cons]
      iterate 3 (rw [later]; simp only [wrs_seqL, wS_asg, wS_ife, wS_ret, wS_nil, wS_exp, wE_cS, wE_cI, wE_cN, wE_cB, wE_call, wE_var, wE_glb, wE_bop, wE_idx, wE_lst, wE_tup, wE_blt, wE_met, wT_cmp, wT_and, wT_or, wT_nt, wT_one, wT_tru, wE_ite, wE_and, wE_or, wE_one, wE_nt, wE_cmp, wE_lc, wI_itr, wI_rng, wA_cons, wA_nil, wpO, wpF, List.set, List.getElem?_cons_zero, List.getElem?_cons_succ, Option.join_some, Bool.false_eq_true, if_false, if_true, wE_neg, wE_chn, wE_lset, wE_inW, wE_ixW, wS_fr, wS_rais, wT_chn, t_bl, later_nil, ofS_inj, decide_false, decide_true, Bool.or_false, Bool.false_or, Bool.or_true, Bool.true_or, Bool.not_false, Bool.not_true, Bool.and_true, Bool.true_and, reduceCtorEq, String.reduceEq, String.reduceNe, c_eq_str, c_ne_str, inT2, inT3, ninT3, ML.ix_tup, at2_0, at2_1, at2_m1, at2_m2, at3_0, at3_1, at3_2, at3_m1, at3_m2, at4_0, at4_1, at4_2, at4_3, at4_m1, at4_m2, Int.reduceNeg, nl0, nl1, nl2, nl3, nl4, true_and, list_tup, b_len_tup, inT4, ninT4, ninT5, t_tup, at0, at1_0, List.isEmpty_nil, List.isEmpty_cons])
      refine (ih l _ _ _ S (by omega) (by omega) hS h2).wpr fun S1 G1 => ?_
      simp only [lw]
      rw [add_lw (by rw [List.length_map]; show 2 + _ ≤ _; omega)]
      exact ⟨rfl, G1⟩
    | @back n t w h2 =>
      have hl := wv_le h2 (by omega)
      simp only [f_tree_words, wrs_seqL, wS_asg, wS_ife, wS_ret, wS_nil, wS_exp, wE_cS, wE_cI, wE_cN, wE_cB, wE_call, wE_var, wE_glb, wE_bop, wE_idx, wE_lst, wE_tup, wE_blt, wE_met, wT_cmp, wT_and, wT_or, wT_nt, wT_one, wT_tru, wE_ite, wE_and, wE_or, wE_one, wE_nt, wE_cmp, wE_lc, wI_itr, wI_rng, wA_cons, wA_nil, wpO, wpF, List.set, List.getElem?_cons_zero, List.getElem?_cons_succ, Option.join_some, Bool.false_eq_true, if_false, if_true, wE_neg, wE_chn, wE_lset, wE_inW, wE_ixW, wS_fr, wS_rais, wT_chn, t_bl, later_nil, ofS_inj, decide_false, decide_true, Bool.or_false, Bool.false_or, Bool.or_true, Bool.true_or, Bool.not_false, Bool.not_true, Bool.and_true, Bool.true_and, reduceCtorEq, String.reduceEq, String.reduceNe, c_eq_str, c_ne_str, inT2, inT3, ninT3, ML.ix_tup, at2_0, at2_1, at2_m1, at2_m2, at3_0, at3_1, at3_2, at3_m1, at3_m2, at4_0, at4_1, at4_2, at4_3, at4_m1, at4_m2, Int.reduceNeg, nl0, nl1, nl2, nl3, nl4, true_and, list_tup, b_len_tup, inT4, ninT4, ninT5, t_tup, at0, at1_0, List.isEmpty_nil, List.isEmpty_cons]
      iterate 4 (rw [later]; simp only [wrs_seqL, wS_asg, wS_ife, wS_ret, wS_nil, wS_exp, wE_cS, wE_cI, wE_cN, wE_cB, wE_call, wE_var, wE_glb, wE_bop, wE_idx, wE_lst, wE_tup, wE_blt, wE_met, wT_cmp, wT_and, wT_or, wT_nt, wT_one, wT_tru, wE_ite, wE_and, wE_or, wE_one, wE_nt, wE_cmp, wE_lc, wI_itr, wI_rng, wA_cons, wA_nil, wpO, wpF, List.set, List.getElem?_cons_zero, List.getElem?_cons_succ, Option.join_some, Bool.false_eq_true, if_false, if_true, wE_neg, wE_chn, wE_lset, wE_inW, wE_ixW, wS_fr, wS_rais, wT_chn, t_bl, later_nil, ofS_inj, decide_false, decide_true, Bool.or_false, Bool.false_or, Bool.or_true, Bool.true_or, Bool.not_false, Bool.not_true, Bool.and_true, Bool.true_and, reduceCtorEq, String.reduceEq, String.reduceNe, c_eq_str, c_ne_str, inT2, inT3, ninT3, ML.ix_tup, at2_0, at2_1, at2_m1, at2_m2, at3_0, at3_1, at3_2, at3_m1, at3_m2, at4_0, at4_1, at4_2, at4_3, at4_m1, at4_m2, Int.reduceNeg, nl0, nl1, nl2, nl3, nl4, true_and, list_tup, b_len_tup, inT4, ninT4, ninT5, t_tup, at0, at1_0, List.isEmpty_nil, List.isEmpty_cons])
      refine (ih l _ _ _ S (by omega) (by omega) hS h2).wpr fun S1 G1 => ?_
      simp only [lw]
      rw [add_lw (by rw [List.length_map]; show 1 + _ ≤ _; omega)]
      exact ⟨rfl, G1⟩
    | @blk n b ps ms bs f h1 h2 h3 h4 h5 =>
      have hr := row_le (ms := ms) h5 (by omega) (by omega) (by omega)
      simp only [f_tree_words, wrs_seqL, wS_asg, wS_ife, wS_ret, wS_nil, wS_exp, wE_cS, wE_cI, wE_cN, wE_cB, wE_call, wE_var, wE_glb, wE_bop, wE_idx, wE_lst, wE_tup, wE_blt, wE_met, wT_cmp, wT_and, wT_or, wT_nt, wT_one, wT_tru, wE_ite, wE_and, wE_or, wE_one, wE_nt, wE_cmp, wE_lc, wI_itr, wI_rng, wA_cons, wA_nil, wpO, wpF, List.set, List.getElem?_cons_zero, List.getElem?_cons_succ, Option.join_some, Bool.false_eq_true, if_false, if_true, wE_neg, wE_chn, wE_lset, wE_inW, wE_ixW, wS_fr, wS_rais, wT_chn, t_bl, later_nil, ofS_inj, decide_false, decide_true, Bool.or_false, Bool.false_or, Bool.or_true, Bool.true_or, Bool.not_false, Bool.not_true, Bool.and_true, Bool.true_and, reduceCtorEq, String.reduceEq, String.reduceNe, c_eq_str, c_ne_str, inT2, inT3, ninT3, ML.ix_tup, at2_0, at2_1, at2_m1, at2_m2, at3_0, at3_1, at3_2, at3_m1, at3_m2, at4_0, at4_1, at4_2, at4_3, at4_m1, at4_m2, Int.reduceNeg, nl0, nl1, nl2, nl3, nl4, true_and, list_tup, b_len_tup, inT4, ninT4, ninT5, t_tup, at0, at1_0, List.isEmpty_nil, List.isEmpty_cons]
      iterate 5 (rw [later]; simp only [wrs_seqL, wS_asg, wS_ife, wS_ret, wS_nil, wS_exp, wE_cS, wE_cI, wE_cN, wE_cB, wE_call, wE_var, wE_glb, wE_bop, wE_idx, wE_lst, wE_tup, wE_blt, wE_met, wT_cmp, wT_and, wT_or, wT_nt, wT_one, wT_tru, wE_ite, wE_and, wE_or, wE_one, wE_nt, wE_cmp, wE_lc, wI_itr, wI_rng, wA_cons, wA_nil, wpO, wpF, List.set, List.getElem?_cons_zero, List.getElem?_cons_succ, Option.join_some, Bool.false_eq_true, if_false, if_true, wE_neg, wE_chn, wE_lset, wE_inW, wE_ixW, wS_fr, wS_rais, wT_chn, t_bl, later_nil, ofS_inj, decide_false, decide_true, Bool.or_false, Bool.false_or, Bool.or_true, Bool.true_or, Bool.not_false, Bool.not_true, Bool.and_true, Bool.true_and, reduceCtorEq, String.reduceEq, String.reduceNe, c_eq_str, c_ne_str, inT2, inT3, ninT3, ML.ix_tup, at2_0, at2_1, at2_m1, at2_m2, at3_0, at3_1, at3_2, at3_m1, at3_m2, at4_0, at4_1, at4_2, at4_3, at4_m1, at4_m2, Int.reduceNeg, nl0, nl1, nl2, nl3, nl4, true_and, list_tup, b_len_tup, inT4, ninT4, ninT5, t_tup, at0, at1_0, List.isEmpty_nil, List.isEmpty_cons, wS_asgC, src_tup])
      have ecol : Str.ofString ":" = colS := rfl
      refine (comp_keep_all (fun d => match d with | .str s => .str (colS ++ s) | _ => .non) hS (by rw [List.length_map]; exact Nat.lt_of_le_of_lt h1 (by decide)) fun x hx S' G' => ?_).wpr fun S1 G1 => ?_
      · obtain ⟨s, hs, rfl⟩ := List.mem_map.mp hx
        refine turn_ups rfl (Gv.ups ?_)
        have := name_len (h3 s (List.mem_append_left _ hs))
        simp only [wrs_seqL, wS_asg, wS_ife, wS_ret, wS_nil, wS_exp, wE_cS, wE_cI, wE_cN, wE_cB, wE_call, wE_var, wE_glb, wE_bop, wE_idx, wE_lst, wE_tup, wE_blt, wE_met, wT_cmp, wT_and, wT_or, wT_nt, wT_one, wT_tru, wE_ite, wE_and, wE_or, wE_one, wE_nt, wE_cmp, wE_lc, wI_itr, wI_rng, wA_cons, wA_nil, wpO, wpF, List.set, List.getElem?_cons_zero, List.getElem?_cons_succ, Option.join_some, Bool.false_eq_true, if_false, if_true, wE_neg, wE_chn, wE_lset, wE_inW, wE_ixW, wS_fr, wS_rais, wT_chn, t_bl, later_nil, List.map, wipeE, ecol]
        rw [add_str (by rw [col_len]; omega)]
        exact ⟨rfl, .refl G'.wf⟩
      · rw [List.map_map]
        have em : ((fun (d : D) => match d with | .str s => D.str (colS ++ s) | _ => .non) ∘ D.str) = fun s => D.str (colS ++ s) := rfl
        rw [em]
        rw [later]
        simp only [wrs_seqL, wS_asg, wS_ife, wS_ret, wS_nil, wS_exp, wE_cS, wE_cI, wE_cN, wE_cB, wE_call, wE_var, wE_glb, wE_bop, wE_idx, wE_lst, wE_tup, wE_blt, wE_met, wT_cmp, wT_and, wT_or, wT_nt, wT_one, wT_tru, wE_ite, wE_and, wE_or, wE_one, wE_nt, wE_cmp, wE_lc, wI_itr, wI_rng, wA_cons, wA_nil, wpO, wpF, List.set, List.getElem?_cons_zero, List.getElem?_cons_succ, Option.join_some, Bool.false_eq_true, if_false, if_true, wE_neg, wE_chn, wE_lset, wE_inW, wE_ixW, wS_fr, wS_rais, wT_chn, t_bl, later_nil, ofS_inj, decide_false, decide_true, Bool.or_false, Bool.false_or, Bool.or_true, Bool.true_or, Bool.not_false, Bool.not_true, Bool.and_true, Bool.true_and, reduceCtorEq, String.reduceEq, String.reduceNe, c_eq_str, c_ne_str, inT2, inT3, ninT3, ML.ix_tup, at2_0, at2_1, at2_m1, at2_m2, at3_0, at3_1, at3_2, at3_m1, at3_m2, at4_0, at4_1, at4_2, at4_3, at4_m1, at4_m2, Int.reduceNeg, nl0, nl1, nl2, nl3, nl4, true_and, list_tup, b_len_tup, inT4, ninT4, ninT5, t_tup, at0, at1_0, List.isEmpty_nil, List.isEmpty_cons, t_lst]
        rw [add_lw (by rw [List.length_map]; show 1 + _ ≤ _; omega)]
        simp only [wpF, Bool.false_eq_true, if_false]
        have epar : ∀ q : List D, q = (if ps.isEmpty then [] else [D.str (Str.ofString "|")]) → wpF false (binP S1 .Add (.lst ([D.str (Str.ofString "[")] ++ ps.map fun s => D.str (colS ++ s))) (.lst q)) = wpF false (some (.newl (([Str.ofString "["] ++ parW ps).map D.str))) := by
          rintro q rfl
          have : (if ps.isEmpty then [] else [D.str (Str.ofString "|")]).length ≤ 1 := by split <;> simp
          rw [add_lw (by rw [List.length_append, List.length_map]; show 1 + _ + _ ≤ _; omega)]
          congr 3
          unfold parW
          cases ps with
          | nil => rfl
          | cons _ _ => simp [List.map_map]
        have fin : wpF false (some (.newl (([Str.ofString "["] ++ parW ps).map D.str))) (fun x S2 => wpr (sem T l 15 [.tup (ms.map D.str), .tup bs] S2) (fun y S3 => wpF false (binP S3 .Add x y) (fun z S4 => wpF false (binP S4 .Add z (.lst [.str (Str.ofString "]")])) (Gv (lw ([Str.ofString "["] ++ parW ps ++ rowW f ms bs ++ [Str.ofString "]"])) S) S4) S3) (fun _ _ => False)) S1 := by
          have hpl := par_len (ps := ps)
          simp only [wpF, Bool.false_eq_true, if_false]
          refine (bodyWU ih (by omega) (by omega) G1.wf (by omega) (by omega) h5).wpr fun S2 G2 => ?_
          simp only [lw]
          rw [add_lw (by simp only [List.length_map, List.length_append, List.length_cons, List.length_nil]; omega)]
          simp only [wpF, Bool.false_eq_true, if_false]
          rw [add_lw (by simp only [List.length_map, List.length_append, List.length_cons, List.length_nil]; omega)]
          simp only [wpF, Bool.false_eq_true, if_false]
          refine ⟨?_, G1.trans G2⟩
          simp [lw]
        cases q : ps.isEmpty with
        | true =>
          have : (ps.map fun s => D.str (colS ++ s)).isEmpty = true := by cases ps with | nil => rfl | cons _ _ => cases q
          rw [this]
          simp only [Bool.not_true, Bool.false_eq_true, if_false]
          have e := epar [] (by rw [q]; rfl)
          have fin2 := fin
          rw [← e] at fin2
          exact fin2
        | false =>
          have : (ps.map fun s => D.str (colS ++ s)).isEmpty = false := by cases ps with | nil => cases q | cons _ _ => rfl
          rw [this]
          simp only [Bool.not_false, if_true]
          have e := epar [D.str (Str.ofString "|")] (by rw [q]; rfl)
          have fin2 := fin
          rw [← e] at fin2
          exact fin2
    | @sup n b s ts f h1 h2 h4 =>
      have hll := laid_le (s := s) (m := rkOf s - 1) h4 (by omega) h2
      have hrk := rk_le s
      simp only [f_tree_words, wrs_seqL, wS_asg, wS_ife, wS_ret, wS_nil, wS_exp, wE_cS, wE_cI, wE_cN, wE_cB, wE_call, wE_var, wE_glb, wE_bop, wE_idx, wE_lst, wE_tup, wE_blt, wE_met, wT_cmp, wT_and, wT_or, wT_nt, wT_one, wT_tru, wE_ite, wE_and, wE_or, wE_one, wE_nt, wE_cmp, wE_lc, wI_itr, wI_rng, wA_cons, wA_nil, wpO, wpF, List.set, List.getElem?_cons_zero, List.getElem?_cons_succ, Option.join_some, Bool.false_eq_true, if_false, if_true, wE_neg, wE_chn, wE_lset, wE_inW, wE_ixW, wS_fr, wS_rais, wT_chn, t_bl, later_nil, ofS_inj, decide_false, decide_true, Bool.or_false, Bool.false_or, Bool.or_true, Bool.true_or, Bool.not_false, Bool.not_true, Bool.and_true, Bool.true_and, reduceCtorEq, String.reduceEq, String.reduceNe, c_eq_str, c_ne_str, inT2, inT3, ninT3, ML.ix_tup, at2_0, at2_1, at2_m1, at2_m2, at3_0, at3_1, at3_2, at3_m1, at3_m2, at4_0, at4_1, at4_2, at4_3, at4_m1, at4_m2, Int.reduceNeg, nl0, nl1, nl2, nl3, nl4, true_and, list_tup, b_len_tup, inT4, ninT4, ninT5, t_tup, at0, at1_0, List.isEmpty_nil, List.isEmpty_cons]
      iterate 6 (rw [later]; simp only [wrs_seqL, wS_asg, wS_ife, wS_ret, wS_nil, wS_exp, wE_cS, wE_cI, wE_cN, wE_cB, wE_call, wE_var, wE_glb, wE_bop, wE_idx, wE_lst, wE_tup, wE_blt, wE_met, wT_cmp, wT_and, wT_or, wT_nt, wT_one, wT_tru, wE_ite, wE_and, wE_or, wE_one, wE_nt, wE_cmp, wE_lc, wI_itr, wI_rng, wA_cons, wA_nil, wpO, wpF, List.set, List.getElem?_cons_zero, List.getElem?_cons_succ, Option.join_some, Bool.false_eq_true, if_false, if_true, wE_neg, wE_chn, wE_lset, wE_inW, wE_ixW, wS_fr, wS_rais, wT_chn, t_bl, later_nil, ofS_inj, decide_false, decide_true, Bool.or_false, Bool.false_or, Bool.or_true, Bool.true_or, Bool.not_false, Bool.not_true, Bool.and_true, Bool.true_and, reduceCtorEq, String.reduceEq, String.reduceNe, c_eq_str, c_ne_str, inT2, inT3, ninT3, ML.ix_tup, at2_0, at2_1, at2_m1, at2_m2, at3_0, at3_1, at3_2, at3_m1, at3_m2, at4_0, at4_1, at4_2, at4_3, at4_m1, at4_m2, Int.reduceNeg, nl0, nl1, nl2, nl3, nl4, true_and, list_tup, b_len_tup, inT4, ninT4, ninT5, t_tup, at0, at1_0, List.isEmpty_nil, List.isEmpty_cons])
      refine (rankU (by omega) hS h1).wpr fun S1 G1 => ?_
      iterate 2 (rw [later]; simp only [wrs_seqL, wS_asg, wS_ife, wS_ret, wS_nil, wS_exp, wE_cS, wE_cI, wE_cN, wE_cB, wE_call, wE_var, wE_glb, wE_bop, wE_idx, wE_lst, wE_tup, wE_blt, wE_met, wT_cmp, wT_and, wT_or, wT_nt, wT_one, wT_tru, wE_ite, wE_and, wE_or, wE_one, wE_nt, wE_cmp, wE_lc, wI_itr, wI_rng, wA_cons, wA_nil, wpO, wpF, List.set, List.getElem?_cons_zero, List.getElem?_cons_succ, Option.join_some, Bool.false_eq_true, if_false, if_true, wE_neg, wE_chn, wE_lset, wE_inW, wE_ixW, wS_fr, wS_rais, wT_chn, t_bl, later_nil, ofS_inj, decide_false, decide_true, Bool.or_false, Bool.false_or, Bool.or_true, Bool.true_or, Bool.not_false, Bool.not_true, Bool.and_true, Bool.true_and, reduceCtorEq, String.reduceEq, String.reduceNe, c_eq_str, c_ne_str, inT2, inT3, ninT3, ML.ix_tup, at2_0, at2_1, at2_m1, at2_m2, at3_0, at3_1, at3_2, at3_m1, at3_m2, at4_0, at4_1, at4_2, at4_3, at4_m1, at4_m2, Int.reduceNeg, nl0, nl1, nl2, nl3, nl4, true_and, list_tup, b_len_tup, inT4, ninT4, ninT5, t_tup, at0, at1_0, List.isEmpty_nil, List.isEmpty_cons, src_tup])
      refine (comp_keep_all (fun x => lw (br (f x) (rkOf s - 1))) G1.wf (Nat.lt_of_le_of_lt h2 (by decide)) fun x hx S' G' => ?_).wpr fun S2 G2 => ?_
      · refine turn_ups rfl (Gv.ups ?_)
        simp only [wrs_seqL, wS_asg, wS_ife, wS_ret, wS_nil, wS_exp, wE_cS, wE_cI, wE_cN, wE_cB, wE_call, wE_var, wE_glb, wE_bop, wE_idx, wE_lst, wE_tup, wE_blt, wE_met, wT_cmp, wT_and, wT_or, wT_nt, wT_one, wT_tru, wE_ite, wE_and, wE_or, wE_one, wE_nt, wE_cmp, wE_lc, wI_itr, wI_rng, wA_cons, wA_nil, wpO, wpF, List.set, List.getElem?_cons_zero, List.getElem?_cons_succ, Option.join_some, Bool.false_eq_true, if_false, if_true, wE_neg, wE_chn, wE_lset, wE_inW, wE_ixW, wS_fr, wS_rais, wT_chn, t_bl, later_nil, List.map, wipeE, sub_int]
        rw [show (rkOf s : Int) - 1 = ((rkOf s - 1 : Nat) : Int) by omega]
        exact (bracketU ih (by omega) (by omega) G'.wf (h4 x hx)).wpr fun S4 G4 => ⟨rfl, G4⟩
      · rw [parts_map]
        refine (laidU (by omega) G2.wf h1 (List.length_map ..) h2 (parts_le h4 (by omega)) (by decide)).wpr fun S3 G3 => ?_
        simp only [lw]
        rw [add_lw (by rw [List.length_map]; show 1 + _ ≤ _; omega)]
        exact ⟨by simp [lw], (G1.trans G2).trans G3⟩
    | @send n b t s ts w f h1 h2 h3 h4 =>
      have hll := laid_le (s := s) (m := rkOf s - 1) h4 (by omega) h2
      have hrk := rk_le s
      have hbl := br_le (m := min (rkOf s) 2) h3 (by omega)
      simp only [f_tree_words, wrs_seqL, wS_asg, wS_ife, wS_ret, wS_nil, wS_exp, wE_cS, wE_cI, wE_cN, wE_cB, wE_call, wE_var, wE_glb, wE_bop, wE_idx, wE_lst, wE_tup, wE_blt, wE_met, wT_cmp, wT_and, wT_or, wT_nt, wT_one, wT_tru, wE_ite, wE_and, wE_or, wE_one, wE_nt, wE_cmp, wE_lc, wI_itr, wI_rng, wA_cons, wA_nil, wpO, wpF, List.set, List.getElem?_cons_zero, List.getElem?_cons_succ, Option.join_some, Bool.false_eq_true, if_false, if_true, wE_neg, wE_chn, wE_lset, wE_inW, wE_ixW, wS_fr, wS_rais, wT_chn, t_bl, later_nil, ofS_inj, decide_false, decide_true, Bool.or_false, Bool.false_or, Bool.or_true, Bool.true_or, Bool.not_false, Bool.not_true, Bool.and_true, Bool.true_and, reduceCtorEq, String.reduceEq, String.reduceNe, c_eq_str, c_ne_str, inT2, inT3, ninT3, ML.ix_tup, at2_0, at2_1, at2_m1, at2_m2, at3_0, at3_1, at3_2, at3_m1, at3_m2, at4_0, at4_1, at4_2, at4_3, at4_m1, at4_m2, Int.reduceNeg, nl0, nl1, nl2, nl3, nl4, true_and, list_tup, b_len_tup, inT4, ninT4, ninT5, t_tup, at0, at1_0, List.isEmpty_nil, List.isEmpty_cons]
      iterate 6 (rw [later]; simp only [wrs_seqL, wS_asg, wS_ife, wS_ret, wS_nil, wS_exp, wE_cS, wE_cI, wE_cN, wE_cB, wE_call, wE_var, wE_glb, wE_bop, wE_idx, wE_lst, wE_tup, wE_blt, wE_met, wT_cmp, wT_and, wT_or, wT_nt, wT_one, wT_tru, wE_ite, wE_and, wE_or, wE_one, wE_nt, wE_cmp, wE_lc, wI_itr, wI_rng, wA_cons, wA_nil, wpO, wpF, List.set, List.getElem?_cons_zero, List.getElem?_cons_succ, Option.join_some, Bool.false_eq_true, if_false, if_true, wE_neg, wE_chn, wE_lset, wE_inW, wE_ixW, wS_fr, wS_rais, wT_chn, t_bl, later_nil, ofS_inj, decide_false, decide_true, Bool.or_false, Bool.false_or, Bool.or_true, Bool.true_or, Bool.not_false, Bool.not_true, Bool.and_true, Bool.true_and, reduceCtorEq, String.reduceEq, String.reduceNe, c_eq_str, c_ne_str, inT2, inT3, ninT3, ML.ix_tup, at2_0, at2_1, at2_m1, at2_m2, at3_0, at3_1, at3_2, at3_m1, at3_m2, at4_0, at4_1, at4_2, at4_3, at4_m1, at4_m2, Int.reduceNeg, nl0, nl1, nl2, nl3, nl4, true_and, list_tup, b_len_tup, inT4, ninT4, ninT5, t_tup, at0, at1_0, List.isEmpty_nil, List.isEmpty_cons])
      refine (rankU (by omega) hS h1).wpr fun S1 G1 => ?_
      rw [later]; simp only [wrs_seqL, wS_asg, wS_ife, wS_ret, wS_nil, wS_exp, wE_cS, wE_cI, wE_cN, wE_cB, wE_call, wE_var, wE_glb, wE_bop, wE_idx, wE_lst, wE_tup, wE_blt, wE_met, wT_cmp, wT_and, wT_or, wT_nt, wT_one, wT_tru, wE_ite, wE_and, wE_or, wE_one, wE_nt, wE_cmp, wE_lc, wI_itr, wI_rng, wA_cons, wA_nil, wpO, wpF, List.set, List.getElem?_cons_zero, List.getElem?_cons_succ, Option.join_some, Bool.false_eq_true, if_false, if_true, wE_neg, wE_chn, wE_lset, wE_inW, wE_ixW, wS_fr, wS_rais, wT_chn, t_bl, later_nil, ofS_inj, decide_false, decide_true, Bool.or_false, Bool.false_or, Bool.or_true, Bool.true_or, Bool.not_false, Bool.not_true, Bool.and_true, Bool.true_and, reduceCtorEq, String.reduceEq, String.reduceNe, c_eq_str, c_ne_str, inT2, inT3, ninT3, ML.ix_tup, at2_0, at2_1, at2_m1, at2_m2, at3_0, at3_1, at3_2, at3_m1, at3_m2, at4_0, at4_1, at4_2, at4_3, at4_m1, at4_m2, Int.reduceNeg, nl0, nl1, nl2, nl3, nl4, true_and, list_tup, b_len_tup, inT4, ninT4, ninT5, t_tup, at0, at1_0, List.isEmpty_nil, List.isEmpty_cons, min_int]
      rw [show (if (2 : Int) < (rkOf s : Int) then (2 : Int) else (rkOf s : Int)) = ((min (rkOf s) 2 : Nat) : Int) by split <;> omega]
      refine (bracketU ih (by omega) (by omega) G1.wf h3).wpr fun S1' G1' => ?_
      have G1 := G1.trans G1'
      rw [later]; simp only [wrs_seqL, wS_asg, wS_ife, wS_ret, wS_nil, wS_exp, wE_cS, wE_cI, wE_cN, wE_cB, wE_call, wE_var, wE_glb, wE_bop, wE_idx, wE_lst, wE_tup, wE_blt, wE_met, wT_cmp, wT_and, wT_or, wT_nt, wT_one, wT_tru, wE_ite, wE_and, wE_or, wE_one, wE_nt, wE_cmp, wE_lc, wI_itr, wI_rng, wA_cons, wA_nil, wpO, wpF, List.set, List.getElem?_cons_zero, List.getElem?_cons_succ, Option.join_some, Bool.false_eq_true, if_false, if_true, wE_neg, wE_chn, wE_lset, wE_inW, wE_ixW, wS_fr, wS_rais, wT_chn, t_bl, later_nil, ofS_inj, decide_false, decide_true, Bool.or_false, Bool.false_or, Bool.or_true, Bool.true_or, Bool.not_false, Bool.not_true, Bool.and_true, Bool.true_and, reduceCtorEq, String.reduceEq, String.reduceNe, c_eq_str, c_ne_str, inT2, inT3, ninT3, ML.ix_tup, at2_0, at2_1, at2_m1, at2_m2, at3_0, at3_1, at3_2, at3_m1, at3_m2, at4_0, at4_1, at4_2, at4_3, at4_m1, at4_m2, Int.reduceNeg, nl0, nl1, nl2, nl3, nl4, true_and, list_tup, b_len_tup, inT4, ninT4, ninT5, t_tup, at0, at1_0, List.isEmpty_nil, List.isEmpty_cons, src_tup]
      refine (comp_keep_all (fun x => lw (br (f x) (rkOf s - 1))) G1.wf (Nat.lt_of_le_of_lt h2 (by decide)) fun x hx S' G' => ?_).wpr fun S2 G2 => ?_
      · refine turn_ups rfl (Gv.ups ?_)
        simp only [wrs_seqL, wS_asg, wS_ife, wS_ret, wS_nil, wS_exp, wE_cS, wE_cI, wE_cN, wE_cB, wE_call, wE_var, wE_glb, wE_bop, wE_idx, wE_lst, wE_tup, wE_blt, wE_met, wT_cmp, wT_and, wT_or, wT_nt, wT_one, wT_tru, wE_ite, wE_and, wE_or, wE_one, wE_nt, wE_cmp, wE_lc, wI_itr, wI_rng, wA_cons, wA_nil, wpO, wpF, List.set, List.getElem?_cons_zero, List.getElem?_cons_succ, Option.join_some, Bool.false_eq_true, if_false, if_true, wE_neg, wE_chn, wE_lset, wE_inW, wE_ixW, wS_fr, wS_rais, wT_chn, t_bl, later_nil, List.map, wipeE, sub_int]
        rw [show (rkOf s : Int) - 1 = ((rkOf s - 1 : Nat) : Int) by omega]
        exact (bracketU ih (by omega) (by omega) G'.wf (h4 x hx)).wpr fun S4 G4 => ⟨rfl, G4⟩
      · rw [parts_map]
        refine (laidU (by omega) G2.wf h1 (List.length_map ..) h2 (parts_le h4 (by omega)) (by decide)).wpr fun S3 G3 => ?_
        simp only [lw]
        rw [add_lw (by rw [List.length_map, List.length_map]; omega)]
        exact ⟨by simp [lw], (G1.trans G2).trans G3⟩
end K10

namespace K10
open PySem L2 ML

theorem nl5 {x y z u w : D} : ([x, y, z, u, w].length ≤ nMax) = True := eq_true (by show 5 ≤ nMax; decide)
theorem wv_rk {n : Nat} {b : Bool} {d : D} {w : W2} (h : WV n b d w) : w.2 ≤ 4 := by
  cases h with
  | send _ _ _ _ => have := rk_le ‹Str›; show rkOf _ ≤ 4; omega
  | sup _ _ _ => have := rk_le ‹Str›; show rkOf _ ≤ 4; omega
  | set _ _ => exact Nat.le_refl 4
  | _ => exact Nat.zero_le 4
theorem br_4 {n : Nat} {b : Bool} {d : D} {w : W2} (h : WV n b d w) : br w 4 = w.1 := by
  unfold br
  rw [if_neg (by have := wv_rk h; omega)]
theorem eq_nilT {S : Store} {xs : List D} {n : Nat} (h : ∀ x ∈ xs, PyX n x) (hn : n ≤ 60) : cmpP S .NotEq (.tup xs) (.tup []) = some (!xs.isEmpty) := by
  obtain ⟨ps, k1, k2, k3, k4⟩ := pys_x h
  show (match py (.tup xs), py (.tup []) with
    | some a, some b => if (SeqAt.shaped a && SeqAt.shaped b) = true then some (PyData.eqv a b) else none
    | _, _ => none).map (!·) = _
  rw [show py (.tup xs) = some (.tuple ps) by show (pys xs).map PyData.tuple = _; rw [k1]; rfl, show py (.tup []) = some (.tuple []) from rfl]
  have e1 : SeqAt.shaped (.tuple ps) = true := by
    unfold SeqAt.shaped
    show (PyData.canLayAll0 ps && decide (PyData.depthAll ps + 1 ≤ 64)) = true
    rw [k2, decide_eq_true (by omega)]; rfl
  simp only [e1, show SeqAt.shaped (.tuple []) = true from rfl, Bool.and_self, if_true]
  cases xs with
  | nil => cases ps with
    | nil => rfl
    | cons _ _ => cases k4
  | cons _ _ => cases ps with
    | nil => cases k4
    | cons _ _ => rfl
theorem eq_nilL {S : Store} {xs : List D} {n : Nat} (h : ∀ x ∈ xs, PyX n x) (hn : n ≤ 60) : cmpP S .NotEq (.lst xs) (.lst []) = some (!xs.isEmpty) := by
  obtain ⟨ps, k1, k2, k3, k4⟩ := pys_x h
  show (match py (.lst xs), py (.lst []) with
    | some a, some b => if (SeqAt.shaped a && SeqAt.shaped b) = true then some (PyData.eqv a b) else none
    | _, _ => none).map (!·) = _
  rw [show py (.lst xs) = some (.list ps) by show (pys xs).map PyData.list = _; rw [k1]; rfl, show py (.lst []) = some (.list []) from rfl]
  have e1 : SeqAt.shaped (.list ps) = true := by
    unfold SeqAt.shaped
    show (PyData.canLayAll0 ps && decide (PyData.depthAll ps + 1 ≤ 64)) = true
    rw [k2, decide_eq_true (by omega)]; rfl
  simp only [e1, show SeqAt.shaped (.list []) = true from rfl, Bool.and_self, if_true]
  cases xs with
  | nil => cases ps with
    | nil => rfl
    | cons _ _ => cases k4
  | cons _ _ => cases ps with
    | nil => cases k4
    | cons _ _ => rfl
theorem rank_law {s : Str} {k : Nat} (h : Ar s k) : (if s ∈ five then 2 else if 58 ∈ s.cps.toList then 3 else 1) = rkOf s := by
  unfold rkOf
  rcases ar_cases h with ⟨hn, z⟩ | ⟨hn, h5, z⟩ | ⟨hn, h5, k1, k3, ps, e, el, hps⟩
  · have nf : s ∉ five := fun z => by
      have : ∀ s ∈ five, isName s = false := by decide +kernel
      rw [this s z] at hn; cases hn
    rw [if_neg nf, if_neg (name_nocol hn), if_pos hn]
  · rw [if_pos h5, if_neg (by rw [hn]; decide), if_pos h5]
  · rw [if_neg h5, if_pos (pcs_col e (by intro z; rw [z] at el; simp at el; omega)), if_neg (by rw [hn]; decide), if_neg h5]
theorem lawRankU {L n : Nat} {b : Bool} {d : D} {w : W2} {S : Store} (hL : 1 ≤ L) (hS : S.WF) (h : WV n b d w) : Ups (sem T L 32 [d] S) S (.int (w.2 : Int)) := by
  obtain ⟨l, rfl⟩ : ∃ n, L = n + 1 := ⟨L - 1, by omega⟩
  refine Gv.ups ?_
  show wpr (endF (evS (sem T l) (gvs T) f_law_rank.body [some d] S)) _ _
  rw [wrs_end]
  have ecol : Str.ofString ":" = colS := rfl
  have nin2 : ∀ (S : Store) (a b c : Str), cmpP S .NotIn (.str a) (.tup [.str b, .str c]) = some (!(decide (a = b) || decide (a = c))) := fun S a b c => by rw [c_notin_txt (xs := [b, c]) rfl, dm2]
  have main : ∀ (s : Str) (k : Nat), Ar s k → ∀ d', d' = D.str s → wpO (cmpP S .In d' (.lst [.str (Str.ofString "+"), .str (Str.ofString "-"), .str (Str.ofString "*"), .str (Str.ofString "<"), .str (Str.ofString "=")])) (fun t => if t = true then Gv (.int (rkOf s : Int)) S (.int 2) S else (if decide (58 ∈ s.cps.toList) = true then Gv (.int (rkOf s : Int)) S (.int 3) S else Gv (.int (rkOf s : Int)) S (.int 1) S)) := by
    rintro s k hs d' rfl
    rw [c_in_txt fiveD]
    simp only [wpO]
    have e := rank_law hs
    by_cases h5 : s ∈ five
    · rw [decide_eq_true h5, if_pos rfl]
      rw [if_pos h5] at e
      exact ⟨by rw [← e]; rfl, .refl hS⟩
    · rw [decide_eq_false h5, if_neg Bool.false_ne_true]
      rw [if_neg h5] at e
      by_cases hc : 58 ∈ s.cps.toList
      · rw [decide_eq_true hc, if_pos rfl]
        rw [if_pos hc] at e
        exact ⟨by rw [← e]; rfl, .refl hS⟩
      · rw [decide_eq_false hc, if_neg Bool.false_ne_true]
        rw [if_neg hc] at e
        exact ⟨by rw [← e]; rfl, .refl hS⟩
  cases h with
  | @send _ _ _ s ts _ _ h1 _ _ _ =>
    simp only [f_law_rank, wrs_seqL, wS_asg, wS_ife, wS_ret, wS_nil, wS_exp, wE_cS, wE_cI, wE_cN, wE_cB, wE_call, wE_var, wE_glb, wE_bop, wE_idx, wE_lst, wE_tup, wE_blt, wE_met, wT_cmp, wT_and, wT_or, wT_nt, wT_one, wT_tru, wE_ite, wE_and, wE_or, wE_one, wE_nt, wE_cmp, wE_lc, wI_itr, wI_rng, wA_cons, wA_nil, wpO, wpF, List.set, List.getElem?_cons_zero, List.getElem?_cons_succ, Option.join_some, Bool.false_eq_true, if_false, if_true, wE_neg, wE_chn, wE_lset, wE_inW, wE_ixW, wS_fr, wS_rais, wT_chn, t_bl, later_nil, ofS_inj, decide_false, decide_true, Bool.or_false, Bool.false_or, Bool.or_true, Bool.true_or, Bool.not_false, Bool.not_true, Bool.and_true, Bool.true_and, reduceCtorEq, String.reduceEq, String.reduceNe, c_eq_str, c_ne_str, inT2, inT3, ninT3, ML.ix_tup, at2_0, at2_1, at2_m1, at2_m2, at3_0, at3_1, at3_2, at3_m1, at3_m2, at4_0, at4_1, at4_2, at4_3, at4_m1, at4_m2, Int.reduceNeg, nl0, nl1, nl2, nl3, nl4, true_and, list_tup, b_len_tup, inT4, ninT4, ninT5, t_tup, at0, at1_0, List.isEmpty_nil, List.isEmpty_cons, nin2]
    rw [later]
    simp only [wrs_seqL, wS_asg, wS_ife, wS_ret, wS_nil, wS_exp, wE_cS, wE_cI, wE_cN, wE_cB, wE_call, wE_var, wE_glb, wE_bop, wE_idx, wE_lst, wE_tup, wE_blt, wE_met, wT_cmp, wT_and, wT_or, wT_nt, wT_one, wT_tru, wE_ite, wE_and, wE_or, wE_one, wE_nt, wE_cmp, wE_lc, wI_itr, wI_rng, wA_cons, wA_nil, wpO, wpF, List.set, List.getElem?_cons_zero, List.getElem?_cons_succ, Option.join_some, Bool.false_eq_true, if_false, if_true, wE_neg, wE_chn, wE_lset, wE_inW, wE_ixW, wS_fr, wS_rais, wT_chn, t_bl, later_nil, ofS_inj, decide_false, decide_true, Bool.or_false, Bool.false_or, Bool.or_true, Bool.true_or, Bool.not_false, Bool.not_true, Bool.and_true, Bool.true_and, reduceCtorEq, String.reduceEq, String.reduceNe, c_eq_str, c_ne_str, inT2, inT3, ninT3, ML.ix_tup, at2_0, at2_1, at2_m1, at2_m2, at3_0, at3_1, at3_2, at3_m1, at3_m2, at4_0, at4_1, at4_2, at4_3, at4_m1, at4_m2, Int.reduceNeg, nl0, nl1, nl2, nl3, nl4, true_and, list_tup, b_len_tup, inT4, ninT4, ninT5, t_tup, at0, at1_0, List.isEmpty_nil, List.isEmpty_cons, nl5]
    have := main s _ h1 _ rfl
    revert this
    rw [c_in_txt fiveD]
    simp only [wpO]
    intro this
    cases q : decide (s ∈ five) with
    | true => rw [q] at this; exact this
    | false =>
      rw [q] at this
      simp only [Bool.false_eq_true, if_false] at this ⊢
      rw [later]
      simp only [wrs_seqL, wS_asg, wS_ife, wS_ret, wS_nil, wS_exp, wE_cS, wE_cI, wE_cN, wE_cB, wE_call, wE_var, wE_glb, wE_bop, wE_idx, wE_lst, wE_tup, wE_blt, wE_met, wT_cmp, wT_and, wT_or, wT_nt, wT_one, wT_tru, wE_ite, wE_and, wE_or, wE_one, wE_nt, wE_cmp, wE_lc, wI_itr, wI_rng, wA_cons, wA_nil, wpO, wpF, List.set, List.getElem?_cons_zero, List.getElem?_cons_succ, Option.join_some, Bool.false_eq_true, if_false, if_true, wE_neg, wE_chn, wE_lset, wE_inW, wE_ixW, wS_fr, wS_rais, wT_chn, t_bl, later_nil, ofS_inj, decide_false, decide_true, Bool.or_false, Bool.false_or, Bool.or_true, Bool.true_or, Bool.not_false, Bool.not_true, Bool.and_true, Bool.true_and, reduceCtorEq, String.reduceEq, String.reduceNe, c_eq_str, c_ne_str, inT2, inT3, ninT3, ML.ix_tup, at2_0, at2_1, at2_m1, at2_m2, at3_0, at3_1, at3_2, at3_m1, at3_m2, at4_0, at4_1, at4_2, at4_3, at4_m1, at4_m2, Int.reduceNeg, nl0, nl1, nl2, nl3, nl4, true_and, list_tup, b_len_tup, inT4, ninT4, ninT5, t_tup, at0, at1_0, List.isEmpty_nil, List.isEmpty_cons, c_in_str, ecol, in_col]
      exact this
  | @sup _ _ s ts _ h1 _ _ =>
    simp only [f_law_rank, wrs_seqL, wS_asg, wS_ife, wS_ret, wS_nil, wS_exp, wE_cS, wE_cI, wE_cN, wE_cB, wE_call, wE_var, wE_glb, wE_bop, wE_idx, wE_lst, wE_tup, wE_blt, wE_met, wT_cmp, wT_and, wT_or, wT_nt, wT_one, wT_tru, wE_ite, wE_and, wE_or, wE_one, wE_nt, wE_cmp, wE_lc, wI_itr, wI_rng, wA_cons, wA_nil, wpO, wpF, List.set, List.getElem?_cons_zero, List.getElem?_cons_succ, Option.join_some, Bool.false_eq_true, if_false, if_true, wE_neg, wE_chn, wE_lset, wE_inW, wE_ixW, wS_fr, wS_rais, wT_chn, t_bl, later_nil, ofS_inj, decide_false, decide_true, Bool.or_false, Bool.false_or, Bool.or_true, Bool.true_or, Bool.not_false, Bool.not_true, Bool.and_true, Bool.true_and, reduceCtorEq, String.reduceEq, String.reduceNe, c_eq_str, c_ne_str, inT2, inT3, ninT3, ML.ix_tup, at2_0, at2_1, at2_m1, at2_m2, at3_0, at3_1, at3_2, at3_m1, at3_m2, at4_0, at4_1, at4_2, at4_3, at4_m1, at4_m2, Int.reduceNeg, nl0, nl1, nl2, nl3, nl4, true_and, list_tup, b_len_tup, inT4, ninT4, ninT5, t_tup, at0, at1_0, List.isEmpty_nil, List.isEmpty_cons, nin2]
    rw [later]
    simp only [wrs_seqL, wS_asg, wS_ife, wS_ret, wS_nil, wS_exp, wE_cS, wE_cI, wE_cN, wE_cB, wE_call, wE_var, wE_glb, wE_bop, wE_idx, wE_lst, wE_tup, wE_blt, wE_met, wT_cmp, wT_and, wT_or, wT_nt, wT_one, wT_tru, wE_ite, wE_and, wE_or, wE_one, wE_nt, wE_cmp, wE_lc, wI_itr, wI_rng, wA_cons, wA_nil, wpO, wpF, List.set, List.getElem?_cons_zero, List.getElem?_cons_succ, Option.join_some, Bool.false_eq_true, if_false, if_true, wE_neg, wE_chn, wE_lset, wE_inW, wE_ixW, wS_fr, wS_rais, wT_chn, t_bl, later_nil, ofS_inj, decide_false, decide_true, Bool.or_false, Bool.false_or, Bool.or_true, Bool.true_or, Bool.not_false, Bool.not_true, Bool.and_true, Bool.true_and, reduceCtorEq, String.reduceEq, String.reduceNe, c_eq_str, c_ne_str, inT2, inT3, ninT3, ML.ix_tup, at2_0, at2_1, at2_m1, at2_m2, at3_0, at3_1, at3_2, at3_m1, at3_m2, at4_0, at4_1, at4_2, at4_3, at4_m1, at4_m2, Int.reduceNeg, nl0, nl1, nl2, nl3, nl4, true_and, list_tup, b_len_tup, inT4, ninT4, ninT5, t_tup, at0, at1_0, List.isEmpty_nil, List.isEmpty_cons, nl5]
    have := main s _ h1 _ rfl
    revert this
    rw [c_in_txt fiveD]
    simp only [wpO]
    intro this
    cases q : decide (s ∈ five) with
    | true => rw [q] at this; exact this
    | false =>
      rw [q] at this
      simp only [Bool.false_eq_true, if_false] at this ⊢
      rw [later]
      simp only [wrs_seqL, wS_asg, wS_ife, wS_ret, wS_nil, wS_exp, wE_cS, wE_cI, wE_cN, wE_cB, wE_call, wE_var, wE_glb, wE_bop, wE_idx, wE_lst, wE_tup, wE_blt, wE_met, wT_cmp, wT_and, wT_or, wT_nt, wT_one, wT_tru, wE_ite, wE_and, wE_or, wE_one, wE_nt, wE_cmp, wE_lc, wI_itr, wI_rng, wA_cons, wA_nil, wpO, wpF, List.set, List.getElem?_cons_zero, List.getElem?_cons_succ, Option.join_some, Bool.false_eq_true, if_false, if_true, wE_neg, wE_chn, wE_lset, wE_inW, wE_ixW, wS_fr, wS_rais, wT_chn, t_bl, later_nil, ofS_inj, decide_false, decide_true, Bool.or_false, Bool.false_or, Bool.or_true, Bool.true_or, Bool.not_false, Bool.not_true, Bool.and_true, Bool.true_and, reduceCtorEq, String.reduceEq, String.reduceNe, c_eq_str, c_ne_str, inT2, inT3, ninT3, ML.ix_tup, at2_0, at2_1, at2_m1, at2_m2, at3_0, at3_1, at3_2, at3_m1, at3_m2, at4_0, at4_1, at4_2, at4_3, at4_m1, at4_m2, Int.reduceNeg, nl0, nl1, nl2, nl3, nl4, true_and, list_tup, b_len_tup, inT4, ninT4, ninT5, t_tup, at0, at1_0, List.isEmpty_nil, List.isEmpty_cons, c_in_str, ecol, in_col]
      exact this
  | num _ _ =>
    simp only [f_law_rank, wrs_seqL, wS_asg, wS_ife, wS_ret, wS_nil, wS_exp, wE_cS, wE_cI, wE_cN, wE_cB, wE_call, wE_var, wE_glb, wE_bop, wE_idx, wE_lst, wE_tup, wE_blt, wE_met, wT_cmp, wT_and, wT_or, wT_nt, wT_one, wT_tru, wE_ite, wE_and, wE_or, wE_one, wE_nt, wE_cmp, wE_lc, wI_itr, wI_rng, wA_cons, wA_nil, wpO, wpF, List.set, List.getElem?_cons_zero, List.getElem?_cons_succ, Option.join_some, Bool.false_eq_true, if_false, if_true, wE_neg, wE_chn, wE_lset, wE_inW, wE_ixW, wS_fr, wS_rais, wT_chn, t_bl, later_nil, ofS_inj, decide_false, decide_true, Bool.or_false, Bool.false_or, Bool.or_true, Bool.true_or, Bool.not_false, Bool.not_true, Bool.and_true, Bool.true_and, reduceCtorEq, String.reduceEq, String.reduceNe, c_eq_str, c_ne_str, inT2, inT3, ninT3, ML.ix_tup, at2_0, at2_1, at2_m1, at2_m2, at3_0, at3_1, at3_2, at3_m1, at3_m2, at4_0, at4_1, at4_2, at4_3, at4_m1, at4_m2, Int.reduceNeg, nl0, nl1, nl2, nl3, nl4, true_and, list_tup, b_len_tup, inT4, ninT4, ninT5, t_tup, at0, at1_0, List.isEmpty_nil, List.isEmpty_cons, nin2]
    exact ⟨rfl, .refl hS⟩
  | word _ =>
    simp only [f_law_rank, wrs_seqL, wS_asg, wS_ife, wS_ret, wS_nil, wS_exp, wE_cS, wE_cI, wE_cN, wE_cB, wE_call, wE_var, wE_glb, wE_bop, wE_idx, wE_lst, wE_tup, wE_blt, wE_met, wT_cmp, wT_and, wT_or, wT_nt, wT_one, wT_tru, wE_ite, wE_and, wE_or, wE_one, wE_nt, wE_cmp, wE_lc, wI_itr, wI_rng, wA_cons, wA_nil, wpO, wpF, List.set, List.getElem?_cons_zero, List.getElem?_cons_succ, Option.join_some, Bool.false_eq_true, if_false, if_true, wE_neg, wE_chn, wE_lset, wE_inW, wE_ixW, wS_fr, wS_rais, wT_chn, t_bl, later_nil, ofS_inj, decide_false, decide_true, Bool.or_false, Bool.false_or, Bool.or_true, Bool.true_or, Bool.not_false, Bool.not_true, Bool.and_true, Bool.true_and, reduceCtorEq, String.reduceEq, String.reduceNe, c_eq_str, c_ne_str, inT2, inT3, ninT3, ML.ix_tup, at2_0, at2_1, at2_m1, at2_m2, at3_0, at3_1, at3_2, at3_m1, at3_m2, at4_0, at4_1, at4_2, at4_3, at4_m1, at4_m2, Int.reduceNeg, nl0, nl1, nl2, nl3, nl4, true_and, list_tup, b_len_tup, inT4, ninT4, ninT5, t_tup, at0, at1_0, List.isEmpty_nil, List.isEmpty_cons, nin2]
    exact ⟨rfl, .refl hS⟩
  | name _ =>
    simp only [f_law_rank, wrs_seqL, wS_asg, wS_ife, wS_ret, wS_nil, wS_exp, wE_cS, wE_cI, wE_cN, wE_cB, wE_call, wE_var, wE_glb, wE_bop, wE_idx, wE_lst, wE_tup, wE_blt, wE_met, wT_cmp, wT_and, wT_or, wT_nt, wT_one, wT_tru, wE_ite, wE_and, wE_or, wE_one, wE_nt, wE_cmp, wE_lc, wI_itr, wI_rng, wA_cons, wA_nil, wpO, wpF, List.set, List.getElem?_cons_zero, List.getElem?_cons_succ, Option.join_some, Bool.false_eq_true, if_false, if_true, wE_neg, wE_chn, wE_lset, wE_inW, wE_ixW, wS_fr, wS_rais, wT_chn, t_bl, later_nil, ofS_inj, decide_false, decide_true, Bool.or_false, Bool.false_or, Bool.or_true, Bool.true_or, Bool.not_false, Bool.not_true, Bool.and_true, Bool.true_and, reduceCtorEq, String.reduceEq, String.reduceNe, c_eq_str, c_ne_str, inT2, inT3, ninT3, ML.ix_tup, at2_0, at2_1, at2_m1, at2_m2, at3_0, at3_1, at3_2, at3_m1, at3_m2, at4_0, at4_1, at4_2, at4_3, at4_m1, at4_m2, Int.reduceNeg, nl0, nl1, nl2, nl3, nl4, true_and, list_tup, b_len_tup, inT4, ninT4, ninT5, t_tup, at0, at1_0, List.isEmpty_nil, List.isEmpty_cons, nin2]
    exact ⟨rfl, .refl hS⟩
  | set _ _ =>
    simp only [f_law_rank, wrs_seqL, wS_asg, wS_ife, wS_ret, wS_nil, wS_exp, wE_cS, wE_cI, wE_cN, wE_cB, wE_call, wE_var, wE_glb, wE_bop, wE_idx, wE_lst, wE_tup, wE_blt, wE_met, wT_cmp, wT_and, wT_or, wT_nt, wT_one, wT_tru, wE_ite, wE_and, wE_or, wE_one, wE_nt, wE_cmp, wE_lc, wI_itr, wI_rng, wA_cons, wA_nil, wpO, wpF, List.set, List.getElem?_cons_zero, List.getElem?_cons_succ, Option.join_some, Bool.false_eq_true, if_false, if_true, wE_neg, wE_chn, wE_lset, wE_inW, wE_ixW, wS_fr, wS_rais, wT_chn, t_bl, later_nil, ofS_inj, decide_false, decide_true, Bool.or_false, Bool.false_or, Bool.or_true, Bool.true_or, Bool.not_false, Bool.not_true, Bool.and_true, Bool.true_and, reduceCtorEq, String.reduceEq, String.reduceNe, c_eq_str, c_ne_str, inT2, inT3, ninT3, ML.ix_tup, at2_0, at2_1, at2_m1, at2_m2, at3_0, at3_1, at3_2, at3_m1, at3_m2, at4_0, at4_1, at4_2, at4_3, at4_m1, at4_m2, Int.reduceNeg, nl0, nl1, nl2, nl3, nl4, true_and, list_tup, b_len_tup, inT4, ninT4, ninT5, t_tup, at0, at1_0, List.isEmpty_nil, List.isEmpty_cons, nin2]
    exact ⟨rfl, .refl hS⟩
  | blk _ _ _ _ _ =>
    simp only [f_law_rank, wrs_seqL, wS_asg, wS_ife, wS_ret, wS_nil, wS_exp, wE_cS, wE_cI, wE_cN, wE_cB, wE_call, wE_var, wE_glb, wE_bop, wE_idx, wE_lst, wE_tup, wE_blt, wE_met, wT_cmp, wT_and, wT_or, wT_nt, wT_one, wT_tru, wE_ite, wE_and, wE_or, wE_one, wE_nt, wE_cmp, wE_lc, wI_itr, wI_rng, wA_cons, wA_nil, wpO, wpF, List.set, List.getElem?_cons_zero, List.getElem?_cons_succ, Option.join_some, Bool.false_eq_true, if_false, if_true, wE_neg, wE_chn, wE_lset, wE_inW, wE_ixW, wS_fr, wS_rais, wT_chn, t_bl, later_nil, ofS_inj, decide_false, decide_true, Bool.or_false, Bool.false_or, Bool.or_true, Bool.true_or, Bool.not_false, Bool.not_true, Bool.and_true, Bool.true_and, reduceCtorEq, String.reduceEq, String.reduceNe, c_eq_str, c_ne_str, inT2, inT3, ninT3, ML.ix_tup, at2_0, at2_1, at2_m1, at2_m2, at3_0, at3_1, at3_2, at3_m1, at3_m2, at4_0, at4_1, at4_2, at4_3, at4_m1, at4_m2, Int.reduceNeg, nl0, nl1, nl2, nl3, nl4, true_and, list_tup, b_len_tup, inT4, ninT4, ninT5, t_tup, at0, at1_0, List.isEmpty_nil, List.isEmpty_cons, nin2]
    exact ⟨rfl, .refl hS⟩
  | back _ =>
    simp only [f_law_rank, wrs_seqL, wS_asg, wS_ife, wS_ret, wS_nil, wS_exp, wE_cS, wE_cI, wE_cN, wE_cB, wE_call, wE_var, wE_glb, wE_bop, wE_idx, wE_lst, wE_tup, wE_blt, wE_met, wT_cmp, wT_and, wT_or, wT_nt, wT_one, wT_tru, wE_ite, wE_and, wE_or, wE_one, wE_nt, wE_cmp, wE_lc, wI_itr, wI_rng, wA_cons, wA_nil, wpO, wpF, List.set, List.getElem?_cons_zero, List.getElem?_cons_succ, Option.join_some, Bool.false_eq_true, if_false, if_true, wE_neg, wE_chn, wE_lset, wE_inW, wE_ixW, wS_fr, wS_rais, wT_chn, t_bl, later_nil, ofS_inj, decide_false, decide_true, Bool.or_false, Bool.false_or, Bool.or_true, Bool.true_or, Bool.not_false, Bool.not_true, Bool.and_true, Bool.true_and, reduceCtorEq, String.reduceEq, String.reduceNe, c_eq_str, c_ne_str, inT2, inT3, ninT3, ML.ix_tup, at2_0, at2_1, at2_m1, at2_m2, at3_0, at3_1, at3_2, at3_m1, at3_m2, at4_0, at4_1, at4_2, at4_3, at4_m1, at4_m2, Int.reduceNeg, nl0, nl1, nl2, nl3, nl4, true_and, list_tup, b_len_tup, inT4, ninT4, ninT5, t_tup, at0, at1_0, List.isEmpty_nil, List.isEmpty_cons, nin2]
    exact ⟨rfl, .refl hS⟩
def PL (n : Nat) : Prop := ∀ (L t : Nat) (sc d : D) (w : W2) (S : Store), 3 * n + 4 ≤ L → n ≤ 7 → S.WF → WV n false d w → Ups (sem T L 36 [sc, .loc t, d, .int 0] S) S (lw w.1)
theorem lawInU {n : Nat} (ih : PL n) {L t m : Nat} {sc d : D} {w : W2} {S : Store} (hL : 3 * n + 5 ≤ L) (hn : n ≤ 7) (hS : S.WF) (h : WV n false d w) : Ups (sem T L 34 [sc, .loc t, d, .int (m : Int), .int 0] S) S (lw (br w m)) := by
  obtain ⟨l, rfl⟩ : ∃ n, L = n + 1 := ⟨L - 1, by omega⟩
  refine Gv.ups ?_
  show wpr (endF (evS (sem T l) (gvs T) f_law_in.body [some sc, some (.loc t), some d, some (.int (m : Int)), some (.int 0)] S)) _ _
  rw [wrs_end]
  have hl := wv_le h hn
  simp only [f_law_in, wrs_seqL, wS_asg, wS_ife, wS_ret, wS_nil, wS_exp, wE_cS, wE_cI, wE_cN, wE_cB, wE_call, wE_var, wE_glb, wE_bop, wE_idx, wE_lst, wE_tup, wE_blt, wE_met, wT_cmp, wT_and, wT_or, wT_nt, wT_one, wT_tru, wE_ite, wE_and, wE_or, wE_one, wE_nt, wE_cmp, wE_lc, wI_itr, wI_rng, wA_cons, wA_nil, wpO, wpF, List.set, List.getElem?_cons_zero, List.getElem?_cons_succ, Option.join_some, Bool.false_eq_true, if_false, if_true, wE_neg, wE_chn, wE_lset, wE_inW, wE_ixW, wS_fr, wS_rais, wT_chn, t_bl, later_nil]
  refine (lawRankU (by omega) hS h).wpr fun S1 G1 => ?_
  simp only [c_gt, wpO]
  by_cases q : m < w.2
  · rw [decide_eq_true (by omega : (m : Int) < (w.2 : Int)), if_pos rfl]
    simp only [nl1, true_and]
    refine (ih l t sc d w S1 (by omega) hn G1.wf h).wpr fun S2 G2 => ?_
    simp only [lw]
    rw [add_lw (by rw [List.length_map]; show 1 + _ ≤ _; omega)]
    simp only [wpF]
    rw [add_lw (by rw [List.length_append, List.length_map]; show 1 + _ + 1 ≤ _; omega)]
    simp only [wpF]
    refine ⟨?_, G1.trans G2⟩
    unfold br
    rw [if_pos q]
    simp [lw]
  · rw [decide_eq_false (by omega : ¬ (m : Int) < (w.2 : Int)), if_neg Bool.false_ne_true]
    rw [later]
    simp only [wrs_seqL, wS_asg, wS_ife, wS_ret, wS_nil, wS_exp, wE_cS, wE_cI, wE_cN, wE_cB, wE_call, wE_var, wE_glb, wE_bop, wE_idx, wE_lst, wE_tup, wE_blt, wE_met, wT_cmp, wT_and, wT_or, wT_nt, wT_one, wT_tru, wE_ite, wE_and, wE_or, wE_one, wE_nt, wE_cmp, wE_lc, wI_itr, wI_rng, wA_cons, wA_nil, wpO, wpF, List.set, List.getElem?_cons_zero, List.getElem?_cons_succ, Option.join_some, Bool.false_eq_true, if_false, if_true, wE_neg, wE_chn, wE_lset, wE_inW, wE_ixW, wS_fr, wS_rais, wT_chn, t_bl, later_nil, c_gt, decide_eq_false (show ¬ (0 : Int) < 0 by decide)]
    rw [later]
    simp only [wrs_seqL, wS_asg, wS_ife, wS_ret, wS_nil, wS_exp, wE_cS, wE_cI, wE_cN, wE_cB, wE_call, wE_var, wE_glb, wE_bop, wE_idx, wE_lst, wE_tup, wE_blt, wE_met, wT_cmp, wT_and, wT_or, wT_nt, wT_one, wT_tru, wE_ite, wE_and, wE_or, wE_one, wE_nt, wE_cmp, wE_lc, wI_itr, wI_rng, wA_cons, wA_nil, wpO, wpF, List.set, List.getElem?_cons_zero, List.getElem?_cons_succ, Option.join_some, Bool.false_eq_true, if_false, if_true, wE_neg, wE_chn, wE_lset, wE_inW, wE_ixW, wS_fr, wS_rais, wT_chn, t_bl, later_nil]
    refine (ih l t sc d w S1 (by omega) hn G1.wf h).wpr fun S2 G2 => ⟨?_, G1.trans G2⟩
    unfold br
    rw [if_neg q]
end K10

namespace K10
open PySem L2 ML

theorem WV.split {n : Nat} {b : Bool} {x : D} {w : W2} (h : WV n b x w) : (∃ t w' m, n = m + 1 ∧ x = .tup [.str (Str.ofString "back"), t] ∧ WV m false t w' ∧ w = ([Str.ofString "^"] ++ w'.1, 0)) ∨ (∃ u xs, x = .tup (.str u :: xs) ∧ u ≠ Str.ofString "back" ∧ WV n false x w) := by
  cases h with
  | num a b => exact .inr ⟨_, _, rfl, by rw [Ne, ofS_inj]; decide, .num a b⟩
  | word a => exact .inr ⟨_, _, rfl, by rw [Ne, ofS_inj]; decide, .word a⟩
  | name a => exact .inr ⟨_, _, rfl, by rw [Ne, ofS_inj]; decide, .name a⟩
  | set a b => exact .inr ⟨_, _, rfl, by rw [Ne, ofS_inj]; decide, .set a b⟩
  | send a b c d => exact .inr ⟨_, _, rfl, by rw [Ne, ofS_inj]; decide, .send a b c d⟩
  | sup a b c => exact .inr ⟨_, _, rfl, by rw [Ne, ofS_inj]; decide, .sup a b c⟩
  | blk a b c d e => exact .inr ⟨_, _, rfl, by rw [Ne, ofS_inj]; decide, .blk a b c d e⟩
  | back a => exact .inl ⟨_, _, _, rfl, rfl, a, rfl⟩
theorem lawRowU {n : Nat} (ih : ∀ m, m ≤ n → PL m) {L t : Nat} {sc : D} {ms : List Str} {bs : List D} {f : D → W2} {S : Store} (hL : 3 * n + 6 ≤ L) (hn : n ≤ 7) (hS : S.WF) (hms : ∀ x ∈ ms, SOk x) (hm : ms.length ≤ 10) (hb : bs.length ≤ 10) (h : ∀ (k : Nat) (x : D), bs[k]? = some x → WV n (decide (k + 1 = bs.length)) x (f x)) :
    Ups (sem T L 35 [sc, .loc t, .tup (ms.map D.str), .tup bs, .int 0] S) S (lw (rowW f ms bs)) := by
  obtain ⟨l, rfl⟩ : ∃ n, L = n + 1 := ⟨L - 1, by omega⟩
  refine Gv.ups ?_
  show wpr (endF (evS (sem T l) (gvs T) f_law_row.body [some sc, some (.loc t), some (.tup (ms.map D.str)), some (.tup bs), some (.int 0), none, none] S)) _ _
  rw [wrs_end]
  have htl := top_len (ms := ms)
  have key : Later (sem T l) (gvs T) (.seq (.fr 6 (.rng (.blt false .len (.cons (.var 3) (.nil)))) (.seq (.asg 5 (.bop false .Add (.var 5) (.ite (.cmp .Gt (.var 6) (.cI 0)) (.lst false (.cons (.cS ("." : Str)) (.nil))) (.lst false (.nil))))) (.seq (.ife (.cmp .Eq (.idx (.idx (.var 3) (.var 6)) (.cI 0)) (.cS ("back" : Str))) (.seq (.asg 5 (.bop false .Add (.bop false .Add (.var 5) (.lst false (.cons (.cS ("^" : Str)) (.nil)))) (.call 34 (.cons (.var 0) (.cons (.var 1) (.cons (.idx (.idx (.var 3) (.var 6)) (.cI 1)) (.cons (.cI 4) (.cons (.var 4) (.nil))))))))) (.nil)) (.seq (.asg 5 (.bop false .Add (.var 5) (.call 34 (.cons (.var 0) (.cons (.var 1) (.cons (.idx (.var 3) (.var 6)) (.cons (.cI 4) (.cons (.var 4) (.nil))))))))) (.nil))) (.nil)))) (.seq (.ret (.var 5)) (.nil))) (fun _ => Gv (lw (rowW f ms bs)) S .non) (Gv (lw (rowW f ms bs)) S) (fun _ _ _ => False) [some sc, some (.loc t), some (.tup (ms.map D.str)), some (.tup bs), some (.int 0), some (lw (topW ms)), none] S := by
    rw [later]
    simp only [wrs_seqL, wS_asg, wS_ife, wS_ret, wS_nil, wS_exp, wE_cS, wE_cI, wE_cN, wE_cB, wE_call, wE_var, wE_glb, wE_bop, wE_idx, wE_lst, wE_tup, wE_blt, wE_met, wT_cmp, wT_and, wT_or, wT_nt, wT_one, wT_tru, wE_ite, wE_and, wE_or, wE_one, wE_nt, wE_cmp, wE_lc, wI_itr, wI_rng, wA_cons, wA_nil, wpO, wpF, List.set, List.getElem?_cons_zero, List.getElem?_cons_succ, Option.join_some, Bool.false_eq_true, if_false, if_true, wE_neg, wE_chn, wE_lset, wE_inW, wE_ixW, wS_fr, wS_rais, wT_chn, t_bl, later_nil, b_len_tup]
    refine ⟨⟨Int.le_trans (by omega : (bs.length : Int) ≤ 10) (by decide), Int.le_trans (by decide) (by omega : (0 : Int) ≤ (bs.length : Int))⟩, ?_⟩
    refine wrs_for (fun j env S' => (∃ v, env = [some sc, some (.loc t), some (.tup (ms.map D.str)), some (.tup bs), some (.int 0), some (lw (topW ms ++ preW (bs.map fun x => (f x).1) j)), v]) ∧ Gr S S') ⟨⟨none, by simp [preW]⟩, .refl hS⟩ ?_ ?_
    · rintro j x env S' hj ⟨⟨v, rfl⟩, G⟩
      have hj' : j < bs.length := by
        have := (List.getElem?_eq_some_iff.mp hj).1
        rw [intL_len] at this
        omega
      have hx : x = .int (j : Int) := by
        unfold intL at hj
        rw [List.getElem?_map, List.getElem?_range (by omega)] at hj
        have := Option.some.inj hj
        rw [← this]
        simp
      subst hx
      have hw := h j _ (List.getElem?_eq_getElem hj')
      have hwl := wv_le hw hn
      have hpl : (preW (bs.map fun x => (f x).1) j).length ≤ 10 * 60001 := by
        refine Nat.le_trans (pre_len (M := 60000) (fun p hp => ?_) j) (Nat.mul_le_mul_right _ (by omega))
        obtain ⟨x, hx, rfl⟩ := List.mem_map.mp hp
        obtain ⟨k, hk⟩ := List.mem_iff_getElem?.mp hx
        exact wv_le (h k x hk) hn
      have e1 : ∀ S, ixP S (.tup bs) (.int (j : Int)) = some bs[j] := fun S => atI_nat' (List.getElem?_eq_getElem hj')
      have egd : (bs.map fun x => (f x).1).getD j [] = (f bs[j]).1 := by
        rw [List.getD_eq_getElem?_getD, List.getElem?_map, List.getElem?_eq_getElem hj']; rfl
      have eup : preW (bs.map fun x => (f x).1) (j + 1) = preW (bs.map fun x => (f x).1) j ++ ((if 0 < j then [Str.ofString "."] else []) ++ (f bs[j]).1) := by
        rw [← egd]; rfl
      have hdot : (if 0 < j then [Str.ofString "."] else []).length ≤ 1 := by split <;> simp
      have step : Later (sem T l) (gvs T) (.seq (.ife (.cmp .Eq (.idx (.idx (.var 3) (.var 6)) (.cI 0)) (.cS ("back" : Str))) (.seq (.asg 5 (.bop false .Add (.bop false .Add (.var 5) (.lst false (.cons (.cS ("^" : Str)) (.nil)))) (.call 34 (.cons (.var 0) (.cons (.var 1) (.cons (.idx (.idx (.var 3) (.var 6)) (.cI 1)) (.cons (.cI 4) (.cons (.var 4) (.nil))))))))) (.nil)) (.seq (.asg 5 (.bop false .Add (.var 5) (.call 34 (.cons (.var 0) (.cons (.var 1) (.cons (.idx (.var 3) (.var 6)) (.cons (.cI 4) (.cons (.var 4) (.nil))))))))) (.nil))) (.nil)) (fun env S' => (∃ v, env = [some sc, some (.loc t), some (.tup (ms.map D.str)), some (.tup bs), some (.int 0), some (lw (topW ms ++ preW (bs.map fun x => (f x).1) (j + 1))), v]) ∧ Gr S S') (Gv (lw (rowW f ms bs)) S) (fun _ _ _ => False) [some sc, some (.loc t), some (.tup (ms.map D.str)), some (.tup bs), some (.int 0), some (lw (topW ms ++ preW (bs.map fun x => (f x).1) j ++ (if 0 < j then [Str.ofString "."] else []))), some (.int (j : Int))] S' := by
        rw [later]
        simp only [wrs_seqL, wS_asg, wS_ife, wS_ret, wS_nil, wS_exp, wE_cS, wE_cI, wE_cN, wE_cB, wE_call, wE_var, wE_glb, wE_bop, wE_idx, wE_lst, wE_tup, wE_blt, wE_met, wT_cmp, wT_and, wT_or, wT_nt, wT_one, wT_tru, wE_ite, wE_and, wE_or, wE_one, wE_nt, wE_cmp, wE_lc, wI_itr, wI_rng, wA_cons, wA_nil, wpO, wpF, List.set, List.getElem?_cons_zero, List.getElem?_cons_succ, Option.join_some, Bool.false_eq_true, if_false, if_true, wE_neg, wE_chn, wE_lset, wE_inW, wE_ixW, wS_fr, wS_rais, wT_chn, t_bl, later_nil, e1]
        rcases hw.split with ⟨u, w', m, rfl, ex, hw', ew⟩ | ⟨u, xs, ex, hu, hw'⟩
        · rw [ex]
          simp only [ofS_inj, decide_false, decide_true, Bool.or_false, Bool.false_or, Bool.or_true, Bool.true_or, Bool.not_false, Bool.not_true, Bool.and_true, Bool.true_and, reduceCtorEq, String.reduceEq, String.reduceNe, c_eq_str, c_ne_str, inT2, inT3, ninT3, ML.ix_tup, at2_0, at2_1, at2_m1, at2_m2, at3_0, at3_1, at3_2, at3_m1, at3_m2, at4_0, at4_1, at4_2, at4_3, at4_m1, at4_m2, Int.reduceNeg, nl0, nl1, nl2, nl3, nl4, true_and, list_tup, b_len_tup, inT4, ninT4, ninT5, t_tup, at0, at1_0, List.isEmpty_nil, List.isEmpty_cons]
          have hl' := wv_le hw' (by omega)
          simp only [lw]
          rw [add_lw (by simp only [List.length_map, List.length_append, List.length_cons, List.length_nil]; omega)]
          simp only [wpF, Bool.false_eq_true, if_false]
          refine (lawInU (m := 4) (ih m (by omega)) (by omega) (by omega) G.wf hw').wpr fun S2 G2 => ?_
          rw [br_4 hw']
          simp only [lw]
          rw [add_lw (by simp only [List.length_map, List.length_append, List.length_cons, List.length_nil]; omega)]
          simp only [wpF, Bool.false_eq_true, if_false]
          refine ⟨⟨some (.int (j : Int)), ?_⟩, G.trans G2⟩
          rw [eup, ew]
          simp [lw]
        · have e0 : ∀ S, ixP S bs[j] (.int 0) = some (.str u) := fun S => by rw [ex]; exact atI_zero
          simp only [e0, wpO, c_eq_str]
          rw [decide_eq_false hu, if_neg Bool.false_ne_true]
          try simp only [wrs_seqL, wS_asg, wS_ife, wS_ret, wS_nil, wS_exp, wE_cS, wE_cI, wE_cN, wE_cB, wE_call, wE_var, wE_glb, wE_bop, wE_idx, wE_lst, wE_tup, wE_blt, wE_met, wT_cmp, wT_and, wT_or, wT_nt, wT_one, wT_tru, wE_ite, wE_and, wE_or, wE_one, wE_nt, wE_cmp, wE_lc, wI_itr, wI_rng, wA_cons, wA_nil, wpO, wpF, List.set, List.getElem?_cons_zero, List.getElem?_cons_succ, Option.join_some, Bool.false_eq_true, if_false, if_true, wE_neg, wE_chn, wE_lset, wE_inW, wE_ixW, wS_fr, wS_rais, wT_chn, t_bl, later_nil, e1]
          refine (lawInU (m := 4) (ih n (Nat.le_refl _)) (by omega) hn G.wf hw').wpr fun S2 G2 => ?_
          rw [br_4 hw']
          simp only [lw]
          rw [add_lw (by simp only [List.length_map, List.length_append]; omega)]
          simp only [wpF, Bool.false_eq_true, if_false]
          refine ⟨⟨some (.int (j : Int)), ?_⟩, G.trans G2⟩
          rw [eup]
          simp [lw]
      simp only [wrs_seqL, wS_asg, wS_ife, wS_ret, wS_nil, wS_exp, wE_cS, wE_cI, wE_cN, wE_cB, wE_call, wE_var, wE_glb, wE_bop, wE_idx, wE_lst, wE_tup, wE_blt, wE_met, wT_cmp, wT_and, wT_or, wT_nt, wT_one, wT_tru, wE_ite, wE_and, wE_or, wE_one, wE_nt, wE_cmp, wE_lc, wI_itr, wI_rng, wA_cons, wA_nil, wpO, wpF, List.set, List.getElem?_cons_zero, List.getElem?_cons_succ, Option.join_some, Bool.false_eq_true, if_false, if_true, wE_neg, wE_chn, wE_lset, wE_inW, wE_ixW, wS_fr, wS_rais, wT_chn, t_bl, later_nil, c_gt]
      by_cases j0 : 0 < j
      · rw [decide_eq_true (by omega : (0 : Int) < (j : Int)), if_pos rfl]
        simp only [nl1, true_and, lw]
        rw [add_lw (by simp only [List.length_map, List.length_append, List.length_cons, List.length_nil]; omega)]
        simp only [wpF, Bool.false_eq_true, if_false]
        rw [if_pos j0] at step
        simpa [lw] using step
      · rw [decide_eq_false (by omega : ¬ (0 : Int) < (j : Int)), if_neg Bool.false_ne_true]
        simp only [nl0, true_and, lw]
        rw [add_lw (by simp only [List.length_map, List.length_append, List.length_nil]; omega)]
        simp only [wpF, Bool.false_eq_true, if_false]
        rw [if_neg j0] at step
        simpa [lw] using step
    · rintro env S' ⟨⟨v, rfl⟩, G⟩
      rw [later]
      simp only [wrs_seqL, wS_asg, wS_ife, wS_ret, wS_nil, wS_exp, wE_cS, wE_cI, wE_cN, wE_cB, wE_call, wE_var, wE_glb, wE_bop, wE_idx, wE_lst, wE_tup, wE_blt, wE_met, wT_cmp, wT_and, wT_or, wT_nt, wT_one, wT_tru, wE_ite, wE_and, wE_or, wE_one, wE_nt, wE_cmp, wE_lc, wI_itr, wI_rng, wA_cons, wA_nil, wpO, wpF, List.set, List.getElem?_cons_zero, List.getElem?_cons_succ, Option.join_some, Bool.false_eq_true, if_false, if_true, wE_neg, wE_chn, wE_lset, wE_inW, wE_ixW, wS_fr, wS_rais, wT_chn, t_bl, later_nil]
      refine ⟨?_, G⟩
      rw [intL_len, Int.toNat_natCast]
      rfl
  have hpx : ∀ x ∈ ms.map D.str, PyX 1 x := fun x hx => by
    obtain ⟨s, hs, rfl⟩ := List.mem_map.mp hx
    exact pyx_str (hms s hs).ok
  simp only [f_law_row, wrs_seqL, wS_asg, wS_ife, wS_ret, wS_nil, wS_exp, wE_cS, wE_cI, wE_cN, wE_cB, wE_call, wE_var, wE_glb, wE_bop, wE_idx, wE_lst, wE_tup, wE_blt, wE_met, wT_cmp, wT_and, wT_or, wT_nt, wT_one, wT_tru, wE_ite, wE_and, wE_or, wE_one, wE_nt, wE_cmp, wE_lc, wI_itr, wI_rng, wA_cons, wA_nil, wpO, wpF, List.set, List.getElem?_cons_zero, List.getElem?_cons_succ, Option.join_some, Bool.false_eq_true, if_false, if_true, wE_neg, wE_chn, wE_lset, wE_inW, wE_ixW, wS_fr, wS_rais, wT_chn, t_bl, later_nil, nl0, true_and]
  rw [eq_nilT hpx (by decide)]
  simp only [wpO]
  cases ms with
  | nil =>
    simp only [List.map_nil, List.isEmpty_nil, Bool.not_true, Bool.false_eq_true, if_false, nl0, true_and]
    exact key
  | cons m0 ms0 =>
    simp only [List.map_cons, List.isEmpty_cons, Bool.not_false, if_true, nl1, true_and, list_tupN]
    rw [add_lw (by simp only [List.length_cons, List.length_map, List.length_nil] at hm ⊢; omega)]
    simp only [wpF, Bool.false_eq_true, if_false, nl1, true_and]
    rw [add_lw (by simp only [List.length_append, List.length_cons, List.length_map, List.length_nil] at hm ⊢; omega)]
    simp only [wpF, Bool.false_eq_true, if_false]
    simpa [topW, lw] using key
end K10

namespace K10
open PySem L2 ML

theorem at4L {x y z u : D} {k : Nat} {S : Store} (h : 1 ≤ k) (h3 : k ≤ 3) : ixP S (.lst [.int 0, .int 1, .int 2, .int 2]) (.int (k : Int)) = some (.int ((min k 2 : Nat) : Int)) := by
  have : k = 1 ∨ k = 2 ∨ k = 3 := by omega
  rcases this with rfl | rfl | rfl <;> rfl
theorem lawW : ∀ n m, m ≤ n → PL m := by
  intro n
  induction n with
  | zero => intro m hm L t sc d w S _ _ _ h; have e : m = 0 := (by omega); subst e; cases h
  | succ n ih0 =>
    intro m hm
    by_cases hmn : m ≤ n
    · exact ih0 m hmn
    obtain rfl : m = n + 1 := by omega
    have ih := ih0 n (Nat.le_refl _)
    intro L t sc d w S hL hn hS h
    obtain ⟨l, rfl⟩ : ∃ n, L = n + 1 := ⟨L - 1, by omega⟩
    refine Gv.ups ?_
    show wpr (endF (evS (sem T l) (gvs T) f_law_words.body [some sc, some (.loc t), some d, some (.int 0), none, none, none, none, none, none] S)) _ _
    rw [wrs_end]
    have h0 := h
    cases h with
    | @num n b i h1 h2 =>
      simp only [f_law_words, wrs_seqL, wS_asg, wS_ife, wS_ret, wS_nil, wS_exp, wE_cS, wE_cI, wE_cN, wE_cB, wE_call, wE_var, wE_glb, wE_bop, wE_idx, wE_lst, wE_tup, wE_blt, wE_met, wT_cmp, wT_and, wT_or, wT_nt, wT_one, wT_tru, wE_ite, wE_and, wE_or, wE_one, wE_nt, wE_cmp, wE_lc, wI_itr, wI_rng, wA_cons, wA_nil, wpO, wpF, List.set, List.getElem?_cons_zero, List.getElem?_cons_succ, Option.join_some, Bool.false_eq_true, if_false, if_true, wE_neg, wE_chn, wE_lset, wE_inW, wE_ixW, wS_fr, wS_rais, wT_chn, t_bl, later_nil, ofS_inj, decide_false, decide_true, Bool.or_false, Bool.false_or, Bool.or_true, Bool.true_or, Bool.not_false, Bool.not_true, Bool.and_true, Bool.true_and, reduceCtorEq, String.reduceEq, String.reduceNe, c_eq_str, c_ne_str, inT2, inT3, ninT3, ML.ix_tup, at2_0, at2_1, at2_m1, at2_m2, at3_0, at3_1, at3_2, at3_m1, at3_m2, at4_0, at4_1, at4_2, at4_3, at4_m1, at4_m2, Int.reduceNeg, nl0, nl1, nl2, nl3, nl4, true_and, list_tup, b_len_tup, inT4, ninT4, ninT5, t_tup, at0, at1_0, List.isEmpty_nil, List.isEmpty_cons, str_int h1 h2]
      exact ⟨rfl, .refl hS⟩
    | @name n b s h1 =>
      simp only [f_law_words, wrs_seqL, wS_asg, wS_ife, wS_ret, wS_nil, wS_exp, wE_cS, wE_cI, wE_cN, wE_cB, wE_call, wE_var, wE_glb, wE_bop, wE_idx, wE_lst, wE_tup, wE_blt, wE_met, wT_cmp, wT_and, wT_or, wT_nt, wT_one, wT_tru, wE_ite, wE_and, wE_or, wE_one, wE_nt, wE_cmp, wE_lc, wI_itr, wI_rng, wA_cons, wA_nil, wpO, wpF, List.set, List.getElem?_cons_zero, List.getElem?_cons_succ, Option.join_some, Bool.false_eq_true, if_false, if_true, wE_neg, wE_chn, wE_lset, wE_inW, wE_ixW, wS_fr, wS_rais, wT_chn, t_bl, later_nil, ofS_inj, decide_false, decide_true, Bool.or_false, Bool.false_or, Bool.or_true, Bool.true_or, Bool.not_false, Bool.not_true, Bool.and_true, Bool.true_and, reduceCtorEq, String.reduceEq, String.reduceNe, c_eq_str, c_ne_str, inT2, inT3, ninT3, ML.ix_tup, at2_0, at2_1, at2_m1, at2_m2, at3_0, at3_1, at3_2, at3_m1, at3_m2, at4_0, at4_1, at4_2, at4_3, at4_m1, at4_m2, Int.reduceNeg, nl0, nl1, nl2, nl3, nl4, true_and, list_tup, b_len_tup, inT4, ninT4, ninT5, t_tup, at0, at1_0, List.isEmpty_nil, List.isEmpty_cons, str_str]
      exact ⟨rfl, .refl hS⟩
    | @word n b s k h1 =>
      have := h1.1
      simp only [f_law_words, wrs_seqL, wS_asg, wS_ife, wS_ret, wS_nil, wS_exp, wE_cS, wE_cI, wE_cN, wE_cB, wE_call, wE_var, wE_glb, wE_bop, wE_idx, wE_lst, wE_tup, wE_blt, wE_met, wT_cmp, wT_and, wT_or, wT_nt, wT_one, wT_tru, wE_ite, wE_and, wE_or, wE_one, wE_nt, wE_cmp, wE_lc, wI_itr, wI_rng, wA_cons, wA_nil, wpO, wpF, List.set, List.getElem?_cons_zero, List.getElem?_cons_succ, Option.join_some, Bool.false_eq_true, if_false, if_true, wE_neg, wE_chn, wE_lset, wE_inW, wE_ixW, wS_fr, wS_rais, wT_chn, t_bl, later_nil, ofS_inj, decide_false, decide_true, Bool.or_false, Bool.false_or, Bool.or_true, Bool.true_or, Bool.not_false, Bool.not_true, Bool.and_true, Bool.true_and, reduceCtorEq, String.reduceEq, String.reduceNe, c_eq_str, c_ne_str, inT2, inT3, ninT3, ML.ix_tup, at2_0, at2_1, at2_m1, at2_m2, at3_0, at3_1, at3_2, at3_m1, at3_m2, at4_0, at4_1, at4_2, at4_3, at4_m1, at4_m2, Int.reduceNeg, nl0, nl1, nl2, nl3, nl4, true_and, list_tup, b_len_tup, inT4, ninT4, ninT5, t_tup, at0, at1_0, List.isEmpty_nil, List.isEmpty_cons]
      iterate 1 (rw [later]; simp only [wrs_seqL, wS_asg, wS_ife, wS_ret, wS_nil, wS_exp, wE_cS, wE_cI, wE_cN, wE_cB, wE_call, wE_var, wE_glb, wE_bop, wE_idx, wE_lst, wE_tup, wE_blt, wE_met, wT_cmp, wT_and, wT_or, wT_nt, wT_one, wT_tru, wE_ite, wE_and, wE_or, wE_one, wE_nt, wE_cmp, wE_lc, wI_itr, wI_rng, wA_cons, wA_nil, wpO, wpF, List.set, List.getElem?_cons_zero, List.getElem?_cons_succ, Option.join_some, Bool.false_eq_true, if_false, if_true, wE_neg, wE_chn, wE_lset, wE_inW, wE_ixW, wS_fr, wS_rais, wT_chn, t_bl, later_nil, ofS_inj, decide_false, decide_true, Bool.or_false, Bool.false_or, Bool.or_true, Bool.true_or, Bool.not_false, Bool.not_true, Bool.and_true, Bool.true_and, reduceCtorEq, String.reduceEq, String.reduceNe, c_eq_str, c_ne_str, inT2, inT3, ninT3, ML.ix_tup, at2_0, at2_1, at2_m1, at2_m2, at3_0, at3_1, at3_2, at3_m1, at3_m2, at4_0, at4_1, at4_2, at4_3, at4_m1, at4_m2, Int.reduceNeg, nl0, nl1, nl2, nl3, nl4, true_and, list_tup, b_len_tup, inT4, ninT4, ninT5, t_tup, at0, at1_0, List.isEmpty_nil, List.isEmpty_cons])
      rw [add_str (by rw [hash_len]; omega)]
      exact ⟨rfl, .refl hS⟩
    | @set n b s u w h1 h2 =>
      have hl := wv_le h2 (by omega)
      simp only [f_law_words, wrs_seqL, wS_asg, wS_ife, wS_ret, wS_nil, wS_exp, wE_cS, wE_cI, wE_cN, wE_cB, wE_call, wE_var, wE_glb, wE_bop, wE_idx, wE_lst, wE_tup, wE_blt, wE_met, wT_cmp, wT_and, wT_or, wT_nt, wT_one, wT_tru, wE_ite, wE_and, wE_or, wE_one, wE_nt, wE_cmp, wE_lc, wI_itr, wI_rng, wA_cons, wA_nil, wpO, wpF, List.set, List.getElem?_cons_zero, List.getElem?_cons_succ, Option.join_some, Bool.false_eq_true, if_false, if_true, wE_neg, wE_chn, wE_lset, wE_inW, wE_ixW, wS_fr, wS_rais, wT_chn, t_bl, later_nil, ofS_inj, decide_false, decide_true, Bool.or_false, Bool.false_or, Bool.or_true, Bool.true_or, Bool.not_false, Bool.not_true, Bool.and_true, Bool.true_and, reduceCtorEq, String.reduceEq, String.reduceNe, c_eq_str, c_ne_str, inT2, inT3, ninT3, ML.ix_tup, at2_0, at2_1, at2_m1, at2_m2, at3_0, at3_1, at3_2, at3_m1, at3_m2, at4_0, at4_1, at4_2, at4_3, at4_m1, at4_m2, Int.reduceNeg, nl0, nl1, nl2, nl3, nl4, true_and, list_tup, b_len_tup, inT4, ninT4, ninT5, t_tup, at0, at1_0, List.isEmpty_nil, List.isEmpty_cons]
      iterate 2 (rw [later]; simp only [wrs_seqL, wS_asg, wS_ife, wS_ret, wS_nil, wS_exp, wE_cS, wE_cI, wE_cN, wE_cB, wE_call, wE_var, wE_glb, wE_bop, wE_idx, wE_lst, wE_tup, wE_blt, wE_met, wT_cmp, wT_and, wT_or, wT_nt, wT_one, wT_tru, wE_ite, wE_and, wE_or, wE_one, wE_nt, wE_cmp, wE_lc, wI_itr, wI_rng, wA_cons, wA_nil, wpO, wpF, List.set, List.getElem?_cons_zero, List.getElem?_cons_succ, Option.join_some, Bool.false_eq_true, if_false, if_true, wE_neg, wE_chn, wE_lset, wE_inW, wE_ixW, wS_fr, wS_rais, wT_chn, t_bl, later_nil, ofS_inj, decide_false, decide_true, Bool.or_false, Bool.false_or, Bool.or_true, Bool.true_or, Bool.not_false, Bool.not_true, Bool.and_true, Bool.true_and, reduceCtorEq, String.reduceEq, String.reduceNe, c_eq_str, c_ne_str, inT2, inT3, ninT3, ML.ix_tup, at2_0, at2_1, at2_m1, at2_m2, at3_0, at3_1, at3_2, at3_m1, at3_m2, at4_0, at4_1, at4_2, at4_3, at4_m1, at4_m2, Int.reduceNeg, nl0, nl1, nl2, nl3, nl4, true_and, list_tup, b_len_tup, inT4, ninT4, ninT5, t_tup, at0, at1_0, List.isEmpty_nil, List.isEmpty_cons])
      refine (lawInU (m := 4) ih (by omega) (by omega) hS h2).wpr fun S1 G1 => ?_
      rw [br_4 h2]
      simp only [lw]
      rw [add_lw (by rw [List.length_map]; show 2 + _ ≤ _; omega)]
      exact ⟨rfl, G1⟩
    | @blk n b ps ms bs f h1 h2 h3 h4 h5 =>
      have hr := row_le (ms := ms) h5 (by omega) (by omega) (by omega)
      simp only [f_law_words, wrs_seqL, wS_asg, wS_ife, wS_ret, wS_nil, wS_exp, wE_cS, wE_cI, wE_cN, wE_cB, wE_call, wE_var, wE_glb, wE_bop, wE_idx, wE_lst, wE_tup, wE_blt, wE_met, wT_cmp, wT_and, wT_or, wT_nt, wT_one, wT_tru, wE_ite, wE_and, wE_or, wE_one, wE_nt, wE_cmp, wE_lc, wI_itr, wI_rng, wA_cons, wA_nil, wpO, wpF, List.set, List.getElem?_cons_zero, List.getElem?_cons_succ, Option.join_some, Bool.false_eq_true, if_false, if_true, wE_neg, wE_chn, wE_lset, wE_inW, wE_ixW, wS_fr, wS_rais, wT_chn, t_bl, later_nil, ofS_inj, decide_false, decide_true, Bool.or_false, Bool.false_or, Bool.or_true, Bool.true_or, Bool.not_false, Bool.not_true, Bool.and_true, Bool.true_and, reduceCtorEq, String.reduceEq, String.reduceNe, c_eq_str, c_ne_str, inT2, inT3, ninT3, ML.ix_tup, at2_0, at2_1, at2_m1, at2_m2, at3_0, at3_1, at3_2, at3_m1, at3_m2, at4_0, at4_1, at4_2, at4_3, at4_m1, at4_m2, Int.reduceNeg, nl0, nl1, nl2, nl3, nl4, true_and, list_tup, b_len_tup, inT4, ninT4, ninT5, t_tup, at0, at1_0, List.isEmpty_nil, List.isEmpty_cons]
      iterate 3 (rw [later]; simp only [wrs_seqL, wS_asg, wS_ife, wS_ret, wS_nil, wS_exp, wE_cS, wE_cI, wE_cN, wE_cB, wE_call, wE_var, wE_glb, wE_bop, wE_idx, wE_lst, wE_tup, wE_blt, wE_met, wT_cmp, wT_and, wT_or, wT_nt, wT_one, wT_tru, wE_ite, wE_and, wE_or, wE_one, wE_nt, wE_cmp, wE_lc, wI_itr, wI_rng, wA_cons, wA_nil, wpO, wpF, List.set, List.getElem?_cons_zero, List.getElem?_cons_succ, Option.join_some, Bool.false_eq_true, if_false, if_true, wE_neg, wE_chn, wE_lset, wE_inW, wE_ixW, wS_fr, wS_rais, wT_chn, t_bl, later_nil, ofS_inj, decide_false, decide_true, Bool.or_false, Bool.false_or, Bool.or_true, Bool.true_or, Bool.not_false, Bool.not_true, Bool.and_true, Bool.true_and, reduceCtorEq, String.reduceEq, String.reduceNe, c_eq_str, c_ne_str, inT2, inT3, ninT3, ML.ix_tup, at2_0, at2_1, at2_m1, at2_m2, at3_0, at3_1, at3_2, at3_m1, at3_m2, at4_0, at4_1, at4_2, at4_3, at4_m1, at4_m2, Int.reduceNeg, nl0, nl1, nl2, nl3, nl4, true_and, list_tup, b_len_tup, inT4, ninT4, ninT5, t_tup, at0, at1_0, List.isEmpty_nil, List.isEmpty_cons, wS_asgC, src_tup])
      have ecol : Str.ofString ":" = colS := rfl
      refine (comp_keep_all (fun d => match d with | .str s => .str (colS ++ s) | _ => .non) hS (by rw [List.length_map]; exact Nat.lt_of_le_of_lt h1 (by decide)) fun x hx S' G' => ?_).wpr fun S1 G1 => ?_
      · obtain ⟨s, hs, rfl⟩ := List.mem_map.mp hx
        refine turn_ups rfl (Gv.ups ?_)
        have := name_len (h3 s (List.mem_append_left _ hs))
        simp only [wrs_seqL, wS_asg, wS_ife, wS_ret, wS_nil, wS_exp, wE_cS, wE_cI, wE_cN, wE_cB, wE_call, wE_var, wE_glb, wE_bop, wE_idx, wE_lst, wE_tup, wE_blt, wE_met, wT_cmp, wT_and, wT_or, wT_nt, wT_one, wT_tru, wE_ite, wE_and, wE_or, wE_one, wE_nt, wE_cmp, wE_lc, wI_itr, wI_rng, wA_cons, wA_nil, wpO, wpF, List.set, List.getElem?_cons_zero, List.getElem?_cons_succ, Option.join_some, Bool.false_eq_true, if_false, if_true, wE_neg, wE_chn, wE_lset, wE_inW, wE_ixW, wS_fr, wS_rais, wT_chn, t_bl, later_nil, List.map, wipeE, ecol]
        rw [add_str (by rw [col_len]; omega)]
        exact ⟨rfl, .refl G'.wf⟩
      · rw [List.map_map]
        have em : ((fun (d : D) => match d with | .str s => D.str (colS ++ s) | _ => .non) ∘ D.str) = fun s => D.str (colS ++ s) := rfl
        rw [em]
        rw [later]
        simp only [wrs_seqL, wS_asg, wS_ife, wS_ret, wS_nil, wS_exp, wE_cS, wE_cI, wE_cN, wE_cB, wE_call, wE_var, wE_glb, wE_bop, wE_idx, wE_lst, wE_tup, wE_blt, wE_met, wT_cmp, wT_and, wT_or, wT_nt, wT_one, wT_tru, wE_ite, wE_and, wE_or, wE_one, wE_nt, wE_cmp, wE_lc, wI_itr, wI_rng, wA_cons, wA_nil, wpO, wpF, List.set, List.getElem?_cons_zero, List.getElem?_cons_succ, Option.join_some, Bool.false_eq_true, if_false, if_true, wE_neg, wE_chn, wE_lset, wE_inW, wE_ixW, wS_fr, wS_rais, wT_chn, t_bl, later_nil, ofS_inj, decide_false, decide_true, Bool.or_false, Bool.false_or, Bool.or_true, Bool.true_or, Bool.not_false, Bool.not_true, Bool.and_true, Bool.true_and, reduceCtorEq, String.reduceEq, String.reduceNe, c_eq_str, c_ne_str, inT2, inT3, ninT3, ML.ix_tup, at2_0, at2_1, at2_m1, at2_m2, at3_0, at3_1, at3_2, at3_m1, at3_m2, at4_0, at4_1, at4_2, at4_3, at4_m1, at4_m2, Int.reduceNeg, nl0, nl1, nl2, nl3, nl4, true_and, list_tup, b_len_tup, inT4, ninT4, ninT5, t_tup, at0, at1_0, List.isEmpty_nil, List.isEmpty_cons]
        have hpx : ∀ x ∈ ps.map (fun s => D.str (colS ++ s)), PyX 1 x := fun x hx => by
          obtain ⟨s, hs, rfl⟩ := List.mem_map.mp hx
          refine pyx_str (ok_of fun y hy => ?_)
          rw [show (colS ++ s).cps.toList = colS.cps.toList ++ s.cps.toList from TL.tl_append _ _, col_tl] at hy
          rcases List.mem_append.mp hy with hy | hy
          · rw [List.mem_singleton.mp hy]; decide
          · exact all_ok y (name_all (h3 s (List.mem_append_left _ hs)) y hy)
        rw [eq_nilL hpx (by decide)]
        simp only [wpO]
        have fin : Later (sem T l) (gvs T) (.seq (.ret (.bop false .Add (.bop false .Add (.bop false .Add (.lst false (.cons (.cS ("[" : Str)) (.nil))) (.var 4)) (.call 35 (.cons (.var 0) (.cons (.var 1) (.cons (.idx (.var 2) (.cI 2)) (.cons (.idx (.var 2) (.cI 3)) (.cons (.var 3) (.nil)))))))) (.lst false (.cons (.cS ("]" : Str)) (.nil))))) (.nil)) (fun _ S' => False) (Gv (lw ([Str.ofString "["] ++ parW ps ++ rowW f ms bs ++ [Str.ofString "]"])) S) (fun _ _ _ => False) [some sc, some (.loc t), some (.tup [.str (Str.ofString "block"), .tup (ps.map D.str), .tup (ms.map D.str), .tup bs]), some (.int 0), some (lw (parW ps)), none, none, none, none, none] S1 := by
          have hpl := par_len (ps := ps)
          rw [later]
          simp only [wrs_seqL, wS_asg, wS_ife, wS_ret, wS_nil, wS_exp, wE_cS, wE_cI, wE_cN, wE_cB, wE_call, wE_var, wE_glb, wE_bop, wE_idx, wE_lst, wE_tup, wE_blt, wE_met, wT_cmp, wT_and, wT_or, wT_nt, wT_one, wT_tru, wE_ite, wE_and, wE_or, wE_one, wE_nt, wE_cmp, wE_lc, wI_itr, wI_rng, wA_cons, wA_nil, wpO, wpF, List.set, List.getElem?_cons_zero, List.getElem?_cons_succ, Option.join_some, Bool.false_eq_true, if_false, if_true, wE_neg, wE_chn, wE_lset, wE_inW, wE_ixW, wS_fr, wS_rais, wT_chn, t_bl, later_nil, ofS_inj, decide_false, decide_true, Bool.or_false, Bool.false_or, Bool.or_true, Bool.true_or, Bool.not_false, Bool.not_true, Bool.and_true, Bool.true_and, reduceCtorEq, String.reduceEq, String.reduceNe, c_eq_str, c_ne_str, inT2, inT3, ninT3, ML.ix_tup, at2_0, at2_1, at2_m1, at2_m2, at3_0, at3_1, at3_2, at3_m1, at3_m2, at4_0, at4_1, at4_2, at4_3, at4_m1, at4_m2, Int.reduceNeg, nl0, nl1, nl2, nl3, nl4, true_and, list_tup, b_len_tup, inT4, ninT4, ninT5, t_tup, at0, at1_0, List.isEmpty_nil, List.isEmpty_cons, lw]
          rw [add_lw (by simp only [List.length_map, List.length_cons, List.length_nil]; omega)]
          simp only [wpF, Bool.false_eq_true, if_false]
          refine (lawRowU ih0 (by omega) (by omega) G1.wf (fun x hx => nm_ok (h3 x (List.mem_append_right _ hx))) (by omega) (by omega) h5).wpr fun S2 G2 => ?_
          simp only [lw, nl1, true_and]
          rw [add_lw (by simp only [List.length_map, List.length_append, List.length_cons, List.length_nil]; omega)]
          simp only [wpF, Bool.false_eq_true, if_false]
          rw [add_lw (by simp only [List.length_map, List.length_append, List.length_cons, List.length_nil]; omega)]
          simp only [wpF, Bool.false_eq_true, if_false]
          refine ⟨?_, G1.trans G2⟩
          simp [lw]
        have fin2 := wrs_mono fin (N' := Later (sem T l) (gvs T) (.seq (.asg 6 (.call 32 (.cons (.var 2) (.nil)))) (.seq (.asg 7 (.lst false (.cons (.cS ("super" : Str)) (.nil)))) (.seq (.ife (.cmp .Eq (.idx (.var 2) (.cI 0)) (.cS ("send" : Str))) (.seq (.asg 7 (.call 34 (.cons (.var 0) (.cons (.var 1) (.cons (.idx (.var 2) (.cI 1)) (.cons (.idx (.lst false (.cons (.cI 0) (.cons (.cI 1) (.cons (.cI 2) (.cons (.cI 2) (.nil)))))) (.var 6)) (.cons (.var 3) (.nil)))))))) (.nil)) (.nil)) (.seq (.asgC 8 (.lc false [(("one" : Str), 9)] 9 (.itr (.idx (.var 2) (.neg (.cI 1)))) (.off) (.call 34 (.cons (.var 0) (.cons (.var 1) (.cons (.var 9) (.cons (.bop false .Sub (.var 6) (.cI 1)) (.cons (.var 3) (.nil))))))))) (.seq (.ret (.bop false .Add (.var 7) (.call 33 (.cons (.idx (.var 2) (.neg (.cI 2))) (.cons (.var 8) (.nil)))))) (.nil)))))) (fun _ => Gv (lw ([Str.ofString "["] ++ parW ps ++ rowW f ms bs ++ [Str.ofString "]"])) S .non) (Gv (lw ([Str.ofString "["] ++ parW ps ++ rowW f ms bs ++ [Str.ofString "]"])) S) (fun _ _ _ => False)) (fun _ _ z => z.elim) (fun _ _ z => z) (fun _ _ _ z => z)
        cases q : ps.isEmpty with
        | true =>
          have : (ps.map fun s => D.str (colS ++ s)).isEmpty = true := by cases ps with | nil => rfl | cons _ _ => cases q
          rw [this]
          simp only [Bool.not_true, Bool.false_eq_true, if_false]
          have e : parW ps = [] := by cases ps with | nil => rfl | cons _ _ => cases q
          rw [e] at fin2
          rw [e]
          exact fin2
        | false =>
          have : (ps.map fun s => D.str (colS ++ s)).isEmpty = false := by cases ps with | nil => cases q | cons _ _ => rfl
          rw [this]
          simp only [Bool.not_false, if_true]
          rw [add_lw (by rw [List.length_map]; show _ + 1 ≤ _; omega)]
          simp only [wpF, Bool.false_eq_true, if_false]
          have e : lw (parW ps) = .lst ((ps.map fun s => D.str (colS ++ s)) ++ [.str (Str.ofString "|")]) := by
            unfold parW lw
            rw [q]
            simp
          rw [e] at fin2
          exact fin2
    | @sup n b s ts f h1 h2 h4 =>
      have hll := laid_le (s := s) (m := rkOf s - 1) h4 (by omega) h2
      have hrk := rk_le s
      simp only [f_law_words, wrs_seqL, wS_asg, wS_ife, wS_ret, wS_nil, wS_exp, wE_cS, wE_cI, wE_cN, wE_cB, wE_call, wE_var, wE_glb, wE_bop, wE_idx, wE_lst, wE_tup, wE_blt, wE_met, wT_cmp, wT_and, wT_or, wT_nt, wT_one, wT_tru, wE_ite, wE_and, wE_or, wE_one, wE_nt, wE_cmp, wE_lc, wI_itr, wI_rng, wA_cons, wA_nil, wpO, wpF, List.set, List.getElem?_cons_zero, List.getElem?_cons_succ, Option.join_some, Bool.false_eq_true, if_false, if_true, wE_neg, wE_chn, wE_lset, wE_inW, wE_ixW, wS_fr, wS_rais, wT_chn, t_bl, later_nil, ofS_inj, decide_false, decide_true, Bool.or_false, Bool.false_or, Bool.or_true, Bool.true_or, Bool.not_false, Bool.not_true, Bool.and_true, Bool.true_and, reduceCtorEq, String.reduceEq, String.reduceNe, c_eq_str, c_ne_str, inT2, inT3, ninT3, ML.ix_tup, at2_0, at2_1, at2_m1, at2_m2, at3_0, at3_1, at3_2, at3_m1, at3_m2, at4_0, at4_1, at4_2, at4_3, at4_m1, at4_m2, Int.reduceNeg, nl0, nl1, nl2, nl3, nl4, true_and, list_tup, b_len_tup, inT4, ninT4, ninT5, t_tup, at0, at1_0, List.isEmpty_nil, List.isEmpty_cons]
      iterate 4 (rw [later]; simp only [wrs_seqL, wS_asg, wS_ife, wS_ret, wS_nil, wS_exp, wE_cS, wE_cI, wE_cN, wE_cB, wE_call, wE_var, wE_glb, wE_bop, wE_idx, wE_lst, wE_tup, wE_blt, wE_met, wT_cmp, wT_and, wT_or, wT_nt, wT_one, wT_tru, wE_ite, wE_and, wE_or, wE_one, wE_nt, wE_cmp, wE_lc, wI_itr, wI_rng, wA_cons, wA_nil, wpO, wpF, List.set, List.getElem?_cons_zero, List.getElem?_cons_succ, Option.join_some, Bool.false_eq_true, if_false, if_true, wE_neg, wE_chn, wE_lset, wE_inW, wE_ixW, wS_fr, wS_rais, wT_chn, t_bl, later_nil, ofS_inj, decide_false, decide_true, Bool.or_false, Bool.false_or, Bool.or_true, Bool.true_or, Bool.not_false, Bool.not_true, Bool.and_true, Bool.true_and, reduceCtorEq, String.reduceEq, String.reduceNe, c_eq_str, c_ne_str, inT2, inT3, ninT3, ML.ix_tup, at2_0, at2_1, at2_m1, at2_m2, at3_0, at3_1, at3_2, at3_m1, at3_m2, at4_0, at4_1, at4_2, at4_3, at4_m1, at4_m2, Int.reduceNeg, nl0, nl1, nl2, nl3, nl4, true_and, list_tup, b_len_tup, inT4, ninT4, ninT5, t_tup, at0, at1_0, List.isEmpty_nil, List.isEmpty_cons])
      refine (lawRankU (by omega) hS h0).wpr fun S1 G1 => ?_
      iterate 3 (rw [later]; simp only [wrs_seqL, wS_asg, wS_ife, wS_ret, wS_nil, wS_exp, wE_cS, wE_cI, wE_cN, wE_cB, wE_call, wE_var, wE_glb, wE_bop, wE_idx, wE_lst, wE_tup, wE_blt, wE_met, wT_cmp, wT_and, wT_or, wT_nt, wT_one, wT_tru, wE_ite, wE_and, wE_or, wE_one, wE_nt, wE_cmp, wE_lc, wI_itr, wI_rng, wA_cons, wA_nil, wpO, wpF, List.set, List.getElem?_cons_zero, List.getElem?_cons_succ, Option.join_some, Bool.false_eq_true, if_false, if_true, wE_neg, wE_chn, wE_lset, wE_inW, wE_ixW, wS_fr, wS_rais, wT_chn, t_bl, later_nil, ofS_inj, decide_false, decide_true, Bool.or_false, Bool.false_or, Bool.or_true, Bool.true_or, Bool.not_false, Bool.not_true, Bool.and_true, Bool.true_and, reduceCtorEq, String.reduceEq, String.reduceNe, c_eq_str, c_ne_str, inT2, inT3, ninT3, ML.ix_tup, at2_0, at2_1, at2_m1, at2_m2, at3_0, at3_1, at3_2, at3_m1, at3_m2, at4_0, at4_1, at4_2, at4_3, at4_m1, at4_m2, Int.reduceNeg, nl0, nl1, nl2, nl3, nl4, true_and, list_tup, b_len_tup, inT4, ninT4, ninT5, t_tup, at0, at1_0, List.isEmpty_nil, List.isEmpty_cons, src_tup, wS_asgC])
      refine (comp_keep_all (fun x => lw (br (f x) (rkOf s - 1))) G1.wf (Nat.lt_of_le_of_lt h2 (by decide)) fun x hx S' G' => ?_).wpr fun S2 G2 => ?_
      · refine turn_ups rfl (Gv.ups ?_)
        simp only [wrs_seqL, wS_asg, wS_ife, wS_ret, wS_nil, wS_exp, wE_cS, wE_cI, wE_cN, wE_cB, wE_call, wE_var, wE_glb, wE_bop, wE_idx, wE_lst, wE_tup, wE_blt, wE_met, wT_cmp, wT_and, wT_or, wT_nt, wT_one, wT_tru, wE_ite, wE_and, wE_or, wE_one, wE_nt, wE_cmp, wE_lc, wI_itr, wI_rng, wA_cons, wA_nil, wpO, wpF, List.set, List.getElem?_cons_zero, List.getElem?_cons_succ, Option.join_some, Bool.false_eq_true, if_false, if_true, wE_neg, wE_chn, wE_lset, wE_inW, wE_ixW, wS_fr, wS_rais, wT_chn, t_bl, later_nil, List.map, wipeE, sub_int]
        rw [show (rkOf s : Int) - 1 = ((rkOf s - 1 : Nat) : Int) by omega]
        exact (lawInU ih (by omega) (by omega) G'.wf (h4 x hx)).wpr fun S4 G4 => ⟨rfl, G4⟩
      · rw [parts_map]
        rw [later]; simp only [wrs_seqL, wS_asg, wS_ife, wS_ret, wS_nil, wS_exp, wE_cS, wE_cI, wE_cN, wE_cB, wE_call, wE_var, wE_glb, wE_bop, wE_idx, wE_lst, wE_tup, wE_blt, wE_met, wT_cmp, wT_and, wT_or, wT_nt, wT_one, wT_tru, wE_ite, wE_and, wE_or, wE_one, wE_nt, wE_cmp, wE_lc, wI_itr, wI_rng, wA_cons, wA_nil, wpO, wpF, List.set, List.getElem?_cons_zero, List.getElem?_cons_succ, Option.join_some, Bool.false_eq_true, if_false, if_true, wE_neg, wE_chn, wE_lset, wE_inW, wE_ixW, wS_fr, wS_rais, wT_chn, t_bl, later_nil, ofS_inj, decide_false, decide_true, Bool.or_false, Bool.false_or, Bool.or_true, Bool.true_or, Bool.not_false, Bool.not_true, Bool.and_true, Bool.true_and, reduceCtorEq, String.reduceEq, String.reduceNe, c_eq_str, c_ne_str, inT2, inT3, ninT3, ML.ix_tup, at2_0, at2_1, at2_m1, at2_m2, at3_0, at3_1, at3_2, at3_m1, at3_m2, at4_0, at4_1, at4_2, at4_3, at4_m1, at4_m2, Int.reduceNeg, nl0, nl1, nl2, nl3, nl4, true_and, list_tup, b_len_tup, inT4, ninT4, ninT5, t_tup, at0, at1_0, List.isEmpty_nil, List.isEmpty_cons]
        refine (lawLaidU (by omega) G2.wf h1 (List.length_map ..) h2 (parts_le h4 (by omega)) (by decide)).wpr fun S3 G3 => ?_
        simp only [lw]
        rw [add_lw (by rw [List.length_map]; show 1 + _ ≤ _; omega)]
        exact ⟨by simp [lw], (G1.trans G2).trans G3⟩
    | @send n b u s ts w f h1 h2 h3 h4 =>
      have hll := laid_le (s := s) (m := rkOf s - 1) h4 (by omega) h2
      have hrk := rk_le s
      have hbl := br_le (m := min (rkOf s) 2) h3 (by omega)
      simp only [f_law_words, wrs_seqL, wS_asg, wS_ife, wS_ret, wS_nil, wS_exp, wE_cS, wE_cI, wE_cN, wE_cB, wE_call, wE_var, wE_glb, wE_bop, wE_idx, wE_lst, wE_tup, wE_blt, wE_met, wT_cmp, wT_and, wT_or, wT_nt, wT_one, wT_tru, wE_ite, wE_and, wE_or, wE_one, wE_nt, wE_cmp, wE_lc, wI_itr, wI_rng, wA_cons, wA_nil, wpO, wpF, List.set, List.getElem?_cons_zero, List.getElem?_cons_succ, Option.join_some, Bool.false_eq_true, if_false, if_true, wE_neg, wE_chn, wE_lset, wE_inW, wE_ixW, wS_fr, wS_rais, wT_chn, t_bl, later_nil, ofS_inj, decide_false, decide_true, Bool.or_false, Bool.false_or, Bool.or_true, Bool.true_or, Bool.not_false, Bool.not_true, Bool.and_true, Bool.true_and, reduceCtorEq, String.reduceEq, String.reduceNe, c_eq_str, c_ne_str, inT2, inT3, ninT3, ML.ix_tup, at2_0, at2_1, at2_m1, at2_m2, at3_0, at3_1, at3_2, at3_m1, at3_m2, at4_0, at4_1, at4_2, at4_3, at4_m1, at4_m2, Int.reduceNeg, nl0, nl1, nl2, nl3, nl4, true_and, list_tup, b_len_tup, inT4, ninT4, ninT5, t_tup, at0, at1_0, List.isEmpty_nil, List.isEmpty_cons]
      iterate 4 (rw [later]; simp only [wrs_seqL, wS_asg, wS_ife, wS_ret, wS_nil, wS_exp, wE_cS, wE_cI, wE_cN, wE_cB, wE_call, wE_var, wE_glb, wE_bop, wE_idx, wE_lst, wE_tup, wE_blt, wE_met, wT_cmp, wT_and, wT_or, wT_nt, wT_one, wT_tru, wE_ite, wE_and, wE_or, wE_one, wE_nt, wE_cmp, wE_lc, wI_itr, wI_rng, wA_cons, wA_nil, wpO, wpF, List.set, List.getElem?_cons_zero, List.getElem?_cons_succ, Option.join_some, Bool.false_eq_true, if_false, if_true, wE_neg, wE_chn, wE_lset, wE_inW, wE_ixW, wS_fr, wS_rais, wT_chn, t_bl, later_nil, ofS_inj, decide_false, decide_true, Bool.or_false, Bool.false_or, Bool.or_true, Bool.true_or, Bool.not_false, Bool.not_true, Bool.and_true, Bool.true_and, reduceCtorEq, String.reduceEq, String.reduceNe, c_eq_str, c_ne_str, inT2, inT3, ninT3, ML.ix_tup, at2_0, at2_1, at2_m1, at2_m2, at3_0, at3_1, at3_2, at3_m1, at3_m2, at4_0, at4_1, at4_2, at4_3, at4_m1, at4_m2, Int.reduceNeg, nl0, nl1, nl2, nl3, nl4, true_and, list_tup, b_len_tup, inT4, ninT4, ninT5, t_tup, at0, at1_0, List.isEmpty_nil, List.isEmpty_cons])
      refine (lawRankU (by omega) hS h0).wpr fun S1 G1 => ?_
      iterate 2 (rw [later]; simp only [wrs_seqL, wS_asg, wS_ife, wS_ret, wS_nil, wS_exp, wE_cS, wE_cI, wE_cN, wE_cB, wE_call, wE_var, wE_glb, wE_bop, wE_idx, wE_lst, wE_tup, wE_blt, wE_met, wT_cmp, wT_and, wT_or, wT_nt, wT_one, wT_tru, wE_ite, wE_and, wE_or, wE_one, wE_nt, wE_cmp, wE_lc, wI_itr, wI_rng, wA_cons, wA_nil, wpO, wpF, List.set, List.getElem?_cons_zero, List.getElem?_cons_succ, Option.join_some, Bool.false_eq_true, if_false, if_true, wE_neg, wE_chn, wE_lset, wE_inW, wE_ixW, wS_fr, wS_rais, wT_chn, t_bl, later_nil, ofS_inj, decide_false, decide_true, Bool.or_false, Bool.false_or, Bool.or_true, Bool.true_or, Bool.not_false, Bool.not_true, Bool.and_true, Bool.true_and, reduceCtorEq, String.reduceEq, String.reduceNe, c_eq_str, c_ne_str, inT2, inT3, ninT3, ML.ix_tup, at2_0, at2_1, at2_m1, at2_m2, at3_0, at3_1, at3_2, at3_m1, at3_m2, at4_0, at4_1, at4_2, at4_3, at4_m1, at4_m2, Int.reduceNeg, nl0, nl1, nl2, nl3, nl4, true_and, list_tup, b_len_tup, inT4, ninT4, ninT5, t_tup, at0, at1_0, List.isEmpty_nil, List.isEmpty_cons])
      rw [at4L (x := .non) (y := .non) (z := .non) (u := .non) hrk.1 hrk.2]
      simp only [wpO]
      refine (lawInU ih (by omega) (by omega) G1.wf h3).wpr fun S1' G1' => ?_
      have G1 := G1.trans G1'
      rw [later]; simp only [wrs_seqL, wS_asg, wS_ife, wS_ret, wS_nil, wS_exp, wE_cS, wE_cI, wE_cN, wE_cB, wE_call, wE_var, wE_glb, wE_bop, wE_idx, wE_lst, wE_tup, wE_blt, wE_met, wT_cmp, wT_and, wT_or, wT_nt, wT_one, wT_tru, wE_ite, wE_and, wE_or, wE_one, wE_nt, wE_cmp, wE_lc, wI_itr, wI_rng, wA_cons, wA_nil, wpO, wpF, List.set, List.getElem?_cons_zero, List.getElem?_cons_succ, Option.join_some, Bool.false_eq_true, if_false, if_true, wE_neg, wE_chn, wE_lset, wE_inW, wE_ixW, wS_fr, wS_rais, wT_chn, t_bl, later_nil, ofS_inj, decide_false, decide_true, Bool.or_false, Bool.false_or, Bool.or_true, Bool.true_or, Bool.not_false, Bool.not_true, Bool.and_true, Bool.true_and, reduceCtorEq, String.reduceEq, String.reduceNe, c_eq_str, c_ne_str, inT2, inT3, ninT3, ML.ix_tup, at2_0, at2_1, at2_m1, at2_m2, at3_0, at3_1, at3_2, at3_m1, at3_m2, at4_0, at4_1, at4_2, at4_3, at4_m1, at4_m2, Int.reduceNeg, nl0, nl1, nl2, nl3, nl4, true_and, list_tup, b_len_tup, inT4, ninT4, ninT5, t_tup, at0, at1_0, List.isEmpty_nil, List.isEmpty_cons, src_tup, wS_asgC]
      refine (comp_keep_all (fun x => lw (br (f x) (rkOf s - 1))) G1.wf (Nat.lt_of_le_of_lt h2 (by decide)) fun x hx S' G' => ?_).wpr fun S2 G2 => ?_
      · refine turn_ups rfl (Gv.ups ?_)
        simp only [wrs_seqL, wS_asg, wS_ife, wS_ret, wS_nil, wS_exp, wE_cS, wE_cI, wE_cN, wE_cB, wE_call, wE_var, wE_glb, wE_bop, wE_idx, wE_lst, wE_tup, wE_blt, wE_met, wT_cmp, wT_and, wT_or, wT_nt, wT_one, wT_tru, wE_ite, wE_and, wE_or, wE_one, wE_nt, wE_cmp, wE_lc, wI_itr, wI_rng, wA_cons, wA_nil, wpO, wpF, List.set, List.getElem?_cons_zero, List.getElem?_cons_succ, Option.join_some, Bool.false_eq_true, if_false, if_true, wE_neg, wE_chn, wE_lset, wE_inW, wE_ixW, wS_fr, wS_rais, wT_chn, t_bl, later_nil, List.map, wipeE, sub_int]
        rw [show (rkOf s : Int) - 1 = ((rkOf s - 1 : Nat) : Int) by omega]
        exact (lawInU ih (by omega) (by omega) G'.wf (h4 x hx)).wpr fun S4 G4 => ⟨rfl, G4⟩
      · rw [parts_map]
        rw [later]; simp only [wrs_seqL, wS_asg, wS_ife, wS_ret, wS_nil, wS_exp, wE_cS, wE_cI, wE_cN, wE_cB, wE_call, wE_var, wE_glb, wE_bop, wE_idx, wE_lst, wE_tup, wE_blt, wE_met, wT_cmp, wT_and, wT_or, wT_nt, wT_one, wT_tru, wE_ite, wE_and, wE_or, wE_one, wE_nt, wE_cmp, wE_lc, wI_itr, wI_rng, wA_cons, wA_nil, wpO, wpF, List.set, List.getElem?_cons_zero, List.getElem?_cons_succ, Option.join_some, Bool.false_eq_true, if_false, if_true, wE_neg, wE_chn, wE_lset, wE_inW, wE_ixW, wS_fr, wS_rais, wT_chn, t_bl, later_nil, ofS_inj, decide_false, decide_true, Bool.or_false, Bool.false_or, Bool.or_true, Bool.true_or, Bool.not_false, Bool.not_true, Bool.and_true, Bool.true_and, reduceCtorEq, String.reduceEq, String.reduceNe, c_eq_str, c_ne_str, inT2, inT3, ninT3, ML.ix_tup, at2_0, at2_1, at2_m1, at2_m2, at3_0, at3_1, at3_2, at3_m1, at3_m2, at4_0, at4_1, at4_2, at4_3, at4_m1, at4_m2, Int.reduceNeg, nl0, nl1, nl2, nl3, nl4, true_and, list_tup, b_len_tup, inT4, ninT4, ninT5, t_tup, at0, at1_0, List.isEmpty_nil, List.isEmpty_cons]
        refine (lawLaidU (by omega) G2.wf h1 (List.length_map ..) h2 (parts_le h4 (by omega)) (by decide)).wpr fun S3 G3 => ?_
        simp only [lw]
        rw [add_lw (by rw [List.length_map, List.length_map]; omega)]
        exact ⟨by simp [lw], (G1.trans G2).trans G3⟩
end K10

namespace K10
open PySem L2 ML

/-! ### how long words are -/
def Sh (ws : List Str) : Prop := ∀ u ∈ ws, u.length ≤ 61
theorem Sh.app {a b : List Str} (h : Sh a) (k : Sh b) : Sh (a ++ b) := fun u hu => (List.mem_append.mp hu).elim (h u) (k u)
theorem Sh.one {s : Str} (h : s.length ≤ 61) : Sh [s] := fun u hu => by rw [List.mem_singleton.mp hu]; exact h
theorem Sh.nil : Sh [] := fun u hu => by cases hu
theorem sg_len : (Str.ofString "(").length ≤ 61 ∧ (Str.ofString ")").length ≤ 61 ∧ (Str.ofString ".").length ≤ 61 ∧ (Str.ofString "|").length ≤ 61 ∧ (Str.ofString "[").length ≤ 61 ∧ (Str.ofString "]").length ≤ 61 ∧ (Str.ofString "^").length ≤ 61 ∧ (Str.ofString "super").length ≤ 61 ∧ (Str.ofString ":=").length ≤ 61 := by decide +kernel
theorem sh_br {w : W2} {m : Nat} (h : Sh w.1) : Sh (br w m) := by
  unfold br
  split
  · exact ((Sh.one sg_len.1).app h).app (.one sg_len.2.1)
  · exact h
theorem zip_mem : ∀ {ws : List Str} {ps : List (List Str)} {u : Str}, u ∈ zipW ws ps → u ∈ ws ∨ ∃ p ∈ ps, u ∈ p
  | [], _, u, h => by simp [zipW] at h
  | _ :: _, [], u, h => by simp [zipW] at h
  | w :: ws, p :: ps, u, h => by
    simp only [zipW, List.mem_append, List.mem_cons] at h
    rcases h with (h | h) | h
    · exact .inl (by rw [h]; exact List.mem_cons_self ..)
    · exact .inr ⟨p, List.mem_cons_self .., h⟩
    · rcases zip_mem h with h | ⟨q, h1, h2⟩
      · exact .inl (List.mem_cons_of_mem _ h)
      · exact .inr ⟨q, List.mem_cons_of_mem _ h1, h2⟩
theorem sh_hd {s : Str} {k : Nat} (h : Ar s k) : Sh (hdW s) := by
  have hl := h.1
  unfold hdW
  split
  · rename_i hc
    rcases ar_cases h with ⟨hn, z⟩ | ⟨hn, h5, z⟩ | ⟨hn, h5, k1, k3, ps, e, el, hps⟩
    · exact absurd hc (name_nocol hn)
    · have nc : ∀ s ∈ five, 58 ∉ s.cps.toList := by decide +kernel
      exact absurd hc (nc s h5)
    · rw [e, List.dropLast_concat]
      intro u hu
      obtain ⟨p, hp, rfl⟩ := List.mem_map.mp hu
      have := name_len (hps p hp)
      rw [mk_len] at this ⊢
      rw [List.length_append]
      show _ + 1 ≤ 61
      omega
  · exact .one (by omega)
theorem sh_laid {s : Str} {k : Nat} {parts : List (List Str)} (h : Ar s k) (hp : ∀ p ∈ parts, Sh p) : Sh (laid s parts) := by
  have hl := h.1
  unfold laid
  split
  · exact .one (by omega)
  · intro u hu
    rcases zip_mem hu with z | ⟨p, z1, z2⟩
    · exact sh_hd h u z
    · exact hp p z1 u z2
theorem sh_pre {ws : List (List Str)} (h : ∀ p ∈ ws, Sh p) : ∀ j, Sh (preW ws j)
  | 0 => .nil
  | j + 1 => by
    refine (sh_pre h j).app (Sh.app ?_ ?_)
    · split
      · exact .one sg_len.2.2.1
      · exact .nil
    · rw [List.getD_eq_getElem?_getD]
      cases q : ws[j]? with
      | none => exact .nil
      | some p => exact h p (List.mem_of_getElem? q)
theorem sh_top {ms : List Str} (h : ∀ x ∈ ms, isName x = true) : Sh (topW ms) := by
  unfold topW
  split
  · exact .nil
  · exact ((Sh.one sg_len.2.2.2.1).app fun u hu => by have := name_len (h u hu); omega).app (.one sg_len.2.2.2.1)
theorem sh_par {ps : List Str} (h : ∀ x ∈ ps, isName x = true) : Sh (parW ps) := by
  unfold parW
  refine Sh.app (fun u hu => ?_) ?_
  · obtain ⟨p, hp, rfl⟩ := List.mem_map.mp hu
    have := name_len (h p hp)
    rw [app_len, col_len]
    omega
  · split
    · exact .nil
    · exact .one sg_len.2.2.2.1
theorem num_len {i : Int} (h0 : 0 ≤ i) (h1 : i ≤ 999999) : (Str.ofString (toString i)).length ≤ 61 := by
  obtain ⟨m, rfl⟩ : ∃ m : Nat, i = m := ⟨i.toNat, by omega⟩
  rw [← len_cps, PySem.W.KIN.signs_num, List.length_map]
  have := PySem.W.KXf.digits_le (a := (m : Int)) (by omega) (by omega)
  rw [Int.natAbs_natCast] at this
  omega
theorem WV.sh {n : Nat} {b : Bool} {d : D} {w : W2} (h : WV n b d w) : Sh w.1 := by
  obtain ⟨g1, g2, g3, g4, g5, g6, g7, g8, g9⟩ := sg_len
  induction h with
  | num a b => exact .one (num_len a b)
  | word a => have := a.1; exact .one (by rw [app_len, hash_len]; omega)
  | name a => exact .one (by omega)
  | @set n b s t w a c ih =>
    have hs : Sh [s] := .one (by have := name_len a; omega)
    exact (hs.app (.one g9)).app ih
  | send a b c d ih1 ih2 => exact (sh_br ih1).app (sh_laid a fun p hp => by obtain ⟨x, hx, rfl⟩ := List.mem_map.mp hp; exact sh_br (ih2 x hx))
  | sup a b c ih => exact (Sh.one g8).app (sh_laid a fun p hp => by obtain ⟨x, hx, rfl⟩ := List.mem_map.mp hp; exact sh_br (ih x hx))
  | blk a b c d e ih =>
    refine (((Sh.one g5).app (sh_par fun x hx => c x (List.mem_append_left _ hx))).app ((sh_top fun x hx => c x (List.mem_append_right _ hx)).app (sh_pre (fun p hp => ?_) _))).app (.one g6)
    obtain ⟨x, hx, rfl⟩ := List.mem_map.mp hp
    obtain ⟨k, hk⟩ := List.mem_iff_getElem?.mp hx
    exact ih k x hk
  | back a ih => exact (Sh.one g7).app ih
/-! ### the text of a method -/
theorem sum_leB {b : Nat} : ∀ {ys : List Str}, (∀ y ∈ ys, y.length ≤ b) → (ys.map (·.length)).sum ≤ ys.length * b
  | [], _ => by simp
  | y :: ys, h => by
    have i := sum_leB (b := b) (ys := ys) fun z hz => h z (List.mem_cons_of_mem _ hz)
    have j := h y (List.mem_cons_self ..)
    rw [List.map_cons, List.sum_cons, List.length_cons, Nat.succ_mul]
    omega
theorem sp_len : (Str.ofString " ").length = 1 := by decide +kernel
theorem join_ok {ws : List Str} (hs : Sh ws) (hl : ws.length ≤ 240000) (S : Store) : mfM false .join (.str (Str.ofString " ")) [lw ws] S = .ok (.str (Txt.join (Str.ofString " ") ws)) S := by
  show finO false (((seqOf S (lw ws)).bind txts).bind fun ys => if (ys.map (·.length)).sum + ys.length * (Str.ofString " ").length ≤ nMax then some (PR.val (.str (Txt.join (Str.ofString " ") ys))) else none) S = _
  rw [show seqOf S (lw ws) = some (ws.map D.str) from rfl, Option.bind_some, txts_map, Option.bind_some, sp_len]
  have a := sum_leB hs
  have b : ws.length * 61 ≤ 240000 * 61 := Nat.mul_le_mul_right _ hl
  have c : (ws.map (·.length)).sum + ws.length * 1 ≤ 16000000 := by omega
  rw [if_pos (show _ ≤ nMax from c)]
  rfl
/-- a method's words -/
structure MW (d : D) (ws : List Str) : Prop where
  len : ws.length ≤ 240000
  sh : Sh ws
  own : ∀ (L : Nat) (S : Store), 40 ≤ L → S.WF → Ups (sem T L 17 [d] S) S (.str (Txt.join (Str.ofString " ") ws))
  law : ∀ (L t : Nat) (sc : D) (S : Store), 40 ≤ L → S.WF → Ups (sem T L 37 [sc, .loc t, d, .int 0] S) S (lw ws)
theorem one_parts {ps : List Str} : D.lst (ps.map fun s => lw [s]) = pD (ps.map fun s => [s]) := by
  unfold pD; rw [List.map_map]; rfl
theorem methW {d : D} (h : MethB 7 4 d) : ∃ ws, MW d ws := by
  have hg := MethB.mg h (by decide)
  obtain ⟨s, ps, ms, bs, rfl, h1, h2, h3, h4, h5, h6, h7⟩ := h
  obtain ⟨f, hf⟩ := WV_row fun k x hk => (h7 k x hk).wv
  have hp1 : ∀ p ∈ ps.map (fun s => [s]), p.length ≤ 1 := fun p hp => by obtain ⟨x, hx, rfl⟩ := List.mem_map.mp hp; exact Nat.le_refl 1
  have hll := laid_len (s := s) hp1
  rw [List.length_map] at hll
  have hrl : (rowW f ms bs).length ≤ 230000 := by
    have a := top_len (ms := ms)
    have e := pre_len (ws := bs.map fun x => (f x).1) (M := 57340) (fun p hp => by
      obtain ⟨x, hx, rfl⟩ := List.mem_map.mp hp
      obtain ⟨k, hk⟩ := List.mem_iff_getElem?.mp hx
      have := wv_len (hf k x hk)
      have d : Q4 6 = 57344 := by decide
      omega) bs.length
    have e2 : bs.length * (57340 + 1) ≤ 4 * (57340 + 1) := Nat.mul_le_mul_right _ h6
    unfold rowW
    rw [List.length_append]
    omega
  have hlen : (laid s (ps.map fun s => [s]) ++ rowW f ms bs).length ≤ 240000 := by rw [List.length_append]; omega
  have hsh : Sh (laid s (ps.map fun s => [s]) ++ rowW f ms bs) := by
    refine (sh_laid h1 fun p hp => ?_).app ((sh_top fun x hx => h4 x (List.mem_append_right _ hx)).app (sh_pre (fun p hp => ?_) _))
    · obtain ⟨x, hx, rfl⟩ := List.mem_map.mp hp
      have := name_len (h4 x (List.mem_append_left _ hx))
      exact .one (by omega)
    · obtain ⟨x, hx, rfl⟩ := List.mem_map.mp hp
      obtain ⟨k, hk⟩ := List.mem_iff_getElem?.mp hx
      exact (hf k x hk).sh
  refine ⟨laid s (ps.map fun s => [s]) ++ rowW f ms bs, hlen, hsh, fun L S hL hS => ?_, fun L t sc S hL hS => ?_⟩
  · obtain ⟨l, rfl⟩ : ∃ n, L = n + 1 := ⟨L - 1, by omega⟩
    refine Gv.ups ?_
    show wpr (endF (evS (sem T l) (gvs T) f_written_method.body [some _, none, none] S)) _ _
    rw [wrs_end]
    simp only [f_written_method, wrs_seqL, wS_asg, wS_ife, wS_ret, wS_nil, wS_exp, wE_cS, wE_cI, wE_cN, wE_cB, wE_call, wE_var, wE_glb, wE_bop, wE_idx, wE_lst, wE_tup, wE_blt, wE_met, wT_cmp, wT_and, wT_or, wT_nt, wT_one, wT_tru, wE_ite, wE_and, wE_or, wE_one, wE_nt, wE_cmp, wE_lc, wI_itr, wI_rng, wA_cons, wA_nil, wpO, wpF, List.set, List.getElem?_cons_zero, List.getElem?_cons_succ, Option.join_some, Bool.false_eq_true, if_false, if_true, wE_neg, wE_chn, wE_lset, wE_inW, wE_ixW, wS_fr, wS_rais, wT_chn, t_bl, later_nil]
    refine (lookMethodL (n := 7) (v := true) (by omega) hS (hg.mv (by decide))).use (fun _ S1 G1 => ?_) (fun e => by cases e)
    rw [later]
    simp only [wrs_seqL, wS_asg, wS_ife, wS_ret, wS_nil, wS_exp, wE_cS, wE_cI, wE_cN, wE_cB, wE_call, wE_var, wE_glb, wE_bop, wE_idx, wE_lst, wE_tup, wE_blt, wE_met, wT_cmp, wT_and, wT_or, wT_nt, wT_one, wT_tru, wE_ite, wE_and, wE_or, wE_one, wE_nt, wE_cmp, wE_lc, wI_itr, wI_rng, wA_cons, wA_nil, wpO, wpF, List.set, List.getElem?_cons_zero, List.getElem?_cons_succ, Option.join_some, Bool.false_eq_true, if_false, if_true, wE_neg, wE_chn, wE_lset, wE_inW, wE_ixW, wS_fr, wS_rais, wT_chn, t_bl, later_nil, ofS_inj, decide_false, decide_true, Bool.or_false, Bool.false_or, Bool.or_true, Bool.true_or, Bool.not_false, Bool.not_true, Bool.and_true, Bool.true_and, reduceCtorEq, String.reduceEq, String.reduceNe, c_eq_str, c_ne_str, inT2, inT3, ninT3, ML.ix_tup, at2_0, at2_1, at2_m1, at2_m2, at3_0, at3_1, at3_2, at3_m1, at3_m2, at4_0, at4_1, at4_2, at4_3, at4_m1, at4_m2, Int.reduceNeg, nl0, nl1, nl2, nl3, nl4, true_and, list_tup, b_len_tup, inT4, ninT4, ninT5, t_tup, at0, at1_0, List.isEmpty_nil, List.isEmpty_cons, src_tup]
    refine (comp_keep_all (fun d => match d with | .str s => lw [s] | _ => .non) G1.wf (by rw [List.length_map]; exact Nat.lt_of_le_of_lt h2 (by decide)) fun x hx S' G' => ?_).wpr fun S2 G2 => ?_
    · obtain ⟨s, hs, rfl⟩ := List.mem_map.mp hx
      refine turn_ups rfl (Gv.ups ?_)
      simp only [wrs_seqL, wS_asg, wS_ife, wS_ret, wS_nil, wS_exp, wE_cS, wE_cI, wE_cN, wE_cB, wE_call, wE_var, wE_glb, wE_bop, wE_idx, wE_lst, wE_tup, wE_blt, wE_met, wT_cmp, wT_and, wT_or, wT_nt, wT_one, wT_tru, wE_ite, wE_and, wE_or, wE_one, wE_nt, wE_cmp, wE_lc, wI_itr, wI_rng, wA_cons, wA_nil, wpO, wpF, List.set, List.getElem?_cons_zero, List.getElem?_cons_succ, Option.join_some, Bool.false_eq_true, if_false, if_true, wE_neg, wE_chn, wE_lset, wE_inW, wE_ixW, wS_fr, wS_rais, wT_chn, t_bl, later_nil, List.map, wipeE, nl1, true_and]
      exact ⟨rfl, .refl G'.wf⟩
    · rw [List.map_map, show ((fun (d : D) => match d with | .str s => lw [s] | _ => .non) ∘ D.str) = fun s => lw [s] from rfl, one_parts]
      refine (laidU (by omega) G2.wf h1 (List.length_map ..) h2 hp1 (by decide)).wpr fun S3 G3 => ?_
      rw [later]
      simp only [wrs_seqL, wS_asg, wS_ife, wS_ret, wS_nil, wS_exp, wE_cS, wE_cI, wE_cN, wE_cB, wE_call, wE_var, wE_glb, wE_bop, wE_idx, wE_lst, wE_tup, wE_blt, wE_met, wT_cmp, wT_and, wT_or, wT_nt, wT_one, wT_tru, wE_ite, wE_and, wE_or, wE_one, wE_nt, wE_cmp, wE_lc, wI_itr, wI_rng, wA_cons, wA_nil, wpO, wpF, List.set, List.getElem?_cons_zero, List.getElem?_cons_succ, Option.join_some, Bool.false_eq_true, if_false, if_true, wE_neg, wE_chn, wE_lset, wE_inW, wE_ixW, wS_fr, wS_rais, wT_chn, t_bl, later_nil, ofS_inj, decide_false, decide_true, Bool.or_false, Bool.false_or, Bool.or_true, Bool.true_or, Bool.not_false, Bool.not_true, Bool.and_true, Bool.true_and, reduceCtorEq, String.reduceEq, String.reduceNe, c_eq_str, c_ne_str, inT2, inT3, ninT3, ML.ix_tup, at2_0, at2_1, at2_m1, at2_m2, at3_0, at3_1, at3_2, at3_m1, at3_m2, at4_0, at4_1, at4_2, at4_3, at4_m1, at4_m2, Int.reduceNeg, nl0, nl1, nl2, nl3, nl4, true_and, list_tup, b_len_tup, inT4, ninT4, ninT5, t_tup, at0, at1_0, List.isEmpty_nil, List.isEmpty_cons]
      refine ⟨rfl, ?_⟩
      refine (bodyWU (treeW 7) (by omega) (by decide) G3.wf (by omega) (by omega) hf).wpr fun S4 G4 => ?_
      simp only [lw]
      rw [add_lw (by rw [List.length_map, List.length_map]; omega)]
      simp only [wpF, Bool.false_eq_true, if_false, ← List.map_append]
      rw [show D.lst ((laid s (ps.map fun s => [s]) ++ rowW f ms bs).map D.str) = lw (laid s (ps.map fun s => [s]) ++ rowW f ms bs) from rfl, join_ok hsh hlen, wpr_ok]
      exact ⟨rfl, ((G1.trans G2).trans G3).trans G4⟩
  · obtain ⟨l, rfl⟩ : ∃ n, L = n + 1 := ⟨L - 1, by omega⟩
    refine Gv.ups ?_
    show wpr (endF (evS (sem T l) (gvs T) f_law_text.body [some sc, some (.loc t), some _, some (.int 0), none, none] S)) _ _
    rw [wrs_end]
    simp only [f_law_text, wrs_seqL, wS_asg, wS_ife, wS_ret, wS_nil, wS_exp, wE_cS, wE_cI, wE_cN, wE_cB, wE_call, wE_var, wE_glb, wE_bop, wE_idx, wE_lst, wE_tup, wE_blt, wE_met, wT_cmp, wT_and, wT_or, wT_nt, wT_one, wT_tru, wE_ite, wE_and, wE_or, wE_one, wE_nt, wE_cmp, wE_lc, wI_itr, wI_rng, wA_cons, wA_nil, wpO, wpF, List.set, List.getElem?_cons_zero, List.getElem?_cons_succ, Option.join_some, Bool.false_eq_true, if_false, if_true, wE_neg, wE_chn, wE_lset, wE_inW, wE_ixW, wS_fr, wS_rais, wT_chn, t_bl, later_nil, ofS_inj, decide_false, decide_true, Bool.or_false, Bool.false_or, Bool.or_true, Bool.true_or, Bool.not_false, Bool.not_true, Bool.and_true, Bool.true_and, reduceCtorEq, String.reduceEq, String.reduceNe, c_eq_str, c_ne_str, inT2, inT3, ninT3, ML.ix_tup, at2_0, at2_1, at2_m1, at2_m2, at3_0, at3_1, at3_2, at3_m1, at3_m2, at4_0, at4_1, at4_2, at4_3, at4_m1, at4_m2, Int.reduceNeg, nl0, nl1, nl2, nl3, nl4, true_and, list_tup, b_len_tup, inT4, ninT4, ninT5, t_tup, at0, at1_0, List.isEmpty_nil, List.isEmpty_cons, src_tup]
    refine (comp_keep_all (fun d => match d with | .str s => lw [s] | _ => .non) hS (by rw [List.length_map]; exact Nat.lt_of_le_of_lt h2 (by decide)) fun x hx S' G' => ?_).wpr fun S2 G2 => ?_
    · obtain ⟨s, hs, rfl⟩ := List.mem_map.mp hx
      refine turn_ups rfl (Gv.ups ?_)
      simp only [wrs_seqL, wS_asg, wS_ife, wS_ret, wS_nil, wS_exp, wE_cS, wE_cI, wE_cN, wE_cB, wE_call, wE_var, wE_glb, wE_bop, wE_idx, wE_lst, wE_tup, wE_blt, wE_met, wT_cmp, wT_and, wT_or, wT_nt, wT_one, wT_tru, wE_ite, wE_and, wE_or, wE_one, wE_nt, wE_cmp, wE_lc, wI_itr, wI_rng, wA_cons, wA_nil, wpO, wpF, List.set, List.getElem?_cons_zero, List.getElem?_cons_succ, Option.join_some, Bool.false_eq_true, if_false, if_true, wE_neg, wE_chn, wE_lset, wE_inW, wE_ixW, wS_fr, wS_rais, wT_chn, t_bl, later_nil, List.map, wipeE, nl1, true_and]
      exact ⟨rfl, .refl G'.wf⟩
    · rw [List.map_map, show ((fun (d : D) => match d with | .str s => lw [s] | _ => .non) ∘ D.str) = fun s => lw [s] from rfl, one_parts]
      refine (lawLaidU (by omega) G2.wf h1 (List.length_map ..) h2 hp1 (by decide)).wpr fun S3 G3 => ?_
      rw [later]
      simp only [wrs_seqL, wS_asg, wS_ife, wS_ret, wS_nil, wS_exp, wE_cS, wE_cI, wE_cN, wE_cB, wE_call, wE_var, wE_glb, wE_bop, wE_idx, wE_lst, wE_tup, wE_blt, wE_met, wT_cmp, wT_and, wT_or, wT_nt, wT_one, wT_tru, wE_ite, wE_and, wE_or, wE_one, wE_nt, wE_cmp, wE_lc, wI_itr, wI_rng, wA_cons, wA_nil, wpO, wpF, List.set, List.getElem?_cons_zero, List.getElem?_cons_succ, Option.join_some, Bool.false_eq_true, if_false, if_true, wE_neg, wE_chn, wE_lset, wE_inW, wE_ixW, wS_fr, wS_rais, wT_chn, t_bl, later_nil, ofS_inj, decide_false, decide_true, Bool.or_false, Bool.false_or, Bool.or_true, Bool.true_or, Bool.not_false, Bool.not_true, Bool.and_true, Bool.true_and, reduceCtorEq, String.reduceEq, String.reduceNe, c_eq_str, c_ne_str, inT2, inT3, ninT3, ML.ix_tup, at2_0, at2_1, at2_m1, at2_m2, at3_0, at3_1, at3_2, at3_m1, at3_m2, at4_0, at4_1, at4_2, at4_3, at4_m1, at4_m2, Int.reduceNeg, nl0, nl1, nl2, nl3, nl4, true_and, list_tup, b_len_tup, inT4, ninT4, ninT5, t_tup, at0, at1_0, List.isEmpty_nil, List.isEmpty_cons]
      refine (lawRowU (n := 7) (fun m hm => lawW 7 m hm) (by omega) (by decide) G3.wf (fun x hx => nm_ok (h4 x (List.mem_append_right _ hx))) (by omega) (by omega) hf).wpr fun S4 G4 => ?_
      simp only [lw]
      rw [add_lw (by rw [List.length_map, List.length_map]; omega)]
      simp only [wpF, Bool.false_eq_true, if_false]
      exact ⟨by simp [lw], (G2.trans G3).trans G4⟩
end K10

namespace K10
open PySem L2 ML

theorem eq_ref {S : Store} : cmpP S .Eq refD (.tup [.str (Str.ofString "refused"), .str (Str.ofString "tree")]) = some true := by
  have e1 : py refD = some (.tuple [.str (Str.ofString "refused"), .str (Str.ofString "tree")]) := rfl
  show (match py refD, py refD with
    | some a, some b => if (SeqAt.shaped a && SeqAt.shaped b) = true then some (PyData.eqv a b) else none
    | _, _ => none) = _
  rw [e1]
  have e2 : SeqAt.shaped (.tuple [.str (Str.ofString "refused"), .str (Str.ofString "tree")]) = true := by decide +kernel
  have e3 : PyData.eqv (.tuple [.str (Str.ofString "refused"), .str (Str.ofString "tree")]) (.tuple [.str (Str.ofString "refused"), .str (Str.ofString "tree")]) = true := by decide +kernel
  simp only [e2, e3, Bool.and_self, if_true]

theorem toldOk {L : Nat} {d : D} {ws : List Str} {S : Store} (hL : 41 ≤ L) (hS : S.WF) (h : MW d ws) : Ups (sem T L 38 [d] S) S (.str (Txt.join (Str.ofString " ") ws)) := by
  obtain ⟨l, rfl⟩ : ∃ l, L = l + 1 := ⟨L - 1, by omega⟩
  refine Gv.ups ?_
  show wpr (endF (evS (sem T l) (gvs T) f_law_told.body [some d, none, none, none] S)) _ _
  rw [wrs_end]
  simp only [f_law_told, wrs_seqL, wS_asg, wS_ife, wS_ret, wS_nil, wS_exp, wE_cS, wE_cI, wE_cN, wE_cB, wE_call, wE_var, wE_glb, wE_bop, wE_idx, wE_lst, wE_tup, wE_blt, wE_met, wT_cmp, wT_and, wT_or, wT_nt, wT_one, wT_tru, wE_ite, wE_and, wE_or, wE_one, wE_nt, wE_cmp, wE_lc, wI_itr, wI_rng, wA_cons, wA_nil, wpO, wpF, List.set, List.getElem?_cons_zero, List.getElem?_cons_succ, Option.join_some, Bool.false_eq_true, if_false, if_true, wE_neg, wE_chn, wE_lset, wE_inW, wE_ixW, wS_fr, wS_rais, wT_chn, t_bl, later_nil]
  rw [later]
  simp only [wrs_seqL, wS_asg, wS_ife, wS_ret, wS_nil, wS_exp, wE_cS, wE_cI, wE_cN, wE_cB, wE_call, wE_var, wE_glb, wE_bop, wE_idx, wE_lst, wE_tup, wE_blt, wE_met, wT_cmp, wT_and, wT_or, wT_nt, wT_one, wT_tru, wE_ite, wE_and, wE_or, wE_one, wE_nt, wE_cmp, wE_lc, wI_itr, wI_rng, wA_cons, wA_nil, wpO, wpF, List.set, List.getElem?_cons_zero, List.getElem?_cons_succ, Option.join_some, Bool.false_eq_true, if_false, if_true, wE_neg, wE_chn, wE_lset, wE_inW, wE_ixW, wS_fr, wS_rais, wT_chn, t_bl, later_nil]
  rw [later]
  simp only [wS_tryK, wrs_seqL, wS_asg, wS_ife, wS_ret, wS_nil, wS_exp, wE_cS, wE_cI, wE_cN, wE_cB, wE_call, wE_var, wE_glb, wE_bop, wE_idx, wE_lst, wE_tup, wE_blt, wE_met, wT_cmp, wT_and, wT_or, wT_nt, wT_one, wT_tru, wE_ite, wE_and, wE_or, wE_one, wE_nt, wE_cmp, wE_lc, wI_itr, wI_rng, wA_cons, wA_nil, wpO, wpF, List.set, List.getElem?_cons_zero, List.getElem?_cons_succ, Option.join_some, Bool.false_eq_true, if_false, if_true, wE_neg, wE_chn, wE_lset, wE_inW, wE_ixW, wS_fr, wS_rais, wT_chn, t_bl, later_nil]
  refine (h.own l S (by omega) hS).wpr fun S1 G1 => ?_
  try rw [later_nil]
  rw [later]
  simp only [wrs_seqL, wS_asg, wS_ife, wS_ret, wS_nil, wS_exp, wE_cS, wE_cI, wE_cN, wE_cB, wE_call, wE_var, wE_glb, wE_bop, wE_idx, wE_lst, wE_tup, wE_blt, wE_met, wT_cmp, wT_and, wT_or, wT_nt, wT_one, wT_tru, wE_ite, wE_and, wE_or, wE_one, wE_nt, wE_cmp, wE_lc, wI_itr, wI_rng, wA_cons, wA_nil, wpO, wpF, List.set, List.getElem?_cons_zero, List.getElem?_cons_succ, Option.join_some, Bool.false_eq_true, if_false, if_true, wE_neg, wE_chn, wE_lset, wE_inW, wE_ixW, wS_fr, wS_rais, wT_chn, t_bl, later_nil, c_is, ML.isNon]
  exact ⟨rfl, G1⟩
theorem writeBad {L n : Nat} {d : D} {S : Store} (hL : 2 * n + 9 ≤ L) (hS : S.WF) (h : MV n d false) : wpr (sem T L 17 [d] S) (fun _ _ => False) (LE false S) := by
  obtain ⟨l, rfl⟩ : ∃ l, L = l + 1 := ⟨L - 1, by omega⟩
  show wpr (endF (evS (sem T l) (gvs T) f_written_method.body [some d, none, none] S)) _ _
  rw [wrs_end]
  simp only [f_written_method, wrs_seqL, wS_asg, wS_ife, wS_ret, wS_nil, wS_exp, wE_cS, wE_cI, wE_cN, wE_cB, wE_call, wE_var, wE_glb, wE_bop, wE_idx, wE_lst, wE_tup, wE_blt, wE_met, wT_cmp, wT_and, wT_or, wT_nt, wT_one, wT_tru, wE_ite, wE_and, wE_or, wE_one, wE_nt, wE_cmp, wE_lc, wI_itr, wI_rng, wA_cons, wA_nil, wpO, wpF, List.set, List.getElem?_cons_zero, List.getElem?_cons_succ, Option.join_some, Bool.false_eq_true, if_false, if_true, wE_neg, wE_chn, wE_lset, wE_inW, wE_ixW, wS_fr, wS_rais, wT_chn, t_bl, later_nil]
  exact (lookMethodL (by omega) hS h).use (fun e => by cases e) (fun e S1 G1 => ⟨rfl, rfl, G1⟩)
theorem toldBad {L n : Nat} {d : D} {S : Store} (hL : 2 * n + 10 ≤ L) (hS : S.WF) (h : MV n d false) : Ups (sem T L 38 [d] S) S refD := by
  obtain ⟨l, rfl⟩ : ∃ l, L = l + 1 := ⟨L - 1, by omega⟩
  refine Gv.ups ?_
  show wpr (endF (evS (sem T l) (gvs T) f_law_told.body [some d, none, none, none] S)) _ _
  rw [wrs_end]
  have et : List.lookup (Str.ofString "BadTree") [(Str.ofString "BadTree", true)] = some true := by decide +kernel
  simp only [f_law_told, wrs_seqL, wS_asg, wS_ife, wS_ret, wS_nil, wS_exp, wE_cS, wE_cI, wE_cN, wE_cB, wE_call, wE_var, wE_glb, wE_bop, wE_idx, wE_lst, wE_tup, wE_blt, wE_met, wT_cmp, wT_and, wT_or, wT_nt, wT_one, wT_tru, wE_ite, wE_and, wE_or, wE_one, wE_nt, wE_cmp, wE_lc, wI_itr, wI_rng, wA_cons, wA_nil, wpO, wpF, List.set, List.getElem?_cons_zero, List.getElem?_cons_succ, Option.join_some, Bool.false_eq_true, if_false, if_true, wE_neg, wE_chn, wE_lset, wE_inW, wE_ixW, wS_fr, wS_rais, wT_chn, t_bl, later_nil]
  rw [later]
  simp only [wrs_seqL, wS_asg, wS_ife, wS_ret, wS_nil, wS_exp, wE_cS, wE_cI, wE_cN, wE_cB, wE_call, wE_var, wE_glb, wE_bop, wE_idx, wE_lst, wE_tup, wE_blt, wE_met, wT_cmp, wT_and, wT_or, wT_nt, wT_one, wT_tru, wE_ite, wE_and, wE_or, wE_one, wE_nt, wE_cmp, wE_lc, wI_itr, wI_rng, wA_cons, wA_nil, wpO, wpF, List.set, List.getElem?_cons_zero, List.getElem?_cons_succ, Option.join_some, Bool.false_eq_true, if_false, if_true, wE_neg, wE_chn, wE_lset, wE_inW, wE_ixW, wS_fr, wS_rais, wT_chn, t_bl, later_nil]
  rw [later]
  simp only [wS_tryK, wrs_seqL, wS_asg, wS_ife, wS_ret, wS_nil, wS_exp, wE_cS, wE_cI, wE_cN, wE_cB, wE_call, wE_var, wE_glb, wE_bop, wE_idx, wE_lst, wE_tup, wE_blt, wE_met, wT_cmp, wT_and, wT_or, wT_nt, wT_one, wT_tru, wE_ite, wE_and, wE_or, wE_one, wE_nt, wE_cmp, wE_lc, wI_itr, wI_rng, wA_cons, wA_nil, wpO, wpF, List.set, List.getElem?_cons_zero, List.getElem?_cons_succ, Option.join_some, Bool.false_eq_true, if_false, if_true, wE_neg, wE_chn, wE_lset, wE_inW, wE_ixW, wS_fr, wS_rais, wT_chn, t_bl, later_nil]
  refine wpr_mono (writeBad (by omega) hS h) (fun _ _ z => z.elim) (fun c S1 ⟨_, ec, G1⟩ => ?_)
  rw [ec, et]
  refine ⟨by show 3 < 4; decide, ?_⟩
  rw [later]
  simp only [wrs_seqL, wS_asg, wS_ife, wS_ret, wS_nil, wS_exp, wE_cS, wE_cI, wE_cN, wE_cB, wE_call, wE_var, wE_glb, wE_bop, wE_idx, wE_lst, wE_tup, wE_blt, wE_met, wT_cmp, wT_and, wT_or, wT_nt, wT_one, wT_tru, wE_ite, wE_and, wE_or, wE_one, wE_nt, wE_cmp, wE_lc, wI_itr, wI_rng, wA_cons, wA_nil, wpO, wpF, List.set, List.getElem?_cons_zero, List.getElem?_cons_succ, Option.join_some, Bool.false_eq_true, if_false, if_true, wE_neg, wE_chn, wE_lset, wE_inW, wE_ixW, wS_fr, wS_rais, wT_chn, t_bl, later_nil, c_is, ML.isNon]
  exact (refusalU (by omega) G1.wf).wpr fun S2 G2 => ⟨rfl, G1.trans G2⟩
def Yes (d : D) (S : Store) : Prop := d = .bl true
theorem a_name : isName (Str.ofString "a") = true := by decide +kernel
theorem bad1 : MV 1 (.tup [.str (Str.ofString "a"), .tup [.str (Str.ofString "a")], .tup [], .tup []]) false := by
  obtain ⟨o, z⟩ := arV (nm_ok a_name).le
  have eo := ar_some (ar_name a_name) z
  have := MV.four (n := 1) (ps := [Str.ofString "a"]) (ms := []) (bs := []) (f := fun _ => (false, false, fun _ => true)) (nm_ok a_name) z (by decide) (by decide) (fun x hx => by rw [List.append_nil, List.mem_singleton] at hx; rw [hx]; exact nm_ok a_name) (by decide) (fun x hx => by cases hx)
  rw [eo] at this
  exact this
theorem bad2 : MV 1 (.tup [.str (Str.ofString "a"), .tup [], .tup [], .tup [.tup [.str (Str.ofString "number"), .int (-1)]]]) false := by
  obtain ⟨o, z⟩ := arV (nm_ok a_name).le
  have := MV.four (n := 1) (ps := []) (ms := []) (bs := [.tup [.str (Str.ofString "number"), .int (-1)]]) (f := fun _ => (decide (0 ≤ (-1 : Int)) && decide ((-1 : Int) ≤ 999999), false, fun _ => true)) (nm_ok a_name) z (by decide) (by decide) (fun x hx => by cases hx) (by show 1 ≤ 6; decide) (fun x hx => by rw [List.mem_singleton.mp hx]; exact .num)
  have e : bodyV (fun _ => (decide (0 ≤ (-1 : Int)) && decide ((-1 : Int) ≤ 999999), false, fun _ => true)) [.tup [.str (Str.ofString "number"), .int (-1)]] 1 = false := by rfl
  rw [e, Bool.and_false, Bool.and_false] at this
  exact this
theorem law_pure (ns : List Int) (hns : ns.length ≤ 63) : ∃ S', sem T 200 39 [script ns] S0 = .ok (.bl true) S' := by
  suffices h : wpr (sem T 200 39 [script ns] S0) Yes (fun _ _ => False) by
    obtain ⟨a, S', e, h⟩ := wpr_elim h
    exact ⟨S', by rw [e, h]⟩
  show wpr (endF (evS (sem T 199) (gvs T) f_law.body [some (script ns), none, none, none] S0)) _ _
  rw [wrs_end]
  simp only [f_law, wrs_seqL, wS_asg, wS_ife, wS_ret, wS_nil, wS_exp, wE_cS, wE_cI, wE_cN, wE_cB, wE_call, wE_var, wE_glb, wE_bop, wE_idx, wE_lst, wE_tup, wE_blt, wE_met, wT_cmp, wT_and, wT_or, wT_nt, wT_one, wT_tru, wE_ite, wE_and, wE_or, wE_one, wE_nt, wE_cmp, wE_lc, wI_itr, wI_rng, wA_cons, wA_nil, wpO, wpF, List.set, List.getElem?_cons_zero, List.getElem?_cons_succ, Option.join_some, Bool.false_eq_true, if_false, if_true, wE_neg, wE_chn, wE_lset, wE_inW, wE_ixW, wS_fr, wS_rais, wT_chn, t_bl, later_nil, nl0, true_and]
  have T0 : Tn S0.nx 0 (S0.new (.lst [])) := ⟨Store.new_WF wf0, Nat.lt_succ_self _, [], Store.new_ob, Nat.le_refl _⟩
  rw [later]
  simp only [wrs_seqL, wS_asg, wS_ife, wS_ret, wS_nil, wS_exp, wE_cS, wE_cI, wE_cN, wE_cB, wE_call, wE_var, wE_glb, wE_bop, wE_idx, wE_lst, wE_tup, wE_blt, wE_met, wT_cmp, wT_and, wT_or, wT_nt, wT_one, wT_tru, wE_ite, wE_and, wE_or, wE_one, wE_nt, wE_cmp, wE_lc, wI_itr, wI_rng, wA_cons, wA_nil, wpO, wpF, List.set, List.getElem?_cons_zero, List.getElem?_cons_succ, Option.join_some, Bool.false_eq_true, if_false, if_true, wE_neg, wE_chn, wE_lset, wE_inW, wE_ixW, wS_fr, wS_rais, wT_chn, t_bl, later_nil]
  generalize hS : S0.new (.lst []) = S at T0 ⊢
  generalize S0.nx = t at T0 ⊢
  have ec : cT 4 = 8470 := rfl
  refine (methodL (N := 7) (by decide) T0 (by decide) (by decide)).use fun d S1 hd T1 K1 => ?_
  obtain ⟨ws, hw⟩ := methW hd
  rw [later]
  simp only [wrs_seqL, wS_asg, wS_ife, wS_ret, wS_nil, wS_exp, wE_cS, wE_cI, wE_cN, wE_cB, wE_call, wE_var, wE_glb, wE_bop, wE_idx, wE_lst, wE_tup, wE_blt, wE_met, wT_cmp, wT_and, wT_or, wT_nt, wT_one, wT_tru, wE_ite, wE_and, wE_or, wE_one, wE_nt, wE_cmp, wE_lc, wI_itr, wI_rng, wA_cons, wA_nil, wpO, wpF, List.set, List.getElem?_cons_zero, List.getElem?_cons_succ, Option.join_some, Bool.false_eq_true, if_false, if_true, wE_neg, wE_chn, wE_lset, wE_inW, wE_ixW, wS_fr, wS_rais, wT_chn, t_bl, later_nil]
  refine (toldOk (by decide) T1.wf hw).wpr fun S2 G2 => ?_
  refine ⟨rfl, ?_⟩
  refine (hw.law 199 t _ S2 (by decide) G2.wf).wpr fun S3 G3 => ?_
  rw [join_ok hw.sh hw.len, wpr_ok]
  simp only [c_ne_str, decide_true, Bool.not_true, wpO, Bool.false_eq_true, if_false]
  have T3 := (T1.gr G2).gr G3
  rw [later]
  simp only [wrs_seqL, wS_asg, wS_ife, wS_ret, wS_nil, wS_exp, wE_cS, wE_cI, wE_cN, wE_cB, wE_call, wE_var, wE_glb, wE_bop, wE_idx, wE_lst, wE_tup, wE_blt, wE_met, wT_cmp, wT_and, wT_or, wT_nt, wT_one, wT_tru, wE_ite, wE_and, wE_or, wE_one, wE_nt, wE_cmp, wE_lc, wI_itr, wI_rng, wA_cons, wA_nil, wpO, wpF, List.set, List.getElem?_cons_zero, List.getElem?_cons_succ, Option.join_some, Bool.false_eq_true, if_false, if_true, wE_neg, wE_chn, wE_lset, wE_inW, wE_ixW, wS_fr, wS_rais, wT_chn, t_bl, later_nil, ofS_inj, decide_false, decide_true, Bool.or_false, Bool.false_or, Bool.or_true, Bool.true_or, Bool.not_false, Bool.not_true, Bool.and_true, Bool.true_and, reduceCtorEq, String.reduceEq, String.reduceNe, c_eq_str, c_ne_str, inT2, inT3, ninT3, ML.ix_tup, at2_0, at2_1, at2_m1, at2_m2, at3_0, at3_1, at3_2, at3_m1, at3_m2, at4_0, at4_1, at4_2, at4_3, at4_m1, at4_m2, Int.reduceNeg, nl0, nl1, nl2, nl3, nl4, true_and, list_tup, b_len_tup, inT4, ninT4, ninT5, t_tup, at0, at1_0, List.isEmpty_nil, List.isEmpty_cons]
  refine (drL (by decide) T3 (by omega) (by decide)).use fun z S4 ⟨r, e, r0, r1⟩ T4 K4 => ?_
  subst e
  have fin : ∀ x n, n ≤ 10 → MV n x false → Later (sem T 199) (gvs T) (.seq (.ret (.cmp .Eq (.call 38 (.cons (.var 3) (.nil))) (.tup (.cons (.cS ("refused" : Str)) (.cons (.cS ("tree" : Str)) (.nil)))))) (.nil)) (fun _ => Yes .non) Yes (fun _ _ _ => False) [some (script ns), some (.loc t), some d, some x] S4 := by
    intro x n hn hx
    rw [later]
    simp only [wrs_seqL, wS_asg, wS_ife, wS_ret, wS_nil, wS_exp, wE_cS, wE_cI, wE_cN, wE_cB, wE_call, wE_var, wE_glb, wE_bop, wE_idx, wE_lst, wE_tup, wE_blt, wE_met, wT_cmp, wT_and, wT_or, wT_nt, wT_one, wT_tru, wE_ite, wE_and, wE_or, wE_one, wE_nt, wE_cmp, wE_lc, wI_itr, wI_rng, wA_cons, wA_nil, wpO, wpF, List.set, List.getElem?_cons_zero, List.getElem?_cons_succ, Option.join_some, Bool.false_eq_true, if_false, if_true, wE_neg, wE_chn, wE_lset, wE_inW, wE_ixW, wS_fr, wS_rais, wT_chn, t_bl, later_nil, ofS_inj, decide_false, decide_true, Bool.or_false, Bool.false_or, Bool.or_true, Bool.true_or, Bool.not_false, Bool.not_true, Bool.and_true, Bool.true_and, reduceCtorEq, String.reduceEq, String.reduceNe, c_eq_str, c_ne_str, inT2, inT3, ninT3, ML.ix_tup, at2_0, at2_1, at2_m1, at2_m2, at3_0, at3_1, at3_2, at3_m1, at3_m2, at4_0, at4_1, at4_2, at4_3, at4_m1, at4_m2, Int.reduceNeg, nl0, nl1, nl2, nl3, nl4, true_and, list_tup, b_len_tup, inT4, ninT4, ninT5, t_tup, at0, at1_0, List.isEmpty_nil, List.isEmpty_cons]
    refine (toldBad (by omega) T4.wf hx).wpr fun S5 G5 => ?_
    rw [eq_ref]
    rfl
  have : r = 0 ∨ r = 1 ∨ r = 2 := by omega
  rcases this with rfl | rfl | rfl
  · exact fin _ 1 (by decide) bad1
  · exact fin _ 1 (by decide) bad2
  · exact fin _ 1 (by decide) .one
end K10

namespace K10
open PySem L2 ML
theorem all_mk {wd : World} {K : PySem.W.Frag} {h : Heap} {mg : Str → Option Value} {fa f0 f1 f2 f3 f4 f5 f6 f7 f8 f9 f10 f11 f12 f13 f14 f15 f16 f17 f18 f19 f20 f21 f22 f23 f24 f25 f26 f27 f28 f29 f30 f31 f32 f33 f34 f35 f36 f37 f38 f39 : Addr} (X : K.In h) (G : h.Ns mainGlobals mg) (hfa : mg "law" = some (.ref fa))
    {od0 an0 od1 an1 od2 an2 od3 an3 od4 an4 od5 an5 od6 an6 od7 an7 od8 an8 od9 an9 od10 an10 od11 an11 od12 an12 od13 an13 od14 an14 od15 an15 od16 an16 od17 an17 od18 an18 od19 an19 od20 an20 od21 an21 od22 an22 od23 an23 od24 an24 od25 an25 od26 an26 od27 an27 od28 an28 od29 an29 od30 an30 od31 an31 od32 an32 od33 an33 od34 an34 od35 an35 od36 an36 od37 an37 od38 an38 od39 an39 : Option Addr} {sl0 sl1 sl2 sl3 sl4 sl5 sl6 sl7 sl8 sl9 sl10 sl11 sl12 sl13 sl14 sl15 sl16 sl17 sl18 sl19 sl20 sl21 sl22 sl23 sl24 sl25 sl26 sl27 sl28 sl29 sl30 sl31 sl32 sl33 sl34 sl35 sl36 sl37 sl38 sl39 : Array (Option Value)} {oc0 kV0 dc0 pm0 cd0 ct0 oc1 kV1 dc1 pm1 cd1 ct1 oc2 kV2 dc2 pm2 cd2 ct2 oc3 kV3 dc3 pm3 cd3 ct3 oc4 kV4 dc4 pm4 cd4 ct4 oc5 kV5 dc5 pm5 cd5 ct5 oc6 kV6 dc6 pm6 cd6 ct6 oc7 kV7 dc7 pm7 cd7 ct7 oc8 kV8 dc8 pm8 cd8 ct8 oc9 kV9 dc9 pm9 cd9 ct9 oc10 kV10 dc10 pm10 cd10 ct10 oc11 kV11 dc11 pm11 cd11 ct11 oc12 kV12 dc12 pm12 cd12 ct12 oc13 kV13 dc13 pm13 cd13 ct13 oc14 kV14 dc14 pm14 cd14 ct14 oc15 kV15 dc15 pm15 cd15 ct15 oc16 kV16 dc16 pm16 cd16 ct16 oc17 kV17 dc17 pm17 cd17 ct17 oc18 kV18 dc18 pm18 cd18 ct18 oc19 kV19 dc19 pm19 cd19 ct19 oc20 kV20 dc20 pm20 cd20 ct20 oc21 kV21 dc21 pm21 cd21 ct21 oc22 kV22 dc22 pm22 cd22 ct22 oc23 kV23 dc23 pm23 cd23 ct23 oc24 kV24 dc24 pm24 cd24 ct24 oc25 kV25 dc25 pm25 cd25 ct25 oc26 kV26 dc26 pm26 cd26 ct26 oc27 kV27 dc27 pm27 cd27 ct27 oc28 kV28 dc28 pm28 cd28 ct28 oc29 kV29 dc29 pm29 cd29 ct29 oc30 kV30 dc30 pm30 cd30 ct30 oc31 kV31 dc31 pm31 cd31 ct31 oc32 kV32 dc32 pm32 cd32 ct32 oc33 kV33 dc33 pm33 cd33 ct33 oc34 kV34 dc34 pm34 cd34 ct34 oc35 kV35 dc35 pm35 cd35 ct35 oc36 kV36 dc36 pm36 cd36 ct36 oc37 kV37 dc37 pm37 cd37 ct37 oc38 kV38 dc38 pm38 cd38 ct38 oc39 kV39 dc39 pm39 cd39 ct39 : Value}
    (a0 : PySem.W.nsIn K mainGlobals ("is_worded" : Str) = some (some (.ref f0))) (l0 : K.lookup f0 = some ⟨oc0, od0, .func (PySem.W.fnOf ("is_worded" : Str) ("is_worded" : Str) (defArgs s_is_worded) (defBody s_is_worded) (defScope s_is_worded) .none kV0 dc0 pm0 an0 cd0 ct0), sl0⟩) (c0 : PySem.W.codeIn K cd0 ("is_worded" : Str) = true) (k0 : PySem.W.keepIn K (.ref f0) = true)
    (a1 : PySem.W.nsIn K mainGlobals ("is_name" : Str) = some (some (.ref f1))) (l1 : K.lookup f1 = some ⟨oc1, od1, .func (PySem.W.fnOf ("is_name" : Str) ("is_name" : Str) (defArgs s_is_name) (defBody s_is_name) (defScope s_is_name) .none kV1 dc1 pm1 an1 cd1 ct1), sl1⟩) (c1 : PySem.W.codeIn K cd1 ("is_name" : Str) = true) (k1 : PySem.W.keepIn K (.ref f1) = true)
    (a2 : PySem.W.nsIn K mainGlobals ("is_class_name" : Str) = some (some (.ref f2))) (l2 : K.lookup f2 = some ⟨oc2, od2, .func (PySem.W.fnOf ("is_class_name" : Str) ("is_class_name" : Str) (defArgs s_is_class_name) (defBody s_is_class_name) (defScope s_is_class_name) .none kV2 dc2 pm2 an2 cd2 ct2), sl2⟩) (c2 : PySem.W.codeIn K cd2 ("is_class_name" : Str) = true) (k2 : PySem.W.keepIn K (.ref f2) = true)
    (a3 : PySem.W.nsIn K mainGlobals ("words_of" : Str) = some (some (.ref f3))) (l3 : K.lookup f3 = some ⟨oc3, od3, .func (PySem.W.fnOf ("words_of" : Str) ("words_of" : Str) (defArgs s_words_of) (defBody s_words_of) (defScope s_words_of) .none kV3 dc3 pm3 an3 cd3 ct3), sl3⟩) (c3 : PySem.W.codeIn K cd3 ("words_of" : Str) = true) (k3 : PySem.W.keepIn K (.ref f3) = true)
    (a4 : PySem.W.nsIn K mainGlobals ("arity_of" : Str) = some (some (.ref f4))) (l4 : K.lookup f4 = some ⟨oc4, od4, .func (PySem.W.fnOf ("arity_of" : Str) ("arity_of" : Str) (defArgs s_arity_of) (defBody s_arity_of) (defScope s_arity_of) .none kV4 dc4 pm4 an4 cd4 ct4), sl4⟩) (c4 : PySem.W.codeIn K cd4 ("arity_of" : Str) = true) (k4 : PySem.W.keepIn K (.ref f4) = true)
    (a5 : PySem.W.nsIn K mainGlobals ("must" : Str) = some (some (.ref f5))) (l5 : K.lookup f5 = some ⟨oc5, od5, .func (PySem.W.fnOf ("must" : Str) ("must" : Str) (defArgs s_must) (defBody s_must) (defScope s_must) .none kV5 dc5 pm5 an5 cd5 ct5), sl5⟩) (c5 : PySem.W.codeIn K cd5 ("must" : Str) = true) (k5 : PySem.W.keepIn K (.ref f5) = true)
    (a6 : PySem.W.nsIn K mainGlobals ("inner_trees" : Str) = some (some (.ref f6))) (l6 : K.lookup f6 = some ⟨oc6, od6, .func (PySem.W.fnOf ("inner_trees" : Str) ("inner_trees" : Str) (defArgs s_inner_trees) (defBody s_inner_trees) (defScope s_inner_trees) .none kV6 dc6 pm6 an6 cd6 ct6), sl6⟩) (c6 : PySem.W.codeIn K cd6 ("inner_trees" : Str) = true) (k6 : PySem.W.keepIn K (.ref f6) = true)
    (a7 : PySem.W.nsIn K mainGlobals ("look_names" : Str) = some (some (.ref f7))) (l7 : K.lookup f7 = some ⟨oc7, od7, .func (PySem.W.fnOf ("look_names" : Str) ("look_names" : Str) (defArgs s_look_names) (defBody s_look_names) (defScope s_look_names) .none kV7 dc7 pm7 an7 cd7 ct7), sl7⟩) (c7 : PySem.W.codeIn K cd7 ("look_names" : Str) = true) (k7 : PySem.W.keepIn K (.ref f7) = true)
    (a8 : PySem.W.nsIn K mainGlobals ("look_body" : Str) = some (some (.ref f8))) (l8 : K.lookup f8 = some ⟨oc8, od8, .func (PySem.W.fnOf ("look_body" : Str) ("look_body" : Str) (defArgs s_look_body) (defBody s_look_body) (defScope s_look_body) .none kV8 dc8 pm8 an8 cd8 ct8), sl8⟩) (c8 : PySem.W.codeIn K cd8 ("look_body" : Str) = true) (k8 : PySem.W.keepIn K (.ref f8) = true)
    (a9 : PySem.W.nsIn K mainGlobals ("look_tree" : Str) = some (some (.ref f9))) (l9 : K.lookup f9 = some ⟨oc9, od9, .func (PySem.W.fnOf ("look_tree" : Str) ("look_tree" : Str) (defArgs s_look_tree) (defBody s_look_tree) (defScope s_look_tree) .none kV9 dc9 pm9 an9 cd9 ct9), sl9⟩) (c9 : PySem.W.codeIn K cd9 ("look_tree" : Str) = true) (k9 : PySem.W.keepIn K (.ref f9) = true)
    (a10 : PySem.W.nsIn K mainGlobals ("look_method" : Str) = some (some (.ref f10))) (l10 : K.lookup f10 = some ⟨oc10, od10, .func (PySem.W.fnOf ("look_method" : Str) ("look_method" : Str) (defArgs s_look_method) (defBody s_look_method) (defScope s_look_method) .none kV10 dc10 pm10 an10 cd10 ct10), sl10⟩) (c10 : PySem.W.codeIn K cd10 ("look_method" : Str) = true) (k10 : PySem.W.keepIn K (.ref f10) = true)
    (a11 : PySem.W.nsIn K mainGlobals ("rank_of" : Str) = some (some (.ref f11))) (l11 : K.lookup f11 = some ⟨oc11, od11, .func (PySem.W.fnOf ("rank_of" : Str) ("rank_of" : Str) (defArgs s_rank_of) (defBody s_rank_of) (defScope s_rank_of) .none kV11 dc11 pm11 an11 cd11 ct11), sl11⟩) (c11 : PySem.W.codeIn K cd11 ("rank_of" : Str) = true) (k11 : PySem.W.keepIn K (.ref f11) = true)
    (a12 : PySem.W.nsIn K mainGlobals ("tree_rank" : Str) = some (some (.ref f12))) (l12 : K.lookup f12 = some ⟨oc12, od12, .func (PySem.W.fnOf ("tree_rank" : Str) ("tree_rank" : Str) (defArgs s_tree_rank) (defBody s_tree_rank) (defScope s_tree_rank) .none kV12 dc12 pm12 an12 cd12 ct12), sl12⟩) (c12 : PySem.W.codeIn K cd12 ("tree_rank" : Str) = true) (k12 : PySem.W.keepIn K (.ref f12) = true)
    (a13 : PySem.W.nsIn K mainGlobals ("laid_words" : Str) = some (some (.ref f13))) (l13 : K.lookup f13 = some ⟨oc13, od13, .func (PySem.W.fnOf ("laid_words" : Str) ("laid_words" : Str) (defArgs s_laid_words) (defBody s_laid_words) (defScope s_laid_words) .none kV13 dc13 pm13 an13 cd13 ct13), sl13⟩) (c13 : PySem.W.codeIn K cd13 ("laid_words" : Str) = true) (k13 : PySem.W.keepIn K (.ref f13) = true)
    (a14 : PySem.W.nsIn K mainGlobals ("bracketed" : Str) = some (some (.ref f14))) (l14 : K.lookup f14 = some ⟨oc14, od14, .func (PySem.W.fnOf ("bracketed" : Str) ("bracketed" : Str) (defArgs s_bracketed) (defBody s_bracketed) (defScope s_bracketed) .none kV14 dc14 pm14 an14 cd14 ct14), sl14⟩) (c14 : PySem.W.codeIn K cd14 ("bracketed" : Str) = true) (k14 : PySem.W.keepIn K (.ref f14) = true)
    (a15 : PySem.W.nsIn K mainGlobals ("body_words" : Str) = some (some (.ref f15))) (l15 : K.lookup f15 = some ⟨oc15, od15, .func (PySem.W.fnOf ("body_words" : Str) ("body_words" : Str) (defArgs s_body_words) (defBody s_body_words) (defScope s_body_words) .none kV15 dc15 pm15 an15 cd15 ct15), sl15⟩) (c15 : PySem.W.codeIn K cd15 ("body_words" : Str) = true) (k15 : PySem.W.keepIn K (.ref f15) = true)
    (a16 : PySem.W.nsIn K mainGlobals ("tree_words" : Str) = some (some (.ref f16))) (l16 : K.lookup f16 = some ⟨oc16, od16, .func (PySem.W.fnOf ("tree_words" : Str) ("tree_words" : Str) (defArgs s_tree_words) (defBody s_tree_words) (defScope s_tree_words) .none kV16 dc16 pm16 an16 cd16 ct16), sl16⟩) (c16 : PySem.W.codeIn K cd16 ("tree_words" : Str) = true) (k16 : PySem.W.keepIn K (.ref f16) = true)
    (a17 : PySem.W.nsIn K mainGlobals ("written_method" : Str) = some (some (.ref f17))) (l17 : K.lookup f17 = some ⟨oc17, od17, .func (PySem.W.fnOf ("written_method" : Str) ("written_method" : Str) (defArgs s_written_method) (defBody s_written_method) (defScope s_written_method) .none kV17 dc17 pm17 an17 cd17 ct17), sl17⟩) (c17 : PySem.W.codeIn K cd17 ("written_method" : Str) = true) (k17 : PySem.W.keepIn K (.ref f17) = true)
    (a18 : PySem.W.nsIn K mainGlobals ("_law_cell" : Str) = some (some (.ref f18))) (l18 : K.lookup f18 = some ⟨oc18, od18, .func (PySem.W.fnOf ("_law_cell" : Str) ("_law_cell" : Str) (defArgs s_law_cell) (defBody s_law_cell) (defScope s_law_cell) .none kV18 dc18 pm18 an18 cd18 ct18), sl18⟩) (c18 : PySem.W.codeIn K cd18 ("_law_cell" : Str) = true) (k18 : PySem.W.keepIn K (.ref f18) = true)
    (a19 : PySem.W.nsIn K mainGlobals ("_law_mix" : Str) = some (some (.ref f19))) (l19 : K.lookup f19 = some ⟨oc19, od19, .func (PySem.W.fnOf ("_law_mix" : Str) ("_law_mix" : Str) (defArgs s_law_mix) (defBody s_law_mix) (defScope s_law_mix) .none kV19 dc19 pm19 an19 cd19 ct19), sl19⟩) (c19 : PySem.W.codeIn K cd19 ("_law_mix" : Str) = true) (k19 : PySem.W.keepIn K (.ref f19) = true)
    (a20 : PySem.W.nsIn K mainGlobals ("_law_draw" : Str) = some (some (.ref f20))) (l20 : K.lookup f20 = some ⟨oc20, od20, .func (PySem.W.fnOf ("_law_draw" : Str) ("_law_draw" : Str) (defArgs s_law_draw) (defBody s_law_draw) (defScope s_law_draw) .none kV20 dc20 pm20 an20 cd20 ct20), sl20⟩) (c20 : PySem.W.codeIn K cd20 ("_law_draw" : Str) = true) (k20 : PySem.W.keepIn K (.ref f20) = true)
    (a21 : PySem.W.nsIn K mainGlobals ("_law_pick" : Str) = some (some (.ref f21))) (l21 : K.lookup f21 = some ⟨oc21, od21, .func (PySem.W.fnOf ("_law_pick" : Str) ("_law_pick" : Str) (defArgs s_law_pick) (defBody s_law_pick) (defScope s_law_pick) .none kV21 dc21 pm21 an21 cd21 ct21), sl21⟩) (c21 : PySem.W.codeIn K cd21 ("_law_pick" : Str) = true) (k21 : PySem.W.keepIn K (.ref f21) = true)
    (a22 : PySem.W.nsIn K mainGlobals ("_law_refusal" : Str) = some (some (.ref f22))) (l22 : K.lookup f22 = some ⟨oc22, od22, .func (PySem.W.fnOf ("_law_refusal" : Str) ("_law_refusal" : Str) (defArgs s_law_refusal) (defBody s_law_refusal) (defScope s_law_refusal) .none kV22 dc22 pm22 an22 cd22 ct22), sl22⟩) (c22 : PySem.W.codeIn K cd22 ("_law_refusal" : Str) = true) (k22 : PySem.W.keepIn K (.ref f22) = true)
    (a23 : PySem.W.nsIn K mainGlobals ("_law_word" : Str) = some (some (.ref f23))) (l23 : K.lookup f23 = some ⟨oc23, od23, .func (PySem.W.fnOf ("_law_word" : Str) ("_law_word" : Str) (defArgs s_law_word) (defBody s_law_word) (defScope s_law_word) .none kV23 dc23 pm23 an23 cd23 ct23), sl23⟩) (c23 : PySem.W.codeIn K cd23 ("_law_word" : Str) = true) (k23 : PySem.W.keepIn K (.ref f23) = true)
    (a24 : PySem.W.nsIn K mainGlobals ("_law_name" : Str) = some (some (.ref f24))) (l24 : K.lookup f24 = some ⟨oc24, od24, .func (PySem.W.fnOf ("_law_name" : Str) ("_law_name" : Str) (defArgs s_law_name) (defBody s_law_name) (defScope s_law_name) .none kV24 dc24 pm24 an24 cd24 ct24), sl24⟩) (c24 : PySem.W.codeIn K cd24 ("_law_name" : Str) = true) (k24 : PySem.W.keepIn K (.ref f24) = true)
    (a25 : PySem.W.nsIn K mainGlobals ("_law_names" : Str) = some (some (.ref f25))) (l25 : K.lookup f25 = some ⟨oc25, od25, .func (PySem.W.fnOf ("_law_names" : Str) ("_law_names" : Str) (defArgs s_law_names) (defBody s_law_names) (defScope s_law_names) .none kV25 dc25 pm25 an25 cd25 ct25), sl25⟩) (c25 : PySem.W.codeIn K cd25 ("_law_names" : Str) = true) (k25 : PySem.W.keepIn K (.ref f25) = true)
    (a26 : PySem.W.nsIn K mainGlobals ("_law_message" : Str) = some (some (.ref f26))) (l26 : K.lookup f26 = some ⟨oc26, od26, .func (PySem.W.fnOf ("_law_message" : Str) ("_law_message" : Str) (defArgs s_law_message) (defBody s_law_message) (defScope s_law_message) .none kV26 dc26 pm26 an26 cd26 ct26), sl26⟩) (c26 : PySem.W.codeIn K cd26 ("_law_message" : Str) = true) (k26 : PySem.W.keepIn K (.ref f26) = true)
    (a27 : PySem.W.nsIn K mainGlobals ("_law_leaf" : Str) = some (some (.ref f27))) (l27 : K.lookup f27 = some ⟨oc27, od27, .func (PySem.W.fnOf ("_law_leaf" : Str) ("_law_leaf" : Str) (defArgs s_law_leaf) (defBody s_law_leaf) (defScope s_law_leaf) .none kV27 dc27 pm27 an27 cd27 ct27), sl27⟩) (c27 : PySem.W.codeIn K cd27 ("_law_leaf" : Str) = true) (k27 : PySem.W.keepIn K (.ref f27) = true)
    (a28 : PySem.W.nsIn K mainGlobals ("_law_tree" : Str) = some (some (.ref f28))) (l28 : K.lookup f28 = some ⟨oc28, od28, .func (PySem.W.fnOf ("_law_tree" : Str) ("_law_tree" : Str) (defArgs s_law_tree) (defBody s_law_tree) (defScope s_law_tree) .none kV28 dc28 pm28 an28 cd28 ct28), sl28⟩) (c28 : PySem.W.codeIn K cd28 ("_law_tree" : Str) = true) (k28 : PySem.W.keepIn K (.ref f28) = true)
    (a29 : PySem.W.nsIn K mainGlobals ("_law_placed" : Str) = some (some (.ref f29))) (l29 : K.lookup f29 = some ⟨oc29, od29, .func (PySem.W.fnOf ("_law_placed" : Str) ("_law_placed" : Str) (defArgs s_law_placed) (defBody s_law_placed) (defScope s_law_placed) .none kV29 dc29 pm29 an29 cd29 ct29), sl29⟩) (c29 : PySem.W.codeIn K cd29 ("_law_placed" : Str) = true) (k29 : PySem.W.keepIn K (.ref f29) = true)
    (a30 : PySem.W.nsIn K mainGlobals ("_law_body" : Str) = some (some (.ref f30))) (l30 : K.lookup f30 = some ⟨oc30, od30, .func (PySem.W.fnOf ("_law_body" : Str) ("_law_body" : Str) (defArgs s_law_body) (defBody s_law_body) (defScope s_law_body) .none kV30 dc30 pm30 an30 cd30 ct30), sl30⟩) (c30 : PySem.W.codeIn K cd30 ("_law_body" : Str) = true) (k30 : PySem.W.keepIn K (.ref f30) = true)
    (a31 : PySem.W.nsIn K mainGlobals ("_law_method" : Str) = some (some (.ref f31))) (l31 : K.lookup f31 = some ⟨oc31, od31, .func (PySem.W.fnOf ("_law_method" : Str) ("_law_method" : Str) (defArgs s_law_method) (defBody s_law_method) (defScope s_law_method) .none kV31 dc31 pm31 an31 cd31 ct31), sl31⟩) (c31 : PySem.W.codeIn K cd31 ("_law_method" : Str) = true) (k31 : PySem.W.keepIn K (.ref f31) = true)
    (a32 : PySem.W.nsIn K mainGlobals ("_law_rank" : Str) = some (some (.ref f32))) (l32 : K.lookup f32 = some ⟨oc32, od32, .func (PySem.W.fnOf ("_law_rank" : Str) ("_law_rank" : Str) (defArgs s_law_rank) (defBody s_law_rank) (defScope s_law_rank) .none kV32 dc32 pm32 an32 cd32 ct32), sl32⟩) (c32 : PySem.W.codeIn K cd32 ("_law_rank" : Str) = true) (k32 : PySem.W.keepIn K (.ref f32) = true)
    (a33 : PySem.W.nsIn K mainGlobals ("_law_laid" : Str) = some (some (.ref f33))) (l33 : K.lookup f33 = some ⟨oc33, od33, .func (PySem.W.fnOf ("_law_laid" : Str) ("_law_laid" : Str) (defArgs s_law_laid) (defBody s_law_laid) (defScope s_law_laid) .none kV33 dc33 pm33 an33 cd33 ct33), sl33⟩) (c33 : PySem.W.codeIn K cd33 ("_law_laid" : Str) = true) (k33 : PySem.W.keepIn K (.ref f33) = true)
    (a34 : PySem.W.nsIn K mainGlobals ("_law_in" : Str) = some (some (.ref f34))) (l34 : K.lookup f34 = some ⟨oc34, od34, .func (PySem.W.fnOf ("_law_in" : Str) ("_law_in" : Str) (defArgs s_law_in) (defBody s_law_in) (defScope s_law_in) .none kV34 dc34 pm34 an34 cd34 ct34), sl34⟩) (c34 : PySem.W.codeIn K cd34 ("_law_in" : Str) = true) (k34 : PySem.W.keepIn K (.ref f34) = true)
    (a35 : PySem.W.nsIn K mainGlobals ("_law_row" : Str) = some (some (.ref f35))) (l35 : K.lookup f35 = some ⟨oc35, od35, .func (PySem.W.fnOf ("_law_row" : Str) ("_law_row" : Str) (defArgs s_law_row) (defBody s_law_row) (defScope s_law_row) .none kV35 dc35 pm35 an35 cd35 ct35), sl35⟩) (c35 : PySem.W.codeIn K cd35 ("_law_row" : Str) = true) (k35 : PySem.W.keepIn K (.ref f35) = true)
    (a36 : PySem.W.nsIn K mainGlobals ("_law_words" : Str) = some (some (.ref f36))) (l36 : K.lookup f36 = some ⟨oc36, od36, .func (PySem.W.fnOf ("_law_words" : Str) ("_law_words" : Str) (defArgs s_law_words) (defBody s_law_words) (defScope s_law_words) .none kV36 dc36 pm36 an36 cd36 ct36), sl36⟩) (c36 : PySem.W.codeIn K cd36 ("_law_words" : Str) = true) (k36 : PySem.W.keepIn K (.ref f36) = true)
    (a37 : PySem.W.nsIn K mainGlobals ("_law_text" : Str) = some (some (.ref f37))) (l37 : K.lookup f37 = some ⟨oc37, od37, .func (PySem.W.fnOf ("_law_text" : Str) ("_law_text" : Str) (defArgs s_law_text) (defBody s_law_text) (defScope s_law_text) .none kV37 dc37 pm37 an37 cd37 ct37), sl37⟩) (c37 : PySem.W.codeIn K cd37 ("_law_text" : Str) = true) (k37 : PySem.W.keepIn K (.ref f37) = true)
    (a38 : PySem.W.nsIn K mainGlobals ("_law_told" : Str) = some (some (.ref f38))) (l38 : K.lookup f38 = some ⟨oc38, od38, .func (PySem.W.fnOf ("_law_told" : Str) ("_law_told" : Str) (defArgs s_law_told) (defBody s_law_told) (defScope s_law_told) .none kV38 dc38 pm38 an38 cd38 ct38), sl38⟩) (c38 : PySem.W.codeIn K cd38 ("_law_told" : Str) = true) (k38 : PySem.W.keepIn K (.ref f38) = true)
    (a39 : PySem.W.nsIn K mainGlobals ("law" : Str) = some (some (.ref f39))) (l39 : K.lookup f39 = some ⟨oc39, od39, .func (PySem.W.fnOf ("law" : Str) ("law" : Str) (defArgs s_law) (defBody s_law) (defScope s_law) .none kV39 dc39 pm39 an39 cd39 ct39), sl39⟩) (c39 : PySem.W.codeIn K cd39 ("law" : Str) = true) (k39 : PySem.W.keepIn K (.ref f39) = true)
    (z0 : PySem.W.nsIn K mainGlobals ("ValueError" : Str) = some none)
    (z1 : PySem.W.nsIn K mainGlobals ("all" : Str) = some none)
    (z2 : PySem.W.nsIn K mainGlobals ("isinstance" : Str) = some none)
    (z3 : PySem.W.nsIn K mainGlobals ("len" : Str) = some none)
    (z4 : PySem.W.nsIn K mainGlobals ("list" : Str) = some none)
    (z5 : PySem.W.nsIn K mainGlobals ("min" : Str) = some none)
    (z6 : PySem.W.nsIn K mainGlobals ("range" : Str) = some none)
    (z7 : PySem.W.nsIn K mainGlobals ("set" : Str) = some none)
    (z8 : PySem.W.nsIn K mainGlobals ("str" : Str) = some none)
    (z9 : PySem.W.nsIn K mainGlobals ("tuple" : Str) = some none)
    {tk0 : Tok} (g0 : PySem.W.nsIn K mainGlobals ("SMALL" : Str) = some (some (.str ("abcdefghijklmnopqrstuvwxyz" : Str) tk0)))
    {tk1 : Tok} (g1 : PySem.W.nsIn K mainGlobals ("GREAT" : Str) = some (some (.str ("ABCDEFGHIJKLMNOPQRSTUVWXYZ" : Str) tk1)))
    {tk2 : Tok} (g2 : PySem.W.nsIn K mainGlobals ("FIGURES" : Str) = some (some (.str ("0123456789" : Str) tk2)))
    {tk3 : Tok} (g3 : PySem.W.nsIn K mainGlobals ("SIGNS" : Str) = some (some (.str ("+-*<=" : Str) tk3)))
    {ga4 : Addr} {gn4 : Nat} {go4 : Array (Option Value)} {tk4_0 tk4_1 tk4_2 tk4_3 tk4_4 : Tok} (g4 : PySem.W.nsIn K mainGlobals ("KEPT" : Str) = some (some (.ref ga4))) (gl4 : K.lookup ga4 = some ⟨.type "list", none, .seq #[.str ("self" : Str) tk4_0, .str ("super" : Str) tk4_1, .str ("nil" : Str) tk4_2, .str ("yes" : Str) tk4_3, .str ("no" : Str) tk4_4] gn4, go4⟩)
    {tk5 : Tok} (g5 : PySem.W.nsIn K mainGlobals ("MOST_SIGNS" : Str) = some (some (.int 12 tk5)))
    {tk6 : Tok} (g6 : PySem.W.nsIn K mainGlobals ("MOST_WORDS" : Str) = some (some (.int 3 tk6)))
    {ga7 : Addr} {gn7 : Nat} {go7 : Array (Option Value)} {tk7_0 tk7_1 tk7_2 tk7_3 : Tok} (g7 : PySem.W.nsIn K mainGlobals ("PLAIN" : Str) = some (some (.ref ga7))) (gl7 : K.lookup ga7 = some ⟨.type "list", none, .seq #[.str ("self" : Str) tk7_0, .str ("nil" : Str) tk7_1, .str ("yes" : Str) tk7_2, .str ("no" : Str) tk7_3] gn7, go7⟩)
    {tk8 : Tok} (g8 : PySem.W.nsIn K mainGlobals ("MOST_NUMBER" : Str) = some (some (.int 999999 tk8)))
    {tk9 : Tok} (g9 : PySem.W.nsIn K mainGlobals ("MOST_DEEP" : Str) = some (some (.int 12 tk9)))
    {tk10 : Tok} (g10 : PySem.W.nsIn K mainGlobals ("MOST_PARAMS" : Str) = some (some (.int 2 tk10)))
    {ec0 : Addr} (x0 : PySem.W.nsIn K mainGlobals ("BadTree" : Str) = some (some (.ref ec0))) (xe0 : PySem.W.excIn K ec0 [.type "ValueError", .type "Exception", .type "BaseException", .type "object"] "ValueError.__new__" = true) (xk0 : PySem.W.keepIn K (.ref ec0) = true) (xs0 : PySem.W.subIn K (.ref ec0) (.type "BaseException") = some true) (xt0 : PySem.W.typeIn K (.ref ec0) = some (.type "type"))
    {da0 : Addr} {dt0_0 dt0_1 dt0_2 dt0_3 dt0_4 dt0_5 dt0_6 dt0_7 : Tok} (d0 : PySem.W.nsIn K mainGlobals ("LENGTHS" : Str) = some (some (.ref da0))) {dn0 : Nat} {du0_0 dw0_0 du0_1 dw0_1 du0_2 dw0_2 du0_3 dw0_3 du0_4 dw0_4 du0_5 dw0_5 du0_6 dw0_6 du0_7 dw0_7 : Tok} (dl0 : K.lookup da0 = some ⟨.type "dict", none, .dict #[⟨PyData.keyHash wd.params ("number" : Str), .str ("number" : Str) du0_0, .int 2 dw0_0⟩, ⟨PyData.keyHash wd.params ("word" : Str), .str ("word" : Str) du0_1, .int 2 dw0_1⟩, ⟨PyData.keyHash wd.params ("name" : Str), .str ("name" : Str) du0_2, .int 2 dw0_2⟩, ⟨PyData.keyHash wd.params ("set" : Str), .str ("set" : Str) du0_3, .int 3 dw0_3⟩, ⟨PyData.keyHash wd.params ("send" : Str), .str ("send" : Str) du0_4, .int 4 dw0_4⟩, ⟨PyData.keyHash wd.params ("super" : Str), .str ("super" : Str) du0_5, .int 3 dw0_5⟩, ⟨PyData.keyHash wd.params ("block" : Str), .str ("block" : Str) du0_6, .int 4 dw0_6⟩, ⟨PyData.keyHash wd.params ("back" : Str), .str ("back" : Str) du0_7, .int 2 dw0_7⟩] dn0, #[]⟩) (do0 : (da0 == sysModules) = false) (dv0_0 : PySem.W.nsIn K da0 ("number" : Str) = some (some (.int 2 dt0_0))) (dv0_1 : PySem.W.nsIn K da0 ("word" : Str) = some (some (.int 2 dt0_1))) (dv0_2 : PySem.W.nsIn K da0 ("name" : Str) = some (some (.int 2 dt0_2))) (dv0_3 : PySem.W.nsIn K da0 ("set" : Str) = some (some (.int 3 dt0_3))) (dv0_4 : PySem.W.nsIn K da0 ("send" : Str) = some (some (.int 4 dt0_4))) (dv0_5 : PySem.W.nsIn K da0 ("super" : Str) = some (some (.int 3 dt0_5))) (dv0_6 : PySem.W.nsIn K da0 ("block" : Str) = some (some (.int 4 dt0_6))) (dv0_7 : PySem.W.nsIn K da0 ("back" : Str) = some (some (.int 2 dt0_7)))
    {ca1 : Addr} (cl1 : PySem.W.nsIn K mainGlobals ("BadCodes" : Str) = some (some (.ref ca1)))
    {ca2 : Addr} (cl2 : PySem.W.nsIn K mainGlobals ("BadRun" : Str) = some (some (.ref ca2)))
    {ca3 : Addr} (cl3 : PySem.W.nsIn K mainGlobals ("BadClass" : Str) = some (some (.ref ca3)))
    {ca4 : Addr} (cl4 : PySem.W.nsIn K mainGlobals ("BadName" : Str) = some (some (.ref ca4)))
    {ca5 : Addr} (cl5 : PySem.W.nsIn K mainGlobals ("BadText" : Str) = some (some (.ref ca5)))
    {ca6 : Addr} (cl6 : PySem.W.nsIn K mainGlobals ("BadTree" : Str) = some (some (.ref ca6)))
    {ca7 : Addr} (cl7 : PySem.W.nsIn K mainGlobals ("HouseError" : Str) = some (some (.ref ca7)))
    (ex0_0 : PySem.W.findIn K (.ref ec0) "__getattribute__" = some (some (.builtin "BaseException.__getattribute__")))
    (ex0_1 : PySem.W.findIn K (.ref ec0) "__getattr__" = some none)
    (ex0_2 : PySem.W.subIn K (.ref ec0) (.type "BaseException") = some true)
    (ex0_3 : PySem.W.hasDictIn K ec0 = true)
    (ex0_4 : PySem.W.findIn K (.ref ec0) "__class__" = some (some (.builtin "object.__class__")))
    (ex0_5 : PySem.W.specialIn K (.builtin "object.__class__") "__get__" = some (some (.builtin "getset_descriptor.__get__")))
    (ex0_6 : PySem.W.takesIn K (.builtin "object.__class__") = some true)
    (ex0_7 : PySem.W.mroIn K ec0 (.type "object") = some true)
    (sk0 : PySem.W.kitOne K (.ref ec0) (.type "ValueError") = some true) (sm0 : PySem.W.exmOne K (.ref ec0) (.type "ValueError") = some true)
    (sk1 : PySem.W.kitOne K (.ref ec0) (.ref ca1) = some false) (sm1 : PySem.W.exmOne K (.ref ec0) (.ref ca1) = some false)
    (sk2 : PySem.W.kitOne K (.ref ec0) (.ref ca2) = some false) (sm2 : PySem.W.exmOne K (.ref ec0) (.ref ca2) = some false)
    (sk3 : PySem.W.kitOne K (.ref ec0) (.ref ca3) = some false) (sm3 : PySem.W.exmOne K (.ref ec0) (.ref ca3) = some false)
    (sk4 : PySem.W.kitOne K (.ref ec0) (.ref ca4) = some false) (sm4 : PySem.W.exmOne K (.ref ec0) (.ref ca4) = some false)
    (sk5 : PySem.W.kitOne K (.ref ec0) (.ref ca5) = some false) (sm5 : PySem.W.exmOne K (.ref ec0) (.ref ca5) = some false)
    (sk6 : PySem.W.kitOne K (.ref ec0) (.ref ca6) = some true) (sm6 : PySem.W.exmOne K (.ref ec0) (.ref ca6) = some true)
    (sk7 : PySem.W.kitOne K (.ref ec0) (.ref ca7) = some true) (sm7 : PySem.W.exmOne K (.ref ec0) (.ref ca7) = some true)
    : ∃ (st : Stmt) (fd : FuncData), (∀ (s : Shared) (u : Value), BindsTo s fd ⟨[u], []⟩ [(("script" : Str), u)]) ∧ Prog T (wdOf K) mg wd ∧ DefAt T K mg f_law st fa fd := by
  have e := hfa.symm.trans (PySem.W.mg_of X G a39)
  cases e
  have D0 : DefAt T K mg f_is_worded s_is_worded _ _ := ⟨PySem.W.mg_of X G a0, ⟨_, fun_mk (st := s_is_worded) l0 c0 k0⟩, (fun_mk (st := s_is_worded) l0 c0 k0).binds (ps := f_is_worded.ps) (fun _ _ _ _ _ _ us hl => match us, hl with | [_, _], _ => rfl), sc_is_worded, ck_is_worded⟩
  have D1 : DefAt T K mg f_is_name s_is_name _ _ := ⟨PySem.W.mg_of X G a1, ⟨_, fun_mk (st := s_is_name) l1 c1 k1⟩, (fun_mk (st := s_is_name) l1 c1 k1).binds (ps := f_is_name.ps) (fun _ _ _ _ _ _ us hl => match us, hl with | [_], _ => rfl), sc_is_name, ck_is_name⟩
  have D2 : DefAt T K mg f_is_class_name s_is_class_name _ _ := ⟨PySem.W.mg_of X G a2, ⟨_, fun_mk (st := s_is_class_name) l2 c2 k2⟩, (fun_mk (st := s_is_class_name) l2 c2 k2).binds (ps := f_is_class_name.ps) (fun _ _ _ _ _ _ us hl => match us, hl with | [_], _ => rfl), sc_is_class_name, ck_is_class_name⟩
  have D3 : DefAt T K mg f_words_of s_words_of _ _ := ⟨PySem.W.mg_of X G a3, ⟨_, fun_mk (st := s_words_of) l3 c3 k3⟩, (fun_mk (st := s_words_of) l3 c3 k3).binds (ps := f_words_of.ps) (fun _ _ _ _ _ _ us hl => match us, hl with | [_], _ => rfl), sc_words_of, ck_words_of⟩
  have D4 : DefAt T K mg f_arity_of s_arity_of _ _ := ⟨PySem.W.mg_of X G a4, ⟨_, fun_mk (st := s_arity_of) l4 c4 k4⟩, (fun_mk (st := s_arity_of) l4 c4 k4).binds (ps := f_arity_of.ps) (fun _ _ _ _ _ _ us hl => match us, hl with | [_], _ => rfl), sc_arity_of, ck_arity_of⟩
  have D5 : DefAt T K mg f_must s_must _ _ := ⟨PySem.W.mg_of X G a5, ⟨_, fun_mk (st := s_must) l5 c5 k5⟩, (fun_mk (st := s_must) l5 c5 k5).binds (ps := f_must.ps) (fun _ _ _ _ _ _ us hl => match us, hl with | [_], _ => rfl), sc_must, ck_must⟩
  have D6 : DefAt T K mg f_inner_trees s_inner_trees _ _ := ⟨PySem.W.mg_of X G a6, ⟨_, fun_mk (st := s_inner_trees) l6 c6 k6⟩, (fun_mk (st := s_inner_trees) l6 c6 k6).binds (ps := f_inner_trees.ps) (fun _ _ _ _ _ _ us hl => match us, hl with | [_], _ => rfl), sc_inner_trees, ck_inner_trees⟩
  have D7 : DefAt T K mg f_look_names s_look_names _ _ := ⟨PySem.W.mg_of X G a7, ⟨_, fun_mk (st := s_look_names) l7 c7 k7⟩, (fun_mk (st := s_look_names) l7 c7 k7).binds (ps := f_look_names.ps) (fun _ _ _ _ _ _ us hl => match us, hl with | [_], _ => rfl), sc_look_names, ck_look_names⟩
  have D8 : DefAt T K mg f_look_body s_look_body _ _ := ⟨PySem.W.mg_of X G a8, ⟨_, fun_mk (st := s_look_body) l8 c8 k8⟩, (fun_mk (st := s_look_body) l8 c8 k8).binds (ps := f_look_body.ps) (fun _ _ _ _ _ _ us hl => match us, hl with | [_, _], _ => rfl), sc_look_body, ck_look_body⟩
  have D9 : DefAt T K mg f_look_tree s_look_tree _ _ := ⟨PySem.W.mg_of X G a9, ⟨_, fun_mk (st := s_look_tree) l9 c9 k9⟩, (fun_mk (st := s_look_tree) l9 c9 k9).binds (ps := f_look_tree.ps) (fun _ _ _ _ _ _ us hl => match us, hl with | [_, _, _], _ => rfl), sc_look_tree, ck_look_tree⟩
  have D10 : DefAt T K mg f_look_method s_look_method _ _ := ⟨PySem.W.mg_of X G a10, ⟨_, fun_mk (st := s_look_method) l10 c10 k10⟩, (fun_mk (st := s_look_method) l10 c10 k10).binds (ps := f_look_method.ps) (fun _ _ _ _ _ _ us hl => match us, hl with | [_], _ => rfl), sc_look_method, ck_look_method⟩
  have D11 : DefAt T K mg f_rank_of s_rank_of _ _ := ⟨PySem.W.mg_of X G a11, ⟨_, fun_mk (st := s_rank_of) l11 c11 k11⟩, (fun_mk (st := s_rank_of) l11 c11 k11).binds (ps := f_rank_of.ps) (fun _ _ _ _ _ _ us hl => match us, hl with | [_], _ => rfl), sc_rank_of, ck_rank_of⟩
  have D12 : DefAt T K mg f_tree_rank s_tree_rank _ _ := ⟨PySem.W.mg_of X G a12, ⟨_, fun_mk (st := s_tree_rank) l12 c12 k12⟩, (fun_mk (st := s_tree_rank) l12 c12 k12).binds (ps := f_tree_rank.ps) (fun _ _ _ _ _ _ us hl => match us, hl with | [_], _ => rfl), sc_tree_rank, ck_tree_rank⟩
  have D13 : DefAt T K mg f_laid_words s_laid_words _ _ := ⟨PySem.W.mg_of X G a13, ⟨_, fun_mk (st := s_laid_words) l13 c13 k13⟩, (fun_mk (st := s_laid_words) l13 c13 k13).binds (ps := f_laid_words.ps) (fun _ _ _ _ _ _ us hl => match us, hl with | [_, _], _ => rfl), sc_laid_words, ck_laid_words⟩
  have D14 : DefAt T K mg f_bracketed s_bracketed _ _ := ⟨PySem.W.mg_of X G a14, ⟨_, fun_mk (st := s_bracketed) l14 c14 k14⟩, (fun_mk (st := s_bracketed) l14 c14 k14).binds (ps := f_bracketed.ps) (fun _ _ _ _ _ _ us hl => match us, hl with | [_, _], _ => rfl), sc_bracketed, ck_bracketed⟩
  have D15 : DefAt T K mg f_body_words s_body_words _ _ := ⟨PySem.W.mg_of X G a15, ⟨_, fun_mk (st := s_body_words) l15 c15 k15⟩, (fun_mk (st := s_body_words) l15 c15 k15).binds (ps := f_body_words.ps) (fun _ _ _ _ _ _ us hl => match us, hl with | [_, _], _ => rfl), sc_body_words, ck_body_words⟩
  have D16 : DefAt T K mg f_tree_words s_tree_words _ _ := ⟨PySem.W.mg_of X G a16, ⟨_, fun_mk (st := s_tree_words) l16 c16 k16⟩, (fun_mk (st := s_tree_words) l16 c16 k16).binds (ps := f_tree_words.ps) (fun _ _ _ _ _ _ us hl => match us, hl with | [_], _ => rfl), sc_tree_words, ck_tree_words⟩
  have D17 : DefAt T K mg f_written_method s_written_method _ _ := ⟨PySem.W.mg_of X G a17, ⟨_, fun_mk (st := s_written_method) l17 c17 k17⟩, (fun_mk (st := s_written_method) l17 c17 k17).binds (ps := f_written_method.ps) (fun _ _ _ _ _ _ us hl => match us, hl with | [_], _ => rfl), sc_written_method, ck_written_method⟩
  have D18 : DefAt T K mg f_law_cell s_law_cell _ _ := ⟨PySem.W.mg_of X G a18, ⟨_, fun_mk (st := s_law_cell) l18 c18 k18⟩, (fun_mk (st := s_law_cell) l18 c18 k18).binds (ps := f_law_cell.ps) (fun _ _ _ _ _ _ us hl => match us, hl with | [_, _], _ => rfl), sc_law_cell, ck_law_cell⟩
  have D19 : DefAt T K mg f_law_mix s_law_mix _ _ := ⟨PySem.W.mg_of X G a19, ⟨_, fun_mk (st := s_law_mix) l19 c19 k19⟩, (fun_mk (st := s_law_mix) l19 c19 k19).binds (ps := f_law_mix.ps) (fun _ _ _ _ _ _ us hl => match us, hl with | [_, _], _ => rfl), sc_law_mix, ck_law_mix⟩
  have D20 : DefAt T K mg f_law_draw s_law_draw _ _ := ⟨PySem.W.mg_of X G a20, ⟨_, fun_mk (st := s_law_draw) l20 c20 k20⟩, (fun_mk (st := s_law_draw) l20 c20 k20).binds (ps := f_law_draw.ps) (fun _ _ _ _ _ _ us hl => match us, hl with | [_, _, _], _ => rfl), sc_law_draw, ck_law_draw⟩
  have D21 : DefAt T K mg f_law_pick s_law_pick _ _ := ⟨PySem.W.mg_of X G a21, ⟨_, fun_mk (st := s_law_pick) l21 c21 k21⟩, (fun_mk (st := s_law_pick) l21 c21 k21).binds (ps := f_law_pick.ps) (fun _ _ _ _ _ _ us hl => match us, hl with | [_, _, _], _ => rfl), sc_law_pick, ck_law_pick⟩
  have D22 : DefAt T K mg f_law_refusal s_law_refusal _ _ := ⟨PySem.W.mg_of X G a22, ⟨_, fun_mk (st := s_law_refusal) l22 c22 k22⟩, (fun_mk (st := s_law_refusal) l22 c22 k22).binds (ps := f_law_refusal.ps) (fun _ _ _ _ _ _ us hl => match us, hl with | [_], _ => rfl), sc_law_refusal, ck_law_refusal⟩
  have D23 : DefAt T K mg f_law_word s_law_word _ _ := ⟨PySem.W.mg_of X G a23, ⟨_, fun_mk (st := s_law_word) l23 c23 k23⟩, (fun_mk (st := s_law_word) l23 c23 k23).binds (ps := f_law_word.ps) (fun _ _ _ _ _ _ us hl => match us, hl with | [_, _, _], _ => rfl), sc_law_word, ck_law_word⟩
  have D24 : DefAt T K mg f_law_name s_law_name _ _ := ⟨PySem.W.mg_of X G a24, ⟨_, fun_mk (st := s_law_name) l24 c24 k24⟩, (fun_mk (st := s_law_name) l24 c24 k24).binds (ps := f_law_name.ps) (fun _ _ _ _ _ _ us hl => match us, hl with | [_, _], _ => rfl), sc_law_name, ck_law_name⟩
  have D25 : DefAt T K mg f_law_names s_law_names _ _ := ⟨PySem.W.mg_of X G a25, ⟨_, fun_mk (st := s_law_names) l25 c25 k25⟩, (fun_mk (st := s_law_names) l25 c25 k25).binds (ps := f_law_names.ps) (fun _ _ _ _ _ _ us hl => match us, hl with | [_, _, _, _], _ => rfl), sc_law_names, ck_law_names⟩
  have D26 : DefAt T K mg f_law_message s_law_message _ _ := ⟨PySem.W.mg_of X G a26, ⟨_, fun_mk (st := s_law_message) l26 c26 k26⟩, (fun_mk (st := s_law_message) l26 c26 k26).binds (ps := f_law_message.ps) (fun _ _ _ _ _ _ us hl => match us, hl with | [_, _, _], _ => rfl), sc_law_message, ck_law_message⟩
  have D27 : DefAt T K mg f_law_leaf s_law_leaf _ _ := ⟨PySem.W.mg_of X G a27, ⟨_, fun_mk (st := s_law_leaf) l27 c27 k27⟩, (fun_mk (st := s_law_leaf) l27 c27 k27).binds (ps := f_law_leaf.ps) (fun _ _ _ _ _ _ us hl => match us, hl with | [_, _], _ => rfl), sc_law_leaf, ck_law_leaf⟩
  have D28 : DefAt T K mg f_law_tree s_law_tree _ _ := ⟨PySem.W.mg_of X G a28, ⟨_, fun_mk (st := s_law_tree) l28 c28 k28⟩, (fun_mk (st := s_law_tree) l28 c28 k28).binds (ps := f_law_tree.ps) (fun _ _ _ _ _ _ us hl => match us, hl with | [_, _, _], _ => rfl), sc_law_tree, ck_law_tree⟩
  have D29 : DefAt T K mg f_law_placed s_law_placed _ _ := ⟨PySem.W.mg_of X G a29, ⟨_, fun_mk (st := s_law_placed) l29 c29 k29⟩, (fun_mk (st := s_law_placed) l29 c29 k29).binds (ps := f_law_placed.ps) (fun _ _ _ _ _ _ us hl => match us, hl with | [_, _, _], _ => rfl), sc_law_placed, ck_law_placed⟩
  have D30 : DefAt T K mg f_law_body s_law_body _ _ := ⟨PySem.W.mg_of X G a30, ⟨_, fun_mk (st := s_law_body) l30 c30 k30⟩, (fun_mk (st := s_law_body) l30 c30 k30).binds (ps := f_law_body.ps) (fun _ _ _ _ _ _ us hl => match us, hl with | [_, _, _, _], _ => rfl), sc_law_body, ck_law_body⟩
  have D31 : DefAt T K mg f_law_method s_law_method _ _ := ⟨PySem.W.mg_of X G a31, ⟨_, fun_mk (st := s_law_method) l31 c31 k31⟩, (fun_mk (st := s_law_method) l31 c31 k31).binds (ps := f_law_method.ps) (fun _ _ _ _ _ _ us hl => match us, hl with | [_, _, _], _ => rfl), sc_law_method, ck_law_method⟩
  have D32 : DefAt T K mg f_law_rank s_law_rank _ _ := ⟨PySem.W.mg_of X G a32, ⟨_, fun_mk (st := s_law_rank) l32 c32 k32⟩, (fun_mk (st := s_law_rank) l32 c32 k32).binds (ps := f_law_rank.ps) (fun _ _ _ _ _ _ us hl => match us, hl with | [_], _ => rfl), sc_law_rank, ck_law_rank⟩
  have D33 : DefAt T K mg f_law_laid s_law_laid _ _ := ⟨PySem.W.mg_of X G a33, ⟨_, fun_mk (st := s_law_laid) l33 c33 k33⟩, (fun_mk (st := s_law_laid) l33 c33 k33).binds (ps := f_law_laid.ps) (fun _ _ _ _ _ _ us hl => match us, hl with | [_, _], _ => rfl), sc_law_laid, ck_law_laid⟩
  have D34 : DefAt T K mg f_law_in s_law_in _ _ := ⟨PySem.W.mg_of X G a34, ⟨_, fun_mk (st := s_law_in) l34 c34 k34⟩, (fun_mk (st := s_law_in) l34 c34 k34).binds (ps := f_law_in.ps) (fun _ _ _ _ _ _ us hl => match us, hl with | [_, _, _, _, _], _ => rfl), sc_law_in, ck_law_in⟩
  have D35 : DefAt T K mg f_law_row s_law_row _ _ := ⟨PySem.W.mg_of X G a35, ⟨_, fun_mk (st := s_law_row) l35 c35 k35⟩, (fun_mk (st := s_law_row) l35 c35 k35).binds (ps := f_law_row.ps) (fun _ _ _ _ _ _ us hl => match us, hl with | [_, _, _, _, _], _ => rfl), sc_law_row, ck_law_row⟩
  have D36 : DefAt T K mg f_law_words s_law_words _ _ := ⟨PySem.W.mg_of X G a36, ⟨_, fun_mk (st := s_law_words) l36 c36 k36⟩, (fun_mk (st := s_law_words) l36 c36 k36).binds (ps := f_law_words.ps) (fun _ _ _ _ _ _ us hl => match us, hl with | [_, _, _, _], _ => rfl), sc_law_words, ck_law_words⟩
  have D37 : DefAt T K mg f_law_text s_law_text _ _ := ⟨PySem.W.mg_of X G a37, ⟨_, fun_mk (st := s_law_text) l37 c37 k37⟩, (fun_mk (st := s_law_text) l37 c37 k37).binds (ps := f_law_text.ps) (fun _ _ _ _ _ _ us hl => match us, hl with | [_, _, _, _], _ => rfl), sc_law_text, ck_law_text⟩
  have D38 : DefAt T K mg f_law_told s_law_told _ _ := ⟨PySem.W.mg_of X G a38, ⟨_, fun_mk (st := s_law_told) l38 c38 k38⟩, (fun_mk (st := s_law_told) l38 c38 k38).binds (ps := f_law_told.ps) (fun _ _ _ _ _ _ us hl => match us, hl with | [_], _ => rfl), sc_law_told, ck_law_told⟩
  have D39 : DefAt T K mg f_law s_law _ _ := ⟨PySem.W.mg_of X G a39, ⟨_, fun_mk (st := s_law) l39 c39 k39⟩, (fun_mk (st := s_law) l39 c39 k39).binds (ps := f_law.ps) (fun _ _ _ _ _ _ us hl => match us, hl with | [_], _ => rfl), sc_law, ck_law⟩
  refine ⟨_, _, fun s v => .of_eq rfl, ⟨?_, ?_, ?_, ?_, ?_, ?_, ?_⟩, D39⟩
  · intro k f hk
    match k, hk with
    | 0, hk => cases hk; exact ⟨_, _, _, D0⟩
    | 1, hk => cases hk; exact ⟨_, _, _, D1⟩
    | 2, hk => cases hk; exact ⟨_, _, _, D2⟩
    | 3, hk => cases hk; exact ⟨_, _, _, D3⟩
    | 4, hk => cases hk; exact ⟨_, _, _, D4⟩
    | 5, hk => cases hk; exact ⟨_, _, _, D5⟩
    | 6, hk => cases hk; exact ⟨_, _, _, D6⟩
    | 7, hk => cases hk; exact ⟨_, _, _, D7⟩
    | 8, hk => cases hk; exact ⟨_, _, _, D8⟩
    | 9, hk => cases hk; exact ⟨_, _, _, D9⟩
    | 10, hk => cases hk; exact ⟨_, _, _, D10⟩
    | 11, hk => cases hk; exact ⟨_, _, _, D11⟩
    | 12, hk => cases hk; exact ⟨_, _, _, D12⟩
    | 13, hk => cases hk; exact ⟨_, _, _, D13⟩
    | 14, hk => cases hk; exact ⟨_, _, _, D14⟩
    | 15, hk => cases hk; exact ⟨_, _, _, D15⟩
    | 16, hk => cases hk; exact ⟨_, _, _, D16⟩
    | 17, hk => cases hk; exact ⟨_, _, _, D17⟩
    | 18, hk => cases hk; exact ⟨_, _, _, D18⟩
    | 19, hk => cases hk; exact ⟨_, _, _, D19⟩
    | 20, hk => cases hk; exact ⟨_, _, _, D20⟩
    | 21, hk => cases hk; exact ⟨_, _, _, D21⟩
    | 22, hk => cases hk; exact ⟨_, _, _, D22⟩
    | 23, hk => cases hk; exact ⟨_, _, _, D23⟩
    | 24, hk => cases hk; exact ⟨_, _, _, D24⟩
    | 25, hk => cases hk; exact ⟨_, _, _, D25⟩
    | 26, hk => cases hk; exact ⟨_, _, _, D26⟩
    | 27, hk => cases hk; exact ⟨_, _, _, D27⟩
    | 28, hk => cases hk; exact ⟨_, _, _, D28⟩
    | 29, hk => cases hk; exact ⟨_, _, _, D29⟩
    | 30, hk => cases hk; exact ⟨_, _, _, D30⟩
    | 31, hk => cases hk; exact ⟨_, _, _, D31⟩
    | 32, hk => cases hk; exact ⟨_, _, _, D32⟩
    | 33, hk => cases hk; exact ⟨_, _, _, D33⟩
    | 34, hk => cases hk; exact ⟨_, _, _, D34⟩
    | 35, hk => cases hk; exact ⟨_, _, _, D35⟩
    | 36, hk => cases hk; exact ⟨_, _, _, D36⟩
    | 37, hk => cases hk; exact ⟨_, _, _, D37⟩
    | 38, hk => cases hk; exact ⟨_, _, _, D38⟩
    | 39, hk => cases hk; exact ⟨_, _, _, D39⟩
    | k + 40, hk => cases hk
  · intro k x d hk
    match k, hk with
    | 0, hk => cases hk; exact ⟨_, .str _, PySem.W.mg_of X G g0, ⟨_, rfl⟩, fun g => .str _⟩
    | 1, hk => cases hk; exact ⟨_, .str _, PySem.W.mg_of X G g1, ⟨_, rfl⟩, fun g => .str _⟩
    | 2, hk => cases hk; exact ⟨_, .str _, PySem.W.mg_of X G g2, ⟨_, rfl⟩, fun g => .str _⟩
    | 3, hk => cases hk; exact ⟨_, .str _, PySem.W.mg_of X G g3, ⟨_, rfl⟩, fun g => .str _⟩
    | 4, hk => cases hk; exact ⟨_, .ref ga4, PySem.W.mg_of X G g4, rfl, fun g => .cst (xs := [.str ("self" : Str), .str ("super" : Str), .str ("nil" : Str), .str ("yes" : Str), .str ("no" : Str)]) (.inr ⟨_, _, gn4, gl4, rfl, rfl, rfl, (by show 5 ≤ sizeLine; decide), .cons ⟨_, rfl⟩ (.cons ⟨_, rfl⟩ (.cons ⟨_, rfl⟩ (.cons ⟨_, rfl⟩ (.cons ⟨_, rfl⟩ (.nil)))))⟩) (.cons (.str _) (.cons (.str _) (.cons (.str _) (.cons (.str _) (.cons (.str _) (.nil))))))⟩
    | 5, hk => cases hk; exact ⟨_, .int _, PySem.W.mg_of X G g5, ⟨_, rfl⟩, fun g => .int _⟩
    | 6, hk => cases hk; exact ⟨_, .int _, PySem.W.mg_of X G g6, ⟨_, rfl⟩, fun g => .int _⟩
    | 7, hk => cases hk; exact ⟨_, .ref ga7, PySem.W.mg_of X G g7, rfl, fun g => .cst (xs := [.str ("self" : Str), .str ("nil" : Str), .str ("yes" : Str), .str ("no" : Str)]) (.inr ⟨_, _, gn7, gl7, rfl, rfl, rfl, (by show 4 ≤ sizeLine; decide), .cons ⟨_, rfl⟩ (.cons ⟨_, rfl⟩ (.cons ⟨_, rfl⟩ (.cons ⟨_, rfl⟩ (.nil))))⟩) (.cons (.str _) (.cons (.str _) (.cons (.str _) (.cons (.str _) (.nil)))))⟩
    | 8, hk => cases hk; exact ⟨_, .int _, PySem.W.mg_of X G g8, ⟨_, rfl⟩, fun g => .int _⟩
    | 9, hk => cases hk; exact ⟨_, .int _, PySem.W.mg_of X G g9, ⟨_, rfl⟩, fun g => .int _⟩
    | 10, hk => cases hk; exact ⟨_, .int _, PySem.W.mg_of X G g10, ⟨_, rfl⟩, fun g => .int _⟩
    | k + 11, hk => cases hk
  · intro x hx
    simp only [T, List.mem_cons, List.not_mem_nil, or_false] at hx
    rcases hx with rfl | rfl | rfl | rfl | rfl | rfl | rfl | rfl | rfl | rfl
    · exact PySem.W.mg_none_of X G z0
    · exact PySem.W.mg_none_of X G z1
    · exact PySem.W.mg_none_of X G z2
    · exact PySem.W.mg_none_of X G z3
    · exact PySem.W.mg_none_of X G z4
    · exact PySem.W.mg_none_of X G z5
    · exact PySem.W.mg_none_of X G z6
    · exact PySem.W.mg_none_of X G z7
    · exact PySem.W.mg_none_of X G z8
    · exact PySem.W.mg_none_of X G z9
  · intro c hc
    simp only [T, List.mem_cons, List.not_mem_nil, or_false] at hc
    subst hc
    · refine ⟨ec0, ?_, PySem.W.mg_of X G x0, xe0, xk0, xs0, xt0⟩
      show (match PySem.W.nsIn K mainGlobals ("BadTree" : Str) with | some (some (.ref C)) => some C | _ => none) = some ec0
      rw [x0]
  · intro x kvs hx
    simp only [T, List.mem_cons, List.not_mem_nil, or_false] at hx
    · cases hx
      refine dct_mk (PySem.W.mg_of X G d0) (dicW_of dl0 do0) fun q hq => ?_
      simp only [List.mem_cons, List.not_mem_nil, or_false] at hq
      rcases hq with rfl | rfl | rfl | rfl | rfl | rfl | rfl | rfl
      · exact ⟨_, dv0_0, ⟨_, rfl⟩⟩
      · exact ⟨_, dv0_1, ⟨_, rfl⟩⟩
      · exact ⟨_, dv0_2, ⟨_, rfl⟩⟩
      · exact ⟨_, dv0_3, ⟨_, rfl⟩⟩
      · exact ⟨_, dv0_4, ⟨_, rfl⟩⟩
      · exact ⟨_, dv0_5, ⟨_, rfl⟩⟩
      · exact ⟨_, dv0_6, ⟨_, rfl⟩⟩
      · exact ⟨_, dv0_7, ⟨_, rfl⟩⟩
  · intro x hx
    simp only [T, List.mem_cons, List.not_mem_nil, or_false] at hx
    rcases hx with rfl | rfl | rfl | rfl | rfl | rfl | rfl | rfl
    · exact ⟨.ty "ValueError", .type "ValueError", .ty _, .inr ⟨PySem.W.mg_none_of X G z0, by decide +kernel⟩⟩
    · exact ⟨.ref ca1, .ref ca1, .own _, .inl (PySem.W.mg_of X G cl1)⟩
    · exact ⟨.ref ca2, .ref ca2, .own _, .inl (PySem.W.mg_of X G cl2)⟩
    · exact ⟨.ref ca3, .ref ca3, .own _, .inl (PySem.W.mg_of X G cl3)⟩
    · exact ⟨.ref ca4, .ref ca4, .own _, .inl (PySem.W.mg_of X G cl4)⟩
    · exact ⟨.ref ca5, .ref ca5, .own _, .inl (PySem.W.mg_of X G cl5)⟩
    · exact ⟨.ref ca6, .ref ca6, .own _, .inl (PySem.W.mg_of X G cl6)⟩
    · exact ⟨.ref ca7, .ref ca7, .own _, .inl (PySem.W.mg_of X G cl7)⟩
  · intro c x b hx
    have EX0 : ExcC K ec0 := ⟨ex0_0, ex0_1, ex0_2, ex0_3, ex0_4, ex0_5, ex0_6, ex0_7⟩
    have CW0 : (wdOf K).cl ("BadTree" : Str) = some ec0 := by show (match PySem.W.nsIn K mainGlobals ("BadTree" : Str) with | some (some (.ref C)) => some C | _ => none) = some ec0; rw [x0]
    simp only [T, List.mem_cons, List.not_mem_nil, or_false] at hx
    rcases hx with hx | hx | hx | hx | hx | hx | hx | hx
    · cases hx
      exact ⟨_, CW0, subAt_blt EX0 (PySem.W.mg_none_of X G z0) (by decide +kernel) sk0 sm0⟩
    · cases hx
      exact ⟨_, CW0, subAt_own EX0 (PySem.W.mg_of X G cl1) sk1 sm1⟩
    · cases hx
      exact ⟨_, CW0, subAt_own EX0 (PySem.W.mg_of X G cl2) sk2 sm2⟩
    · cases hx
      exact ⟨_, CW0, subAt_own EX0 (PySem.W.mg_of X G cl3) sk3 sm3⟩
    · cases hx
      exact ⟨_, CW0, subAt_own EX0 (PySem.W.mg_of X G cl4) sk4 sm4⟩
    · cases hx
      exact ⟨_, CW0, subAt_own EX0 (PySem.W.mg_of X G cl5) sk5 sm5⟩
    · cases hx
      exact ⟨_, CW0, subAt_own EX0 (PySem.W.mg_of X G cl6) sk6 sm6⟩
    · cases hx
      exact ⟨_, CW0, subAt_own EX0 (PySem.W.mg_of X G cl7) sk7 sm7⟩
end K10
open PySem PySem.W PyProof.Rows
set_option maxRecDepth 100000 in
set_option maxHeartbeats 0 in
theorem PySem.Challenge.cw_thinghall_k10_whole_written_holds : PySem.Challenge.rw_thinghall_k10_whole_written.Holds := by
  w_on; o_law; k_head; (case hw => w_witness2)
  k_fill
  refine ML.walk (l := PySem.Challenge.rw_thinghall_k10_whole_written) (T := K10.T) (f := K10.f_law) (n := 200) (k := 39) rfl rfl rfl rfl ⟨rfl, by decide, by decide⟩ (fun w h Y => PySem.W.kIn_of Y) K10.law_pure ?F
  case F =>
    intro w mg fa h KX G hmg
    refine' K10.all_mk KX G hmg ?q_a0 ?q_l0 ?q_c0 ?q_k0 ?q_a1 ?q_l1 ?q_c1 ?q_k1 ?q_a2 ?q_l2 ?q_c2 ?q_k2 ?q_a3 ?q_l3 ?q_c3 ?q_k3 ?q_a4 ?q_l4 ?q_c4 ?q_k4 ?q_a5 ?q_l5 ?q_c5 ?q_k5 ?q_a6 ?q_l6 ?q_c6 ?q_k6 ?q_a7 ?q_l7 ?q_c7 ?q_k7 ?q_a8 ?q_l8 ?q_c8 ?q_k8 ?q_a9 ?q_l9 ?q_c9 ?q_k9 ?q_a10 ?q_l10 ?q_c10 ?q_k10 ?q_a11 ?q_l11 ?q_c11 ?q_k11 ?q_a12 ?q_l12 ?q_c12 ?q_k12 ?q_a13 ?q_l13 ?q_c13 ?q_k13 ?q_a14 ?q_l14 ?q_c14 ?q_k14 ?q_a15 ?q_l15 ?q_c15 ?q_k15 ?q_a16 ?q_l16 ?q_c16 ?q_k16 ?q_a17 ?q_l17 ?q_c17 ?q_k17 ?q_a18 ?q_l18 ?q_c18 ?q_k18 ?q_a19 ?q_l19 ?q_c19 ?q_k19 ?q_a20 ?q_l20 ?q_c20 ?q_k20 ?q_a21 ?q_l21 ?q_c21 ?q_k21 ?q_a22 ?q_l22 ?q_c22 ?q_k22 ?q_a23 ?q_l23 ?q_c23 ?q_k23 ?q_a24 ?q_l24 ?q_c24 ?q_k24 ?q_a25 ?q_l25 ?q_c25 ?q_k25 ?q_a26 ?q_l26 ?q_c26 ?q_k26 ?q_a27 ?q_l27 ?q_c27 ?q_k27 ?q_a28 ?q_l28 ?q_c28 ?q_k28 ?q_a29 ?q_l29 ?q_c29 ?q_k29 ?q_a30 ?q_l30 ?q_c30 ?q_k30 ?q_a31 ?q_l31 ?q_c31 ?q_k31 ?q_a32 ?q_l32 ?q_c32 ?q_k32 ?q_a33 ?q_l33 ?q_c33 ?q_k33 ?q_a34 ?q_l34 ?q_c34 ?q_k34 ?q_a35 ?q_l35 ?q_c35 ?q_k35 ?q_a36 ?q_l36 ?q_c36 ?q_k36 ?q_a37 ?q_l37 ?q_c37 ?q_k37 ?q_a38 ?q_l38 ?q_c38 ?q_k38 ?q_a39 ?q_l39 ?q_c39 ?q_k39 ?q_z0 ?q_z1 ?q_z2 ?q_z3 ?q_z4 ?q_z5 ?q_z6 ?q_z7 ?q_z8 ?q_z9 ?q_g0 ?q_g1 ?q_g2 ?q_g3 ?q_g4 ?q_gl4 ?q_g5 ?q_g6 ?q_g7 ?q_gl7 ?q_g8 ?q_g9 ?q_g10 ?q_x0 ?q_xe0 ?q_xk0 ?q_xs0 ?q_xt0 ?q_d0 ?q_dl0 ?q_do0 ?q_dv0_0 ?q_dv0_1 ?q_dv0_2 ?q_dv0_3 ?q_dv0_4 ?q_dv0_5 ?q_dv0_6 ?q_dv0_7 ?q_cl1 ?q_cl2 ?q_cl3 ?q_cl4 ?q_cl5 ?q_cl6 ?q_cl7 ?q_ex0_0 ?q_ex0_1 ?q_ex0_2 ?q_ex0_3 ?q_ex0_4 ?q_ex0_5 ?q_ex0_6 ?q_ex0_7 ?q_sk0 ?q_sm0 ?q_sk1 ?q_sm1 ?q_sk2 ?q_sm2 ?q_sk3 ?q_sm3 ?q_sk4 ?q_sm4 ?q_sk5 ?q_sm5 ?q_sk6 ?q_sm6 ?q_sk7 ?q_sm7
    (case q_a0 => k_is)
    (case q_l0 => k_is)
    (case q_c0 => k_is)
    (case q_k0 => k_is)
    (case q_a1 => k_is)
    (case q_l1 => k_is)
    (case q_c1 => k_is)
    (case q_k1 => k_is)
    (case q_a2 => k_is)
    (case q_l2 => k_is)
    (case q_c2 => k_is)
    (case q_k2 => k_is)
    (case q_a3 => k_is)
    (case q_l3 => k_is)
    (case q_c3 => k_is)
    (case q_k3 => k_is)
    (case q_a4 => k_is)
    (case q_l4 => k_is)
    (case q_c4 => k_is)
    (case q_k4 => k_is)
    (case q_a5 => k_is)
    (case q_l5 => k_is)
    (case q_c5 => k_is)
    (case q_k5 => k_is)
    (case q_a6 => k_is)
    (case q_l6 => k_is)
    (case q_c6 => k_is)
    (case q_k6 => k_is)
    (case q_a7 => k_is)
    (case q_l7 => k_is)
    (case q_c7 => k_is)
    (case q_k7 => k_is)
    (case q_a8 => k_is)
    (case q_l8 => k_is)
    (case q_c8 => k_is)
    (case q_k8 => k_is)
    (case q_a9 => k_is)
    (case q_l9 => k_is)
    (case q_c9 => k_is)
    (case q_k9 => k_is)
    (case q_a10 => k_is)
    (case q_l10 => k_is)
    (case q_c10 => k_is)
    (case q_k10 => k_is)
    (case q_a11 => k_is)
    (case q_l11 => k_is)
    (case q_c11 => k_is)
    (case q_k11 => k_is)
    (case q_a12 => k_is)
    (case q_l12 => k_is)
    (case q_c12 => k_is)
    (case q_k12 => k_is)
    (case q_a13 => k_is)
    (case q_l13 => k_is)
    (case q_c13 => k_is)
    (case q_k13 => k_is)
    (case q_a14 => k_is)
    (case q_l14 => k_is)
    (case q_c14 => k_is)
    (case q_k14 => k_is)
    (case q_a15 => k_is)
    (case q_l15 => k_is)
    (case q_c15 => k_is)
    (case q_k15 => k_is)
    (case q_a16 => k_is)
    (case q_l16 => k_is)
    (case q_c16 => k_is)
    (case q_k16 => k_is)
    (case q_a17 => k_is)
    (case q_l17 => k_is)
    (case q_c17 => k_is)
    (case q_k17 => k_is)
    (case q_a18 => k_is)
    (case q_l18 => k_is)
    (case q_c18 => k_is)
    (case q_k18 => k_is)
    (case q_a19 => k_is)
    (case q_l19 => k_is)
    (case q_c19 => k_is)
    (case q_k19 => k_is)
    (case q_a20 => k_is)
    (case q_l20 => k_is)
    (case q_c20 => k_is)
    (case q_k20 => k_is)
    (case q_a21 => k_is)
    (case q_l21 => k_is)
    (case q_c21 => k_is)
    (case q_k21 => k_is)
    (case q_a22 => k_is)
    (case q_l22 => k_is)
    (case q_c22 => k_is)
    (case q_k22 => k_is)
    (case q_a23 => k_is)
    (case q_l23 => k_is)
    (case q_c23 => k_is)
    (case q_k23 => k_is)
    (case q_a24 => k_is)
    (case q_l24 => k_is)
    (case q_c24 => k_is)
    (case q_k24 => k_is)
    (case q_a25 => k_is)
    (case q_l25 => k_is)
    (case q_c25 => k_is)
    (case q_k25 => k_is)
    (case q_a26 => k_is)
    (case q_l26 => k_is)
    (case q_c26 => k_is)
    (case q_k26 => k_is)
    (case q_a27 => k_is)
    (case q_l27 => k_is)
    (case q_c27 => k_is)
    (case q_k27 => k_is)
    (case q_a28 => k_is)
    (case q_l28 => k_is)
    (case q_c28 => k_is)
    (case q_k28 => k_is)
    (case q_a29 => k_is)
    (case q_l29 => k_is)
    (case q_c29 => k_is)
    (case q_k29 => k_is)
    (case q_a30 => k_is)
    (case q_l30 => k_is)
    (case q_c30 => k_is)
    (case q_k30 => k_is)
    (case q_a31 => k_is)
    (case q_l31 => k_is)
    (case q_c31 => k_is)
    (case q_k31 => k_is)
    (case q_a32 => k_is)
    (case q_l32 => k_is)
    (case q_c32 => k_is)
    (case q_k32 => k_is)
    (case q_a33 => k_is)
    (case q_l33 => k_is)
    (case q_c33 => k_is)
    (case q_k33 => k_is)
    (case q_a34 => k_is)
    (case q_l34 => k_is)
    (case q_c34 => k_is)
    (case q_k34 => k_is)
    (case q_a35 => k_is)
    (case q_l35 => k_is)
    (case q_c35 => k_is)
    (case q_k35 => k_is)
    (case q_a36 => k_is)
    (case q_l36 => k_is)
    (case q_c36 => k_is)
    (case q_k36 => k_is)
    (case q_a37 => k_is)
    (case q_l37 => k_is)
    (case q_c37 => k_is)
    (case q_k37 => k_is)
    (case q_a38 => k_is)
    (case q_l38 => k_is)
    (case q_c38 => k_is)
    (case q_k38 => k_is)
    (case q_a39 => k_is)
    (case q_l39 => k_is)
    (case q_c39 => k_is)
    (case q_k39 => k_is)
    (case q_z0 => k_is)
    (case q_z1 => k_is)
    (case q_z2 => k_is)
    (case q_z3 => k_is)
    (case q_z4 => k_is)
    (case q_z5 => k_is)
    (case q_z6 => k_is)
    (case q_z7 => k_is)
    (case q_z8 => k_is)
    (case q_z9 => k_is)
    (case q_g0 => k_is)
    (case q_g1 => k_is)
    (case q_g2 => k_is)
    (case q_g3 => k_is)
    (case q_g4 => k_is)
    (case q_gl4 => k_is)
    (case q_g5 => k_is)
    (case q_g6 => k_is)
    (case q_g7 => k_is)
    (case q_gl7 => k_is)
    (case q_g8 => k_is)
    (case q_g9 => k_is)
    (case q_g10 => k_is)
    (case q_x0 => k_is)
    (case q_xe0 => k_exc)
    (case q_xk0 => k_is)
    (case q_xs0 => k_is)
    (case q_xt0 => k_is)
    (case q_d0 => k_is)
    (case q_dl0 => k_is)
    (case q_do0 => exact rfl)
    (case q_dv0_0 => k_is)
    (case q_dv0_1 => k_is)
    (case q_dv0_2 => k_is)
    (case q_dv0_3 => k_is)
    (case q_dv0_4 => k_is)
    (case q_dv0_5 => k_is)
    (case q_dv0_6 => k_is)
    (case q_dv0_7 => k_is)
    (case q_cl1 => k_is)
    (case q_cl2 => k_is)
    (case q_cl3 => k_is)
    (case q_cl4 => k_is)
    (case q_cl5 => k_is)
    (case q_cl6 => k_is)
    (case q_cl7 => k_is)
    (case q_ex0_0 => k_is)
    (case q_ex0_1 => k_is)
    (case q_ex0_2 => k_is)
    (case q_ex0_3 => k_is)
    (case q_ex0_4 => k_is)
    (case q_ex0_5 => k_is)
    (case q_ex0_6 => k_is)
    (case q_ex0_7 => k_is)
    (case q_sk0 => kit_is)
    (case q_sm0 => kts_exm)
    (case q_sk1 => kit_is)
    (case q_sm1 => kts_exm)
    (case q_sk2 => kit_is)
    (case q_sm2 => kts_exm)
    (case q_sk3 => kit_is)
    (case q_sm3 => kts_exm)
    (case q_sk4 => kit_is)
    (case q_sm4 => kts_exm)
    (case q_sk5 => kit_is)
    (case q_sm5 => kts_exm)
    (case q_sk6 => kit_is)
    (case q_sm6 => kts_exm)
    (case q_sk7 => kit_is)
    (case q_sm7 => kts_exm)
